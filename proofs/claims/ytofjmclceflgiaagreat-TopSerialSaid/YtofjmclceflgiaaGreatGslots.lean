/- WRITTEN BY PROGRAM (dec.py): for each Go function the clean formula F, the call's contract C, and the proof S that F gives C. -/
import Derived.Test.YtofjmclceflgiaaGreatRows
import Derived.Test.YtofjmclceflgiaaGreatGF
namespace Go.Proofs.YtofjmclceflgiaaGreat
open Go
set_option linter.unusedVariables false
set_option maxRecDepth 100000
set_option maxHeartbeats 4000000
noncomputable section

/-! ### towpath/slots.Newest (function 37) -/

theorem S_Jb {d:OA} {w:World} {R:T_e→Int→Int→Bool→Int→WP} (h:F_jd d R w):C_Nb d w R:=by
 unfold F_jd at h
 refine Yh Tryz.func37 ?_
 ·refine Yt ?_
  refine Yw pv_ h fun b_ w1 h=> ?_
  refine Yf P4 [0,2,3,4,5] (Ys (Yp P1 [0,2,3,4,5,13] (Yd 0 ?_)))
  obtain⟨I,μ,h0,hr⟩:=h
  refine znb (fun m l w=>∃(generation:Int) (slot:Int) (ok:Bool) (t13:Int),l=[(0,Vp d),(2,pv_ b_),(3,Vi generation),(4,Vi slot),(5,Vo ok),(13,Vi t13)]∧I generation slot ok t13 w∧μ generation slot ok t13 w=m) ⟨0,0,false,0,rfl,h0,rfl⟩ ?_
  rintro _ _ w2 ⟨generation,slot,ok,t13,rfl,hI,rfl⟩
  obtain⟨again_,again__h,h⟩:∃ again_:Int→Int→Bool→Int→WP,(∀ generation' slot' ok' t13' w',again_ generation' slot' ok' t13' w'→I generation' slot' ok' t13' w'∧μ generation' slot' ok' t13' w'<μ generation slot ok t13 w2)∧F_Xb d R b_ again_ generation slot ok t13 w2:=⟨_,fun _ _ _ _ _ h=>h,hr generation slot ok t13 w2 hI⟩
  clear h0 hI
  unfold F_Xb at h
  refine Yp P1 [0,2,3,4,5,13,14] (Ys ?_)
  refine Yc h (fun h=> ?_) fun h=> ?_
  ·refine zk ?_
   refine Ycut (fun l w=>∃(generation1:Int) (slot1:Int) (ok1:Bool),l=[(0,Vp d),(2,pv_ b_),(3,Vi generation1),(4,Vi slot1),(5,Vo ok1),(13,Vi t13)]∧F_pb t13 again_ generation1 slot1 ok1 w) ?_ ?_
   ·refine Yd 1 (Yp P2 [0,2,3,4,5,7,13] (Yt (Yn P2 ?_)))
    refine Ym2 h fun b_1 f w4 h=> ?_
    refine Yf (Pl 5) [0,2,3,4,5,7,8,9,13] (Ys (Yp P2 [0,2,3,4,5,7,8,9,13,23] ?_))
    refine Yc h (fun h=> ?_) fun h=> ?_
    ·refine Yt (Yn P2 ?_)
     refine Yo h fun w5 h=> ?_
     refine Yf P4 [2,3,4,5,6] ?_
     obtain⟨res,hc_res,h⟩:=h
     exact YTg (rs:=[(ResultVar.cell 2 119),(ResultVar.tmp 3),(ResultVar.tmp 4),(ResultVar.tmp 5),(ResultVar.tmp 6)]) (vs:=[Value.agg #[Vi res.Mark,sv_ res.Beyond,sv_ res.Held],Vi 0,Vi 0,Vo false,Vi f]) (⟨b_,0,[Vi res.Mark,sv_ res.Beyond,sv_ res.Held],K_,hc_res,(zq (k:=3) K_ K_),.inl ⟨K_,rfl⟩,⟨K_,⟨K_,⟨K_,⟨K_,trivial⟩⟩⟩⟩⟩) ⟨res,0,0,false,f,rfl,h⟩
    ·refine zk (Yt (Yn P1 ?_))
     refine Ym3 h fun v28 n_ is w6 h=> ?_
     refine Yn P4 ?_
     refine Yw pv_ h fun b_2 w7 h=> ?_
     refine Yo h fun w8 h=> ?_
     refine Yf P2 [0,2,3,4,5,7,10,11,12,13] (Yp [.plain,.plain,.plain,.plain,.plain,.plain,.plain,.plain,.plain,.pick,.pick] [0,2,3,4,5,7,10,11,13,42] ?_)
     refine Yc h (fun h=> ?_) fun h=> ?_
     ·refine Yr ?_
      refine YL h fun v43 h=> ?_
      refine Yn P3 ?_
      refine Yo h fun w9 h=> ?_
      refine Yf P3 [0,2,3,4,5,13] ?_
      exact⟨_,Sub.mk K_,(IntKind.i64.wrap n_),t13,true,rfl,h⟩
     ·refine zk ?_
      exact⟨_,Sub.mk K_,generation,slot,ok,rfl,h⟩
   ·rintro _ w3 ⟨generation1,slot1,ok1,rfl,h⟩
    unfold F_pb at h
    refine Yr (Yf P2 [0,2,3,4,5,13] ?_)
    have hb_:=again__h _ _ _ _ _ h
    exact⟨_,hb_.2,_,Sub.mk K_,generation1,slot1,ok1,(IntKind.i64.wrap (t13+1)),rfl,hb_.1,rfl⟩
  ·refine z3 0 (Yt ?_)
   refine YL h fun v48 h=> ?_
   refine Yn P3 ?_
   refine Yo h fun w10 h=> ?_
   refine Yf P4 [2,3,4,5,6] ?_
   obtain⟨res1,hc_res1,h⟩:=h
   exact YTg (rs:=[(ResultVar.cell 2 119),(ResultVar.tmp 3),(ResultVar.tmp 4),(ResultVar.tmp 5),(ResultVar.tmp 6)]) (vs:=[Value.agg #[Vi res1.Mark,sv_ res1.Beyond,sv_ res1.Held],Vi generation,Vi slot,Vo ok,Vi 0]) (⟨b_,0,[Vi res1.Mark,sv_ res1.Beyond,sv_ res1.Held],K_,hc_res1,(zq (k:=3) K_ K_),.inl ⟨K_,rfl⟩,⟨K_,⟨K_,⟨K_,⟨K_,trivial⟩⟩⟩⟩⟩) ⟨res1,generation,slot,ok,0,rfl,h⟩

/-! ### towpath/slots.whole (function 58) -/
def zns:=cb_ Tryz.f58
def z1u:=cl_ zns
def zow:=co_ z1u
def zdn:=cr_ zns
def zos:=cl_ zdn
def z2u:=cl_ zos
def zpw:=co_ z2u
def zen:=cr_ zos
def zps:=cl_ zen
def z3u:=cl_ zps
def zqw:=co_ z3u
def zKn:=cr_ zps
def z4u:=cr_ zen
def zwj:=cr_ zdn
def zLn:=cl_ zwj
def z5u:=co_ zLn
def zxj:=cr_ zwj
def zjm:=cl_ zxj
def zMn:=cl_ zjm
def z6u:=co_ zMn
def zkm:=cr_ zjm
def zNn:=cl_ zkm
def zlm:=cl_ zNn
def zmm:=cl_ zlm
def zOn:=cl_ zmm
def z7u:=co_ zOn
def zyj:=cr_ zmm
def z8u:=cl_ zyj
def z9u:=cr_ zyj
def zzj:=cr_ zlm
def zPn:=cl_ zzj
def zQn:=cl_ zPn
def zav:=co_ zQn
def znm:=cr_ zzj
def zbv:=co_ znm
def zAj:=cr_ zxj
def zom:=cl_ zAj
def zRn:=cl_ zom
def zcv:=co_ zRn
def zpm:=cr_ zom
def zqm:=cl_ zpm
def zSn:=cl_ zqm
def zdv:=co_ zSn
def zTn:=cr_ zqm
def zev:=cr_ zpm
def zBj:=cr_ zAj
def zUn:=cl_ zBj
def zfv:=co_ zUn
def zCj:=cr_ zBj
def zVn:=cl_ zCj
def zgv:=co_ zVn
def zWn:=cr_ zCj
def zve:List Nat:=[0,1,2,3,4,5,6,7,8,9,10,11,12,13]

theorem S_Ob {b_:Slc} {w:World} {R:T_e→Int→Bool→WP} (h:F_od b_ R w):C_rb b_ w R:=by
 unfold F_od at h
 unfold C_rb
 refine Calls.mono (z4 (args:=[sv_ b_]) (R:=fun v w'=>∃(r0:T_e) (r1:Int) (r2:Bool),v=Value.tuple #[Value.agg #[Vi r0.Mark,sv_ r0.Beyond,sv_ r0.Held],Value.int .u64 r1,Vo r2]∧R r0 r1 r2 w') Tryz.func58 (c:=zns) K_ 52 K_ K_ [(0,sv_ b_)] K_ ?_) ?_
 ·refine zf (x:=z1u) (y:=zdn) K_ ?_
  refine ze (id:=0) (ops:=zow) K_ ?_
  refine zd [] 0 [(0,[],sv_ b_)] K_ K_ ?_
  refine zQb (op:=(Op.alloc 119)) (ty:=0) (dst:=some 2) (fun bb=>pv_ bb) (Obj.cells ([Vi 0,Value.slice none 0 0,Value.slice none 0 0]).toArray y_i (0,0)) K_ K_ (fun b_1 w1 hb hw=> ?_)
  replace h:=h b_1 w1 hb hw
  clear hb hw
  refine zd [.plain,.plain] 3 [(0,[],sv_ b_),(2,[],pv_ b_1),(3,[],Value.int .u64 0)] K_ K_ ?_
  refine zj [(0,sv_ b_),(2,pv_ b_1),(3,Value.int .u64 0)] K_ K_ ?_
  change WpE _ _ zdn _ _ _
  refine zf (x:=zos) (y:=zwj) K_ ?_
  refine zf (x:=z2u) (y:=zen) K_ ?_
  refine ze (id:=1) (ops:=zpw) K_ ?_
  refine zd [.plain,.plain,.plain] 3 [(0,[],sv_ b_),(2,[],pv_ b_1),(3,[],Value.int .u64 0),(10,[],Vo (decide (((b_.len:Nat):Int)<20)))] K_ K_ ?_
  refine zj [(0,sv_ b_),(2,pv_ b_1),(3,Value.int .u64 0),(10,Vo (decide (((b_.len:Nat):Int)<20)))] K_ K_ ?_
  change WpE _ _ zen _ _ _
  refine zG (o:=(Operand.tmp 10)) (b:=(decide (((b_.len:Nat):Int)<20))) (x:=zps) (y:=z4u) K_ K_ (fun hb=> ?_) (fun hb=> ?_)
  ·replace h:=h.1 hb
   refine zf (x:=z3u) (y:=zKn) K_ ?_
   refine ze (id:=2) (ops:=zqw) K_ ?_
   refine zd [.plain] 1 [(2,[],pv_ b_1),(3,[],Value.int .u64 0),(11,[],Value.agg #[Vi 0,Value.slice none 0 0,Value.slice none 0 0])] K_ K_ ?_
   obtain⟨hc,h⟩:=h
   refine zab (t:=119) (a:=(Operand.tmp 2)) (x:=(Operand.tmp 11)) (b:=b_1) (o:=0) (ty:=0) (dst:=none) [Vi 0,Value.slice none 0 0,Value.slice none 0 0] K_ K_ K_ (k:=3) K_ K_ K_ hc (fun w2 hw=> ?_)
   replace h:=h w2 hw
   clear hw
   refine zd [.plain,.plain] 4 [(2,[],pv_ b_1),(3,[],Value.int .u64 0),(4,[],Vo false)] K_ K_ ?_
   refine zj [(2,pv_ b_1),(3,Value.int .u64 0),(4,Vo false)] K_ K_ ?_
   change WpE _ _ zKn _ _ _
   refine z2 K_ ?_
   obtain⟨res,hc_res,h⟩:=h
   repeat (first | refine zM ?_ | refine zA ?_ | refine zF ?_ | refine zN ?_)
   exact retT (rs:=[(ResultVar.cell 2 119),(ResultVar.tmp 3),(ResultVar.tmp 4)]) (vs:=[Value.agg #[Vi res.Mark,sv_ res.Beyond,sv_ res.Held],Value.int .u64 0,Vo false]) K_ (⟨b_1,0,[Vi res.Mark,sv_ res.Beyond,sv_ res.Held],K_,hc_res,(zq (k:=3) K_ K_),.inl ⟨K_,rfl⟩,⟨K_,⟨K_,trivial⟩⟩⟩) K_ ⟨res,0,false,rfl,h⟩
  ·replace h:=h.2 hb
   refine zS K_ ?_
   change WpE _ _ zwj _ _ _
   refine zf (x:=zLn) (y:=zxj) K_ ?_
   refine ze (id:=3) (ops:=z5u) K_ ?_
   refine zd [.plain] 1 [(0,[],sv_ b_),(2,[],pv_ b_1),(3,[],Value.int .u64 0),(12,[],sv_ b_)] K_ K_ ?_
   obtain⟨h0,h1,h⟩:=h
   refine zIc (t:=109) (e:=5) (x:=(Operand.tmp 12)) (hi:=(Operand.const (Value.int IntKind.i64 20))) (p:=b_.ptr) (l:=b_.len) (c:=b_.cap) (sz:=1) (k:= .i64) (j:=20) (ty:=109) (dst:=some 13) K_ K_ K_ K_ K_ h0 h1 ?_
   refine zd [] 2 [(0,[],sv_ b_),(2,[],pv_ b_1),(3,[],Value.int .u64 0),(13,[],Value.slice b_.ptr 20 b_.cap)] K_ K_ ?_
   refine zw (op:=(Op.sliceToArrayPointer 237 (Operand.tmp 13))) (ty:=0) (dst:=some 14) (Vp b_.ptr) K_ (fun ww=>by kernel_rfl) ?_
   refine zd [] 3 [(0,[],sv_ b_),(2,[],pv_ b_1),(3,[],Value.int .u64 0),(14,[],Vp b_.ptr)] K_ K_ ?_
   obtain⟨hp_1,h⟩:=h
   refine zH [(0,[],sv_ b_),(2,[],pv_ b_1),(3,[],Value.int .u64 0),(14,[],Vp (some ⟨(pblk b_.ptr),(poff b_.ptr),none⟩))] (congrArg (fun pp=>([(0,[],sv_ b_),(2,[],pv_ b_1),(3,[],Value.int .u64 0),(14,[],Vp pp)]:GEnv)) hp_1) ?_
   obtain⟨v15,hl_v15_0,hc,h⟩:=h
   refine zqc (t:=237) (a:=(Operand.tmp 14)) (b:=(pblk b_.ptr)) (o:=(poff b_.ptr)) (ty:=237) (dst:=some 15) (List.map (Value.int .u8) v15) K_ K_ K_ (k:=20) K_ (by simp [hl_v15_0]) hc ?_
   refine zd [] 4 [(0,[],sv_ b_),(2,[],pv_ b_1),(3,[],Value.int .u64 0),(15,[],Value.agg (List.map (Value.int .u8) v15).toArray)] K_ K_ ?_
   refine zQb (op:=(Op.alloc 237)) (ty:=0) (dst:=some 5) (fun bb=>pv_ bb) (Obj.cells ((List.map (Value.int .u8) (List.replicate 20 0))).toArray y_x (0,0)) K_ K_ (fun b_2 w3 hb hw=> ?_)
   replace h:=h b_2 w3 hb hw
   clear hb hw
   refine zd [] 5 [(0,[],sv_ b_),(2,[],pv_ b_1),(3,[],Value.int .u64 0),(5,[],pv_ b_2),(15,[],Value.agg (List.map (Value.int .u8) v15).toArray)] K_ K_ ?_
   obtain⟨hc,h⟩:=h
   refine zab (t:=237) (a:=(Operand.tmp 5)) (x:=(Operand.tmp 15)) (b:=b_2) (o:=0) (ty:=0) (dst:=none) (List.map (Value.int .u8) v15) K_ K_ K_ (k:=20) K_ (by simp [*]) (by simp [zI,oneCell,List.all_eq_true]) hc (fun w4 hw=> ?_)
   replace h:=h w4 hw
   clear hw
   refine zj [(0,sv_ b_),(2,pv_ b_1),(3,Value.int .u64 0),(5,pv_ b_2)] K_ K_ ?_
   change WpE _ _ zxj _ _ _
   refine zf (x:=zjm) (y:=zAj) K_ ?_
   refine zf (x:=zMn) (y:=zkm) K_ ?_
   refine ze (id:=4) (ops:=z6u) K_ ?_
   refine zd [.plain] 1 [(0,[],sv_ b_),(2,[],pv_ b_1),(3,[],Value.int .u64 0),(5,[],pv_ b_2),(6,[],Vi 11)] K_ K_ ?_
   refine zj [(0,sv_ b_),(2,pv_ b_1),(3,Value.int .u64 0),(5,pv_ b_2),(6,Vi 11)] K_ K_ ?_
   change WpE _ _ zkm _ _ _
   refine zQ (id:=0) (x:=zNn) K_ ?_
   obtain⟨I,μ,h0,hr⟩:=h
   refine zDc (x:=zlm) K_ (fun m l w=>∃(generation:Int) (i:Int),l=[(0,sv_ b_),(2,pv_ b_1),(3,Value.int .u64 generation),(5,pv_ b_2),(6,Vi i)]∧I generation i w∧μ generation i w=m) (l':=[(0,sv_ b_),(2,pv_ b_1),(3,Value.int .u64 0),(5,pv_ b_2),(6,Vi 11)]) (Sub.mk K_) ⟨0,11,rfl,h0,rfl⟩ ?_
   rintro _ _ w5 ⟨generation,i,rfl,hI,rfl⟩
   obtain⟨again_,again__h,h⟩:∃ again_:Int→Int→WP,(∀ generation' i' w',again_ generation' i' w'→I generation' i' w'∧μ generation' i' w'<μ generation i w5)∧F_1c b_ R b_1 b_2 again_ generation i w5:=⟨_,fun _ _ _ h=>h,hr generation i w5 hI⟩
   clear h0 hI
   unfold F_1c at h
   refine zf (x:=zmm) (y:=zzj) K_ ?_
   refine zf (x:=zOn) (y:=zyj) K_ ?_
   refine ze (id:=5) (ops:=z7u) K_ ?_
   refine zd [.plain,.plain] 2 [(0,[],sv_ b_),(2,[],pv_ b_1),(3,[],Value.int .u64 generation),(5,[],pv_ b_2),(6,[],Vi i),(17,[],Vo (decide (i≥4)))] K_ K_ ?_
   refine zj [(0,sv_ b_),(2,pv_ b_1),(3,Value.int .u64 generation),(5,pv_ b_2),(6,Vi i),(17,Vo (decide (i≥4)))] K_ K_ ?_
   change WpE _ _ zyj _ _ _
   refine zG (o:=(Operand.tmp 17)) (b:=(decide (i≥4))) (x:=z8u) (y:=z9u) K_ K_ (fun hb=> ?_) (fun hb=> ?_)
   ·replace h:=h.1 hb
    refine zS K_ ?_
    change WpE _ _ zzj _ _ _
    refine zf (x:=zPn) (y:=znm) K_ ?_
    refine zQ (id:=1) (x:=zQn) K_ ?_
    refine ze (id:=7) (ops:=zav) K_ ?_
    refine zd [.plain,.plain,.plain] 3 [(0,[],sv_ b_),(2,[],pv_ b_1),(3,[],Value.int .u64 generation),(5,[],pv_ b_2),(6,[],Vi i),(21,[],Value.int .u64 (IntKind.u64.wrap (generation*2 ^ 8))),(22,[],Vi i)] K_ K_ ?_
    obtain⟨h0,h1,h⟩:=h
    refine zdb (t:=237) (e:=5) (x:=(Operand.tmp 5)) (ix:=(Operand.tmp 22)) (b:=b_2) (o:=0) (len:=20) (k:= .i64) (j:=i) (ty:=0) (dst:=some 23) K_ K_ K_ K_ K_ h0 h1 ?_
    refine zd [] 4 [(0,[],sv_ b_),(2,[],pv_ b_1),(3,[],Value.int .u64 generation),(5,[],pv_ b_2),(6,[],Vi i),(21,[],Value.int .u64 (IntKind.u64.wrap (generation*2 ^ 8))),(23,[],Vp (some ⟨b_2,0+i.toNat,none⟩))] K_ K_ ?_
    obtain⟨v24,hc,h⟩:=h
    refine zB (t:=5) (a:=(Operand.tmp 23)) (b:=b_2) (o:=(0+i.toNat)) (ty:=5) (dst:=some 24) K_ K_ K_ hc ?_
    refine zd [.plain,.plain,.plain] 8 [(0,[],sv_ b_),(2,[],pv_ b_1),(3,[],Value.int .u64 (bor .u64 (IntKind.u64.wrap (generation*2 ^ 8)) (IntKind.u64.wrap v24))),(5,[],pv_ b_2),(6,[],Vi i)] K_ K_ ?_
    refine zj [(0,sv_ b_),(2,pv_ b_1),(3,Value.int .u64 (bor .u64 (IntKind.u64.wrap (generation*2 ^ 8)) (IntKind.u64.wrap v24))),(5,pv_ b_2),(6,Vi i)] K_ K_ ?_
    change WpE _ _ znm _ _ _
    refine ze (id:=6) (ops:=zbv) K_ ?_
    refine zd [.plain,.plain,.plain] 3 [(0,[],sv_ b_),(2,[],pv_ b_1),(3,[],Value.int .u64 (bor .u64 (IntKind.u64.wrap (generation*2 ^ 8)) (IntKind.u64.wrap v24))),(5,[],pv_ b_2),(6,[],Vi (IntKind.i64.wrap (i - 1)))] K_ K_ ?_
    refine zj [(0,sv_ b_),(2,pv_ b_1),(3,Value.int .u64 (bor .u64 (IntKind.u64.wrap (generation*2 ^ 8)) (IntKind.u64.wrap v24))),(5,pv_ b_2),(6,Vi (IntKind.i64.wrap (i - 1)))] K_ K_ ?_
    have hb_:=again__h _ _ _ h
    exact⟨_,hb_.2,[(0,sv_ b_),(2,pv_ b_1),(3,Value.int .u64 (bor .u64 (IntKind.u64.wrap (generation*2 ^ 8)) (IntKind.u64.wrap v24))),(5,pv_ b_2),(6,Vi (IntKind.i64.wrap (i - 1)))],Sub.mk K_,(bor .u64 (IntKind.u64.wrap (generation*2 ^ 8)) (IntKind.u64.wrap v24)),(IntKind.i64.wrap (i - 1)),rfl,hb_.1,rfl⟩
   ·replace h:=h.2 hb
    refine z7b (id:=0) K_ ?_
    change WpE _ _ zAj _ _ _
    refine zf (x:=zom) (y:=zBj) K_ ?_
    refine zmb (x:=zRn) (y:=zpm) K_ (fun l w=>∃(t40:Bool),l=[(0,sv_ b_),(2,pv_ b_1),(3,Value.int .u64 generation),(40,Vo t40)]∧F_cc b_ R b_1 generation t40 w) ?_ ?_
    ·refine zm (id:=8) (ops:=zcv) zve K_ K_ K_ K_ (fun w11 hw=> ?_)
     replace h:=h w11 hw
     clear hw
     refine zp [.plain,.plain,.plain,.plain,.plain,.pick,.plain] 7 [(0,[],sv_ b_),(2,[],pv_ b_1),(3,[],Value.int .u64 generation),(5,[],pv_ b_2),(33,[],Vo ((decide (generation<1))||(decide (generation>4611686018427387904))))] K_ K_ ?_
     refine zLf 33 ((decide (generation<1))||(decide (generation>4611686018427387904))) K_ (fun hb=> ?_) (fun hb=> ?_)
     ·replace h:=h.1 hb
      refine zp [] 7 [(0,[],sv_ b_),(2,[],pv_ b_1),(3,[],Value.int .u64 generation),(5,[],pv_ b_2),(33,[],Vo true)] K_ K_ ?_
      refine zp [.skip,.skip,.skip,.skip,.skip,.skip,.plain] 14 [(0,[],sv_ b_),(2,[],pv_ b_1),(3,[],Value.int .u64 generation),(40,[],Vo true)] K_ K_ ?_
      refine zdd [(0,sv_ b_),(2,pv_ b_1),(3,Value.int .u64 generation),(40,Vo true)] K_ K_ K_ ?_
      exact⟨[(0,sv_ b_),(2,pv_ b_1),(3,Value.int .u64 generation),(40,Vo true)],Sub.mk K_,true,rfl,h⟩
     ·replace h:=h.2 hb
      refine zp [] 7 [(0,[],sv_ b_),(2,[],pv_ b_1),(3,[],Value.int .u64 generation),(5,[],pv_ b_2),(33,[],Vo false)] K_ K_ ?_
      refine zp [] 7 [(0,[],sv_ b_),(2,[],pv_ b_1),(3,[],Value.int .u64 generation),(5,[],pv_ b_2),(33,[],Vo false)] K_ K_ ?_
      obtain⟨v34,hl_v34_0,hc,h⟩:=h
      refine zMf (i:=7) K_ (t:=237) (a:=(Operand.tmp 5)) (b:=b_2) (o:=0) (ty:=237) (dst:=some 34) (List.map (Value.int .u8) v34) K_ K_ K_ (k:=20) K_ (by simp [hl_v34_0]) hc ?_
      refine zp [.sure,.sure] 10 [(0,[],sv_ b_),(2,[],pv_ b_1),(3,[],Value.int .u64 generation),(33,[],Vo false),(34,[],Value.agg (List.map (Value.int .u8) v34).toArray),(35,[],Value.int .u64 generation),(36,[],sv_ b_)] K_ K_ ?_
      obtain⟨hc,h⟩:=h
      refine z0j (i:=10) K_ (t:=109) (e:=5) (x:=(Operand.tmp 36)) (lo:=(Operand.const (Value.int IntKind.i64 20))) (s:=b_) (sz:=1) (k:= .i64) (a:=20) (ty:=109) (dst:=some 37) K_ K_ K_ K_ K_ hc (fun s1 hs=> ?_)
      replace h:=h s1 hs
      clear hs
      refine zp [] 11 [(0,[],sv_ b_),(2,[],pv_ b_1),(3,[],Value.int .u64 generation),(33,[],Vo false),(34,[],Value.agg (List.map (Value.int .u8) v34).toArray),(35,[],Value.int .u64 generation),(37,[],sv_ s1)] K_ K_ ?_
      refine zt (op:=(Op.call (Call.mk (Callee.value (Operand.func 95)) #[(Operand.tmp 35),(Operand.tmp 37)] #[160,109]))) (ty:=237) (dst:=some 38) 11 [6,8,10,2,5,9,1,4,0,3] [(7,fun w'=>zc w' b_2 0 (List.map (Value.int .u8) v34))] 95 #[Value.int .u64 generation,sv_ s1] K_ K_ K_ K_ K_ (fun ww=>by kernel_rfl) (Calls.mono h ?_)
      rintro _ w12 ⟨v38,hl_v38_0,rfl,h⟩
      replace h:=h hl_v38_0
      obtain⟨hk0,h⟩:=h
      refine⟨_,rfl,⟨hk0,trivial⟩,?_⟩
      refine zp [] 12 [(0,[],sv_ b_),(2,[],pv_ b_1),(3,[],Value.int .u64 generation),(33,[],Vo false),(34,[],Value.agg (List.map (Value.int .u8) v34).toArray),(38,[],Value.agg (List.map (Value.int .u8) v38).toArray)] K_ K_ ?_
      refine z9m (i:=12) K_ (op:=(Op.binOp BinOp.neq 237 (Operand.tmp 34) (Operand.tmp 38) 237)) (ty:=4) (dst:=some 39) (Vo (!(v34==v38))) K_ (fun ww=>zfi (N:=20) (xs:=v34) (ys:=v38) (k:= .u8) K_ K_ K_ (by first | assumption | simp) (by first | assumption | simp) K_ ww) ?_
      refine zp [.plain] 14 [(0,[],sv_ b_),(2,[],pv_ b_1),(3,[],Value.int .u64 generation),(40,[],Vo (!(v34==v38)))] K_ K_ ?_
      refine zdd [(0,sv_ b_),(2,pv_ b_1),(3,Value.int .u64 generation),(40,Vo (!(v34==v38)))] K_ K_ K_ ?_
      exact⟨[(0,sv_ b_),(2,pv_ b_1),(3,Value.int .u64 generation),(40,Vo (!(v34==v38)))],Sub.mk K_,(!(v34==v38)),rfl,h⟩
    ·rintro _ w6 ⟨t40,rfl,h⟩
     unfold F_cc at h
     refine zG (o:=(Operand.tmp 40)) (b:=t40) (x:=zqm) (y:=zev) K_ K_ (fun hb=> ?_) (fun hb=> ?_)
     ·replace h:=h.1 hb
      refine zf (x:=zSn) (y:=zTn) K_ ?_
      refine ze (id:=9) (ops:=zdv) K_ ?_
      refine zd [.plain] 1 [(2,[],pv_ b_1),(3,[],Value.int .u64 generation),(41,[],Value.agg #[Vi 0,Value.slice none 0 0,Value.slice none 0 0])] K_ K_ ?_
      obtain⟨hc,h⟩:=h
      refine zab (t:=119) (a:=(Operand.tmp 2)) (x:=(Operand.tmp 41)) (b:=b_1) (o:=0) (ty:=0) (dst:=none) [Vi 0,Value.slice none 0 0,Value.slice none 0 0] K_ K_ K_ (k:=3) K_ K_ K_ hc (fun w7 hw=> ?_)
      replace h:=h w7 hw
      clear hw
      refine zd [.plain,.plain] 4 [(2,[],pv_ b_1),(3,[],Value.int .u64 0),(4,[],Vo false)] K_ K_ ?_
      refine zj [(2,pv_ b_1),(3,Value.int .u64 0),(4,Vo false)] K_ K_ ?_
      change WpE _ _ zTn _ _ _
      refine z2 K_ ?_
      obtain⟨res1,hc_res1,h⟩:=h
      repeat (first | refine zM ?_ | refine zA ?_ | refine zF ?_ | refine zN ?_)
      exact retT (rs:=[(ResultVar.cell 2 119),(ResultVar.tmp 3),(ResultVar.tmp 4)]) (vs:=[Value.agg #[Vi res1.Mark,sv_ res1.Beyond,sv_ res1.Held],Value.int .u64 0,Vo false]) K_ (⟨b_1,0,[Vi res1.Mark,sv_ res1.Beyond,sv_ res1.Held],K_,hc_res1,(zq (k:=3) K_ K_),.inl ⟨K_,rfl⟩,⟨K_,⟨K_,trivial⟩⟩⟩) K_ ⟨res1,0,false,rfl,h⟩
     ·replace h:=h.2 hb
      refine zS K_ ?_
      change WpE _ _ zBj _ _ _
      refine zf (x:=zUn) (y:=zCj) K_ ?_
      refine ze (id:=10) (ops:=zfv) K_ ?_
      refine zd [.plain] 1 [(2,[],pv_ b_1),(3,[],Value.int .u64 generation),(43,[],sv_ b_)] K_ K_ ?_
      obtain⟨hc,h⟩:=h
      refine zAb (t:=109) (e:=5) (x:=(Operand.tmp 43)) (lo:=(Operand.const (Value.int IntKind.i64 20))) (s:=b_) (sz:=1) (k:= .i64) (a:=20) (ty:=109) (dst:=some 44) K_ K_ K_ K_ K_ hc (fun s hs=> ?_)
      replace h:=h s hs
      clear hs
      refine zd [] 2 [(2,[],pv_ b_1),(3,[],Value.int .u64 generation),(44,[],sv_ s)] K_ K_ ?_
      refine zW (op:=(Op.call (Call.mk (Callee.value (Operand.func 96)) #[(Operand.tmp 44)] #[109]))) (ty:=239) (dst:=some 45) 96 #[sv_ s] K_ (fun ww=>by kernel_rfl) (Calls.mono h ?_)
      rintro _ w8 ⟨v45,e,rfl,h⟩
      refine⟨_,rfl,?_⟩
      refine zd [.plain,.plain,.plain] 6 [(2,[],pv_ b_1),(3,[],Value.int .u64 generation),(46,[],Value.agg #[Vi v45.Mark,sv_ v45.Beyond,sv_ v45.Held]),(47,[],Vi e)] K_ K_ ?_
      obtain⟨hc,h⟩:=h
      refine zab (t:=119) (a:=(Operand.tmp 2)) (x:=(Operand.tmp 46)) (b:=b_1) (o:=0) (ty:=0) (dst:=none) [Vi v45.Mark,sv_ v45.Beyond,sv_ v45.Held] K_ K_ K_ (k:=3) K_ K_ K_ hc (fun w9 hw=> ?_)
      replace h:=h w9 hw
      clear hw
      refine zd [.plain] 8 [(2,[],pv_ b_1),(3,[],Value.int .u64 generation),(7,[],Vi e)] K_ K_ ?_
      refine zj [(2,pv_ b_1),(3,Value.int .u64 generation),(7,Vi e)] K_ K_ ?_
      change WpE _ _ zCj _ _ _
      refine zf (x:=zVn) (y:=zWn) K_ ?_
      refine ze (id:=11) (ops:=zgv) K_ ?_
      refine zd [] 0 [(2,[],pv_ b_1),(3,[],Value.int .u64 generation),(7,[],Vi e)] K_ K_ ?_
      obtain⟨v48,hc,h⟩:=h
      refine zqc (t:=119) (a:=(Operand.tmp 2)) (b:=b_1) (o:=0) (ty:=119) (dst:=some 48) [Vi v48.Mark,sv_ v48.Beyond,sv_ v48.Held] K_ K_ K_ (k:=3) K_ K_ hc ?_
      refine zd [.plain,.plain,.plain] 4 [(2,[],pv_ b_1),(3,[],Value.int .u64 generation),(48,[],Value.agg #[Vi v48.Mark,sv_ v48.Beyond,sv_ v48.Held]),(49,[],Value.int .u64 generation),(51,[],Vo (e==0))] K_ K_ ?_
      obtain⟨hc,h⟩:=h
      refine zab (t:=119) (a:=(Operand.tmp 2)) (x:=(Operand.tmp 48)) (b:=b_1) (o:=0) (ty:=0) (dst:=none) [Vi v48.Mark,sv_ v48.Beyond,sv_ v48.Held] K_ K_ K_ (k:=3) K_ K_ K_ hc (fun w10 hw=> ?_)
      replace h:=h w10 hw
      clear hw
      refine zd [.plain,.plain] 7 [(2,[],pv_ b_1),(3,[],Value.int .u64 generation),(4,[],Vo (e==0))] K_ K_ ?_
      refine zj [(2,pv_ b_1),(3,Value.int .u64 generation),(4,Vo (e==0))] K_ K_ ?_
      change WpE _ _ zWn _ _ _
      refine z2 K_ ?_
      obtain⟨res2,hc_res2,h⟩:=h
      repeat (first | refine zM ?_ | refine zA ?_ | refine zF ?_ | refine zN ?_)
      exact retT (rs:=[(ResultVar.cell 2 119),(ResultVar.tmp 3),(ResultVar.tmp 4)]) (vs:=[Value.agg #[Vi res2.Mark,sv_ res2.Beyond,sv_ res2.Held],Value.int .u64 generation,Vo (e==0)]) K_ (⟨b_1,0,[Vi res2.Mark,sv_ res2.Beyond,sv_ res2.Held],K_,hc_res2,(zq (k:=3) K_ K_),.inl ⟨K_,rfl⟩,⟨K_,⟨K_,trivial⟩⟩⟩) K_ ⟨res2,generation,(e==0),rfl,h⟩
 ·rintro e w' ⟨v,rfl,r0,r1,r2,rfl,h⟩; exact⟨r0,r1,r2,rfl,h⟩
end
end Go.Proofs.YtofjmclceflgiaaGreat
