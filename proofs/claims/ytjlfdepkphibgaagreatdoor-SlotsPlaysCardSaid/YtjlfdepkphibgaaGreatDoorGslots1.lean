/- WRITTEN BY PROGRAM (dec.py): for each Go function the clean formula F, the call's contract C, and the proof S that F gives C. -/
import Derived.Test.YtjlfdepkphibgaaGreatDoorRows
import Derived.Test.YtjlfdepkphibgaaGreatDoorGF
namespace Go.Proofs.YtjlfdepkphibgaaGreatDoor
open Go
set_option linter.unusedVariables false
set_option maxRecDepth 100000
set_option maxHeartbeats 4000000
noncomputable section

/-! ### towpath/slots.whole (function 88) -/
def zcn:=cb_ Tryz.f88
def zEs:=cl_ zcn
def zUu:=co_ zEs
def zWk:=cr_ zcn
def zdn:=cl_ zWk
def zFs:=cl_ zdn
def zVu:=co_ zFs
def zXk:=cr_ zdn
def zen:=cl_ zXk
def zGs:=cl_ zen
def zWu:=co_ zGs
def zDl:=cr_ zen
def zHs:=cr_ zXk
def zyi:=cr_ zWk
def zEl:=cl_ zyi
def zIs:=co_ zEl
def zzi:=cr_ zyi
def z7j:=cl_ zzi
def zFl:=cl_ z7j
def zJs:=co_ zFl
def z8j:=cr_ z7j
def zGl:=cl_ z8j
def z9j:=cl_ zGl
def zak:=cl_ z9j
def zHl:=cl_ zak
def zKs:=co_ zHl
def zAi:=cr_ zak
def zLs:=cl_ zAi
def zMs:=cr_ zAi
def zBi:=cr_ z9j
def zIl:=cl_ zBi
def zJl:=cl_ zIl
def zNs:=co_ zJl
def zbk:=cr_ zBi
def zOs:=co_ zbk
def zCi:=cr_ zzi
def zck:=cl_ zCi
def zKl:=cl_ zck
def zPs:=co_ zKl
def zdk:=cr_ zck
def zek:=cl_ zdk
def zLl:=cl_ zek
def zQs:=co_ zLl
def zMl:=cr_ zek
def zRs:=cr_ zdk
def zDi:=cr_ zCi
def zNl:=cl_ zDi
def zSs:=co_ zNl
def zEi:=cr_ zDi
def zOl:=cl_ zEi
def zTs:=co_ zOl
def zPl:=cr_ zEi
def zHe:List Nat:=[0,1,2,3,4,5,6,7,8,9,10,11,12,13]

theorem S_Gc {b_:Slc} {w:World} {R:T_b→Int→Bool→WP} (h:F_8e b_ R w):C_yc b_ w R:=by
 unfold F_8e at h
 unfold C_yc
 refine Calls.mono (zKb (args:=[sv_ b_]) (R:=fun v w'=>∃(r0:T_b) (r1:Int) (r2:Bool),v=Value.tuple #[Value.agg #[Vi r0.Mark,sv_ r0.Beyond,sv_ r0.Held],Value.int .u64 r1,Vo r2]∧R r0 r1 r2 w') Tryz.func88 (c:=zcn) K_ 52 K_ K_ [(0,sv_ b_)] K_ ?_) ?_
 ·refine zt (x:=zEs) (y:=zWk) K_ ?_
  refine zi (id:=0) (ops:=zUu) K_ ?_
  refine zk [] 0 [(0,[],sv_ b_)] K_ K_ ?_
  refine zlc (op:=(Op.alloc 59)) (ty:=0) (dst:=some 2) (fun bb=>pv_ bb) (Obj.cells ([Vi 0,Value.slice none 0 0,Value.slice none 0 0]).toArray y_a (0,0)) K_ K_ (fun b_1 w1 hb hw=> ?_)
  replace h:=h b_1 w1 hb hw
  clear hb hw
  refine zk [.plain,.plain] 3 [(0,[],sv_ b_),(2,[],pv_ b_1),(3,[],Value.int .u64 0)] K_ K_ ?_
  refine zF [(0,sv_ b_),(2,pv_ b_1),(3,Value.int .u64 0)] K_ K_ ?_
  change WpE _ _ zWk _ _ _
  refine zt (x:=zdn) (y:=zyi) K_ ?_
  refine zt (x:=zFs) (y:=zXk) K_ ?_
  refine zi (id:=1) (ops:=zVu) K_ ?_
  refine zk [.plain,.plain,.plain] 3 [(0,[],sv_ b_),(2,[],pv_ b_1),(3,[],Value.int .u64 0),(10,[],Vo (decide (((b_.len:Nat):Int)<20)))] K_ K_ ?_
  refine zF [(0,sv_ b_),(2,pv_ b_1),(3,Value.int .u64 0),(10,Vo (decide (((b_.len:Nat):Int)<20)))] K_ K_ ?_
  change WpE _ _ zXk _ _ _
  refine zEb (o:=(Operand.tmp 10)) (b:=(decide (((b_.len:Nat):Int)<20))) (x:=zen) (y:=zHs) K_ K_ (fun hb=> ?_) (fun hb=> ?_)
  ·replace h:=h.1 hb
   refine zt (x:=zGs) (y:=zDl) K_ ?_
   refine zi (id:=2) (ops:=zWu) K_ ?_
   refine zk [.plain] 1 [(2,[],pv_ b_1),(3,[],Value.int .u64 0),(11,[],Value.agg #[Vi 0,Value.slice none 0 0,Value.slice none 0 0])] K_ K_ ?_
   obtain⟨hc,h⟩:=h
   refine zqb (t:=59) (a:=(Operand.tmp 2)) (x:=(Operand.tmp 11)) (b:=b_1) (o:=0) (ty:=0) (dst:=none) [Vi 0,Value.slice none 0 0,Value.slice none 0 0] K_ K_ K_ (k:=3) K_ K_ K_ hc (fun w2 hw=> ?_)
   replace h:=h w2 hw
   clear hw
   refine zk [.plain,.plain] 4 [(2,[],pv_ b_1),(3,[],Value.int .u64 0),(4,[],Vo false)] K_ K_ ?_
   refine zF [(2,pv_ b_1),(3,Value.int .u64 0),(4,Vo false)] K_ K_ ?_
   change WpE _ _ zDl _ _ _
   refine zYb K_ ?_
   obtain⟨res,hc_res,h⟩:=h
   repeat (first | refine zC ?_ | refine zp ?_ | refine zu ?_ | refine zE ?_)
   exact retT (rs:=[(ResultVar.cell 2 59),(ResultVar.tmp 3),(ResultVar.tmp 4)]) (vs:=[Value.agg #[Vi res.Mark,sv_ res.Beyond,sv_ res.Held],Value.int .u64 0,Vo false]) K_ (⟨b_1,0,[Vi res.Mark,sv_ res.Beyond,sv_ res.Held],K_,hc_res,(zx (k:=3) K_ K_),.inl ⟨K_,rfl⟩,⟨K_,⟨K_,trivial⟩⟩⟩) K_ ⟨res,0,false,rfl,h⟩
  ·replace h:=h.2 hb
   refine zDb K_ ?_
   change WpE _ _ zyi _ _ _
   refine zt (x:=zEl) (y:=zzi) K_ ?_
   refine zi (id:=3) (ops:=zIs) K_ ?_
   refine zk [.plain] 1 [(0,[],sv_ b_),(2,[],pv_ b_1),(3,[],Value.int .u64 0),(12,[],sv_ b_)] K_ K_ ?_
   obtain⟨h0,h1,h⟩:=h
   refine zyb (t:=38) (e:=5) (x:=(Operand.tmp 12)) (hi:=(Operand.const (Value.int IntKind.i64 20))) (p:=b_.ptr) (l:=b_.len) (c:=b_.cap) (sz:=1) (k:= .i64) (j:=20) (ty:=38) (dst:=some 13) K_ K_ K_ K_ K_ h0 h1 ?_
   refine zk [] 2 [(0,[],sv_ b_),(2,[],pv_ b_1),(3,[],Value.int .u64 0),(13,[],Value.slice b_.ptr 20 b_.cap)] K_ K_ ?_
   refine zP (op:=(Op.sliceToArrayPointer 91 (Operand.tmp 13))) (ty:=0) (dst:=some 14) (Vp b_.ptr) K_ (fun ww=>by kernel_rfl) ?_
   refine zk [] 3 [(0,[],sv_ b_),(2,[],pv_ b_1),(3,[],Value.int .u64 0),(14,[],Vp b_.ptr)] K_ K_ ?_
   obtain⟨hp_1,h⟩:=h
   refine zkg [(0,[],sv_ b_),(2,[],pv_ b_1),(3,[],Value.int .u64 0),(14,[],Vp (some ⟨(pblk b_.ptr),(poff b_.ptr),none⟩))] (congrArg (fun pp=>([(0,[],sv_ b_),(2,[],pv_ b_1),(3,[],Value.int .u64 0),(14,[],Vp pp)]:GEnv)) hp_1) ?_
   obtain⟨v15,hl_v15_0,hc,h⟩:=h
   refine zQc (t:=91) (a:=(Operand.tmp 14)) (b:=(pblk b_.ptr)) (o:=(poff b_.ptr)) (ty:=91) (dst:=some 15) (List.map (Value.int .u8) v15) K_ K_ K_ (k:=20) K_ (by simp [hl_v15_0]) hc ?_
   refine zk [] 4 [(0,[],sv_ b_),(2,[],pv_ b_1),(3,[],Value.int .u64 0),(15,[],Value.agg (List.map (Value.int .u8) v15).toArray)] K_ K_ ?_
   refine zlc (op:=(Op.alloc 91)) (ty:=0) (dst:=some 5) (fun bb=>pv_ bb) (Obj.cells ((List.map (Value.int .u8) (List.replicate 20 0))).toArray y_j (0,0)) K_ K_ (fun b_2 w3 hb hw=> ?_)
   replace h:=h b_2 w3 hb hw
   clear hb hw
   refine zk [] 5 [(0,[],sv_ b_),(2,[],pv_ b_1),(3,[],Value.int .u64 0),(5,[],pv_ b_2),(15,[],Value.agg (List.map (Value.int .u8) v15).toArray)] K_ K_ ?_
   obtain⟨hc,h⟩:=h
   refine zqb (t:=91) (a:=(Operand.tmp 5)) (x:=(Operand.tmp 15)) (b:=b_2) (o:=0) (ty:=0) (dst:=none) (List.map (Value.int .u8) v15) K_ K_ K_ (k:=20) K_ (by simp [*]) (by simp [zQ,oneCell,List.all_eq_true]) hc (fun w4 hw=> ?_)
   replace h:=h w4 hw
   clear hw
   refine zF [(0,sv_ b_),(2,pv_ b_1),(3,Value.int .u64 0),(5,pv_ b_2)] K_ K_ ?_
   change WpE _ _ zzi _ _ _
   refine zt (x:=z7j) (y:=zCi) K_ ?_
   refine zt (x:=zFl) (y:=z8j) K_ ?_
   refine zi (id:=4) (ops:=zJs) K_ ?_
   refine zk [.plain] 1 [(0,[],sv_ b_),(2,[],pv_ b_1),(3,[],Value.int .u64 0),(5,[],pv_ b_2),(6,[],Vi 11)] K_ K_ ?_
   refine zF [(0,sv_ b_),(2,pv_ b_1),(3,Value.int .u64 0),(5,pv_ b_2),(6,Vi 11)] K_ K_ ?_
   change WpE _ _ z8j _ _ _
   refine zQb (id:=0) (x:=zGl) K_ ?_
   obtain⟨I,μ,h0,hr⟩:=h
   refine z9d (x:=z9j) K_ (fun m l w=>∃(generation:Int) (i:Int),l=[(0,sv_ b_),(2,pv_ b_1),(3,Value.int .u64 generation),(5,pv_ b_2),(6,Vi i)]∧I generation i w∧μ generation i w=m) (l':=[(0,sv_ b_),(2,pv_ b_1),(3,Value.int .u64 0),(5,pv_ b_2),(6,Vi 11)]) (Sub.mk K_) ⟨0,11,rfl,h0,rfl⟩ ?_
   rintro _ _ w5 ⟨generation,i,rfl,hI,rfl⟩
   obtain⟨again_,again__h,h⟩:∃ again_:Int→Int→WP,(∀ generation' i' w',again_ generation' i' w'→I generation' i' w'∧μ generation' i' w'<μ generation i w5)∧F_3d b_ R b_1 b_2 again_ generation i w5:=⟨_,fun _ _ _ h=>h,hr generation i w5 hI⟩
   clear h0 hI
   unfold F_3d at h
   refine zt (x:=zak) (y:=zBi) K_ ?_
   refine zt (x:=zHl) (y:=zAi) K_ ?_
   refine zi (id:=5) (ops:=zKs) K_ ?_
   refine zk [.plain,.plain] 2 [(0,[],sv_ b_),(2,[],pv_ b_1),(3,[],Value.int .u64 generation),(5,[],pv_ b_2),(6,[],Vi i),(17,[],Vo (decide (i≥4)))] K_ K_ ?_
   refine zF [(0,sv_ b_),(2,pv_ b_1),(3,Value.int .u64 generation),(5,pv_ b_2),(6,Vi i),(17,Vo (decide (i≥4)))] K_ K_ ?_
   change WpE _ _ zAi _ _ _
   refine zEb (o:=(Operand.tmp 17)) (b:=(decide (i≥4))) (x:=zLs) (y:=zMs) K_ K_ (fun hb=> ?_) (fun hb=> ?_)
   ·replace h:=h.1 hb
    refine zDb K_ ?_
    change WpE _ _ zBi _ _ _
    refine zt (x:=zIl) (y:=zbk) K_ ?_
    refine zQb (id:=1) (x:=zJl) K_ ?_
    refine zi (id:=7) (ops:=zNs) K_ ?_
    refine zk [.plain,.plain,.plain] 3 [(0,[],sv_ b_),(2,[],pv_ b_1),(3,[],Value.int .u64 generation),(5,[],pv_ b_2),(6,[],Vi i),(21,[],Value.int .u64 (IntKind.u64.wrap (generation*2 ^ 8))),(22,[],Vi i)] K_ K_ ?_
    obtain⟨h0,h1,h⟩:=h
    refine zab (t:=91) (e:=5) (x:=(Operand.tmp 5)) (ix:=(Operand.tmp 22)) (b:=b_2) (o:=0) (len:=20) (k:= .i64) (j:=i) (ty:=0) (dst:=some 23) K_ K_ K_ K_ K_ h0 h1 ?_
    refine zk [] 4 [(0,[],sv_ b_),(2,[],pv_ b_1),(3,[],Value.int .u64 generation),(5,[],pv_ b_2),(6,[],Vi i),(21,[],Value.int .u64 (IntKind.u64.wrap (generation*2 ^ 8))),(23,[],Vp (some ⟨b_2,0+i.toNat,none⟩))] K_ K_ ?_
    obtain⟨v24,hc,h⟩:=h
    refine zce (t:=5) (a:=(Operand.tmp 23)) (b:=b_2) (o:=(0+i.toNat)) (ty:=5) (dst:=some 24) K_ K_ K_ hc ?_
    refine zk [.plain,.plain,.plain] 8 [(0,[],sv_ b_),(2,[],pv_ b_1),(3,[],Value.int .u64 (bor .u64 (IntKind.u64.wrap (generation*2 ^ 8)) (IntKind.u64.wrap v24))),(5,[],pv_ b_2),(6,[],Vi i)] K_ K_ ?_
    refine zF [(0,sv_ b_),(2,pv_ b_1),(3,Value.int .u64 (bor .u64 (IntKind.u64.wrap (generation*2 ^ 8)) (IntKind.u64.wrap v24))),(5,pv_ b_2),(6,Vi i)] K_ K_ ?_
    change WpE _ _ zbk _ _ _
    refine zi (id:=6) (ops:=zOs) K_ ?_
    refine zk [.plain,.plain,.plain] 3 [(0,[],sv_ b_),(2,[],pv_ b_1),(3,[],Value.int .u64 (bor .u64 (IntKind.u64.wrap (generation*2 ^ 8)) (IntKind.u64.wrap v24))),(5,[],pv_ b_2),(6,[],Vi (IntKind.i64.wrap (i - 1)))] K_ K_ ?_
    refine zF [(0,sv_ b_),(2,pv_ b_1),(3,Value.int .u64 (bor .u64 (IntKind.u64.wrap (generation*2 ^ 8)) (IntKind.u64.wrap v24))),(5,pv_ b_2),(6,Vi (IntKind.i64.wrap (i - 1)))] K_ K_ ?_
    have hb_:=again__h _ _ _ h
    exact⟨_,hb_.2,[(0,sv_ b_),(2,pv_ b_1),(3,Value.int .u64 (bor .u64 (IntKind.u64.wrap (generation*2 ^ 8)) (IntKind.u64.wrap v24))),(5,pv_ b_2),(6,Vi (IntKind.i64.wrap (i - 1)))],Sub.mk K_,(bor .u64 (IntKind.u64.wrap (generation*2 ^ 8)) (IntKind.u64.wrap v24)),(IntKind.i64.wrap (i - 1)),rfl,hb_.1,rfl⟩
   ·replace h:=h.2 hb
    refine z8d (id:=0) K_ ?_
    change WpE _ _ zCi _ _ _
    refine zt (x:=zck) (y:=zDi) K_ ?_
    refine zNd (x:=zKl) (y:=zdk) K_ (fun l w=>∃(t40:Bool),l=[(0,sv_ b_),(2,pv_ b_1),(3,Value.int .u64 generation),(40,Vo t40)]∧F_Zb b_ R b_1 generation t40 w) ?_ ?_
    ·refine zm (id:=8) (ops:=zPs) zHe K_ K_ K_ K_ (fun w11 hw=> ?_)
     replace h:=h w11 hw
     clear hw
     refine zFb [.plain,.plain,.plain,.plain,.plain,.pick,.plain] 7 [(0,[],sv_ b_),(2,[],pv_ b_1),(3,[],Value.int .u64 generation),(5,[],pv_ b_2),(33,[],Vo ((decide (generation<1))||(decide (generation>4611686018427387904))))] K_ K_ ?_
     refine zZf 33 ((decide (generation<1))||(decide (generation>4611686018427387904))) K_ (fun hb=> ?_) (fun hb=> ?_)
     ·replace h:=h.1 hb
      refine zFb [] 7 [(0,[],sv_ b_),(2,[],pv_ b_1),(3,[],Value.int .u64 generation),(5,[],pv_ b_2),(33,[],Vo true)] K_ K_ ?_
      refine zFb [.skip,.skip,.skip,.skip,.skip,.skip,.plain] 14 [(0,[],sv_ b_),(2,[],pv_ b_1),(3,[],Value.int .u64 generation),(40,[],Vo true)] K_ K_ ?_
      refine zRe [(0,sv_ b_),(2,pv_ b_1),(3,Value.int .u64 generation),(40,Vo true)] K_ K_ K_ ?_
      exact⟨[(0,sv_ b_),(2,pv_ b_1),(3,Value.int .u64 generation),(40,Vo true)],Sub.mk K_,true,rfl,h⟩
     ·replace h:=h.2 hb
      refine zFb [] 7 [(0,[],sv_ b_),(2,[],pv_ b_1),(3,[],Value.int .u64 generation),(5,[],pv_ b_2),(33,[],Vo false)] K_ K_ ?_
      refine zFb [] 7 [(0,[],sv_ b_),(2,[],pv_ b_1),(3,[],Value.int .u64 generation),(5,[],pv_ b_2),(33,[],Vo false)] K_ K_ ?_
      obtain⟨v34,hl_v34_0,hc,h⟩:=h
      refine z0f (i:=7) K_ (t:=91) (a:=(Operand.tmp 5)) (b:=b_2) (o:=0) (ty:=91) (dst:=some 34) (List.map (Value.int .u8) v34) K_ K_ K_ (k:=20) K_ (by simp [hl_v34_0]) hc ?_
      refine zFb [.sure,.sure] 10 [(0,[],sv_ b_),(2,[],pv_ b_1),(3,[],Value.int .u64 generation),(33,[],Vo false),(34,[],Value.agg (List.map (Value.int .u8) v34).toArray),(35,[],Value.int .u64 generation),(36,[],sv_ b_)] K_ K_ ?_
      obtain⟨hc,h⟩:=h
      refine zWi (i:=10) K_ (t:=38) (e:=5) (x:=(Operand.tmp 36)) (lo:=(Operand.const (Value.int IntKind.i64 20))) (s:=b_) (sz:=1) (k:= .i64) (a:=20) (ty:=38) (dst:=some 37) K_ K_ K_ K_ K_ hc (fun s1 hs=> ?_)
      replace h:=h s1 hs
      clear hs
      refine zFb [] 11 [(0,[],sv_ b_),(2,[],pv_ b_1),(3,[],Value.int .u64 generation),(33,[],Vo false),(34,[],Value.agg (List.map (Value.int .u8) v34).toArray),(35,[],Value.int .u64 generation),(37,[],sv_ s1)] K_ K_ ?_
      refine zo (op:=(Op.call (Call.mk (Callee.value (Operand.func 76)) #[(Operand.tmp 35),(Operand.tmp 37)] #[93,38]))) (ty:=91) (dst:=some 38) 11 [6,8,10,2,5,9,1,4,0,3] [(7,fun w'=>ze w' b_2 0 (List.map (Value.int .u8) v34))] 76 #[Value.int .u64 generation,sv_ s1] K_ K_ K_ K_ K_ (fun ww=>by kernel_rfl) (Calls.mono h ?_)
      rintro _ w12 ⟨v38,hl_v38_0,rfl,h⟩
      replace h:=h hl_v38_0
      obtain⟨hk0,h⟩:=h
      refine⟨_,rfl,⟨hk0,trivial⟩,?_⟩
      refine zFb [] 12 [(0,[],sv_ b_),(2,[],pv_ b_1),(3,[],Value.int .u64 generation),(33,[],Vo false),(34,[],Value.agg (List.map (Value.int .u8) v34).toArray),(38,[],Value.agg (List.map (Value.int .u8) v38).toArray)] K_ K_ ?_
      refine zci (i:=12) K_ (op:=(Op.binOp BinOp.neq 91 (Operand.tmp 34) (Operand.tmp 38) 91)) (ty:=4) (dst:=some 39) (Vo (!(v34==v38))) K_ (fun ww=>zFh (N:=20) (xs:=v34) (ys:=v38) (k:= .u8) K_ K_ K_ (by first | assumption | simp) (by first | assumption | simp) K_ ww) ?_
      refine zFb [.plain] 14 [(0,[],sv_ b_),(2,[],pv_ b_1),(3,[],Value.int .u64 generation),(40,[],Vo (!(v34==v38)))] K_ K_ ?_
      refine zRe [(0,sv_ b_),(2,pv_ b_1),(3,Value.int .u64 generation),(40,Vo (!(v34==v38)))] K_ K_ K_ ?_
      exact⟨[(0,sv_ b_),(2,pv_ b_1),(3,Value.int .u64 generation),(40,Vo (!(v34==v38)))],Sub.mk K_,(!(v34==v38)),rfl,h⟩
    ·rintro _ w6 ⟨t40,rfl,h⟩
     unfold F_Zb at h
     refine zEb (o:=(Operand.tmp 40)) (b:=t40) (x:=zek) (y:=zRs) K_ K_ (fun hb=> ?_) (fun hb=> ?_)
     ·replace h:=h.1 hb
      refine zt (x:=zLl) (y:=zMl) K_ ?_
      refine zi (id:=9) (ops:=zQs) K_ ?_
      refine zk [.plain] 1 [(2,[],pv_ b_1),(3,[],Value.int .u64 generation),(41,[],Value.agg #[Vi 0,Value.slice none 0 0,Value.slice none 0 0])] K_ K_ ?_
      obtain⟨hc,h⟩:=h
      refine zqb (t:=59) (a:=(Operand.tmp 2)) (x:=(Operand.tmp 41)) (b:=b_1) (o:=0) (ty:=0) (dst:=none) [Vi 0,Value.slice none 0 0,Value.slice none 0 0] K_ K_ K_ (k:=3) K_ K_ K_ hc (fun w7 hw=> ?_)
      replace h:=h w7 hw
      clear hw
      refine zk [.plain,.plain] 4 [(2,[],pv_ b_1),(3,[],Value.int .u64 0),(4,[],Vo false)] K_ K_ ?_
      refine zF [(2,pv_ b_1),(3,Value.int .u64 0),(4,Vo false)] K_ K_ ?_
      change WpE _ _ zMl _ _ _
      refine zYb K_ ?_
      obtain⟨res1,hc_res1,h⟩:=h
      repeat (first | refine zC ?_ | refine zp ?_ | refine zu ?_ | refine zE ?_)
      exact retT (rs:=[(ResultVar.cell 2 59),(ResultVar.tmp 3),(ResultVar.tmp 4)]) (vs:=[Value.agg #[Vi res1.Mark,sv_ res1.Beyond,sv_ res1.Held],Value.int .u64 0,Vo false]) K_ (⟨b_1,0,[Vi res1.Mark,sv_ res1.Beyond,sv_ res1.Held],K_,hc_res1,(zx (k:=3) K_ K_),.inl ⟨K_,rfl⟩,⟨K_,⟨K_,trivial⟩⟩⟩) K_ ⟨res1,0,false,rfl,h⟩
     ·replace h:=h.2 hb
      refine zDb K_ ?_
      change WpE _ _ zDi _ _ _
      refine zt (x:=zNl) (y:=zEi) K_ ?_
      refine zi (id:=10) (ops:=zSs) K_ ?_
      refine zk [.plain] 1 [(2,[],pv_ b_1),(3,[],Value.int .u64 generation),(43,[],sv_ b_)] K_ K_ ?_
      obtain⟨hc,h⟩:=h
      refine zld (t:=38) (e:=5) (x:=(Operand.tmp 43)) (lo:=(Operand.const (Value.int IntKind.i64 20))) (s:=b_) (sz:=1) (k:= .i64) (a:=20) (ty:=38) (dst:=some 44) K_ K_ K_ K_ K_ hc (fun s hs=> ?_)
      replace h:=h s hs
      clear hs
      refine zk [] 2 [(2,[],pv_ b_1),(3,[],Value.int .u64 generation),(44,[],sv_ s)] K_ K_ ?_
      refine zkb (op:=(Op.call (Call.mk (Callee.value (Operand.func 136)) #[(Operand.tmp 44)] #[38]))) (ty:=190) (dst:=some 45) 136 #[sv_ s] K_ (fun ww=>by kernel_rfl) (Calls.mono h ?_)
      rintro _ w8 ⟨v45,e,rfl,h⟩
      refine⟨_,rfl,?_⟩
      refine zk [.plain,.plain,.plain] 6 [(2,[],pv_ b_1),(3,[],Value.int .u64 generation),(46,[],Value.agg #[Vi v45.Mark,sv_ v45.Beyond,sv_ v45.Held]),(47,[],Vi e)] K_ K_ ?_
      obtain⟨hc,h⟩:=h
      refine zqb (t:=59) (a:=(Operand.tmp 2)) (x:=(Operand.tmp 46)) (b:=b_1) (o:=0) (ty:=0) (dst:=none) [Vi v45.Mark,sv_ v45.Beyond,sv_ v45.Held] K_ K_ K_ (k:=3) K_ K_ K_ hc (fun w9 hw=> ?_)
      replace h:=h w9 hw
      clear hw
      refine zk [.plain] 8 [(2,[],pv_ b_1),(3,[],Value.int .u64 generation),(7,[],Vi e)] K_ K_ ?_
      refine zF [(2,pv_ b_1),(3,Value.int .u64 generation),(7,Vi e)] K_ K_ ?_
      change WpE _ _ zEi _ _ _
      refine zt (x:=zOl) (y:=zPl) K_ ?_
      refine zi (id:=11) (ops:=zTs) K_ ?_
      refine zk [] 0 [(2,[],pv_ b_1),(3,[],Value.int .u64 generation),(7,[],Vi e)] K_ K_ ?_
      obtain⟨v48,hc,h⟩:=h
      refine zQc (t:=59) (a:=(Operand.tmp 2)) (b:=b_1) (o:=0) (ty:=59) (dst:=some 48) [Vi v48.Mark,sv_ v48.Beyond,sv_ v48.Held] K_ K_ K_ (k:=3) K_ K_ hc ?_
      refine zk [.plain,.plain,.plain] 4 [(2,[],pv_ b_1),(3,[],Value.int .u64 generation),(48,[],Value.agg #[Vi v48.Mark,sv_ v48.Beyond,sv_ v48.Held]),(49,[],Value.int .u64 generation),(51,[],Vo (e==0))] K_ K_ ?_
      obtain⟨hc,h⟩:=h
      refine zqb (t:=59) (a:=(Operand.tmp 2)) (x:=(Operand.tmp 48)) (b:=b_1) (o:=0) (ty:=0) (dst:=none) [Vi v48.Mark,sv_ v48.Beyond,sv_ v48.Held] K_ K_ K_ (k:=3) K_ K_ K_ hc (fun w10 hw=> ?_)
      replace h:=h w10 hw
      clear hw
      refine zk [.plain,.plain] 7 [(2,[],pv_ b_1),(3,[],Value.int .u64 generation),(4,[],Vo (e==0))] K_ K_ ?_
      refine zF [(2,pv_ b_1),(3,Value.int .u64 generation),(4,Vo (e==0))] K_ K_ ?_
      change WpE _ _ zPl _ _ _
      refine zYb K_ ?_
      obtain⟨res2,hc_res2,h⟩:=h
      repeat (first | refine zC ?_ | refine zp ?_ | refine zu ?_ | refine zE ?_)
      exact retT (rs:=[(ResultVar.cell 2 59),(ResultVar.tmp 3),(ResultVar.tmp 4)]) (vs:=[Value.agg #[Vi res2.Mark,sv_ res2.Beyond,sv_ res2.Held],Value.int .u64 generation,Vo (e==0)]) K_ (⟨b_1,0,[Vi res2.Mark,sv_ res2.Beyond,sv_ res2.Held],K_,hc_res2,(zx (k:=3) K_ K_),.inl ⟨K_,rfl⟩,⟨K_,⟨K_,trivial⟩⟩⟩) K_ ⟨res2,generation,(e==0),rfl,h⟩
 ·rintro e w' ⟨v,rfl,r0,r1,r2,rfl,h⟩; exact⟨r0,r1,r2,rfl,h⟩

/-! ### towpath/slots.put (function 124) -/

theorem S_Nc {b_:Slc} {n_:Int} {w:World} {R:WP} (h:F_qf b_ n_ R w):C_9b b_ n_ w R:=by
 unfold F_qf at h
 refine Yh Tryz.func124 ?_
 ·refine Yp P3 [0,1,6,7] (Yd 0 ?_)
  obtain⟨I,μ,h0,hr⟩:=h
  refine zN (fun m l w=>∃(t7:Int),l=[(0,sv_ b_),(1,Value.int .u64 n_),(6,Vi ((b_.len:Nat):Int)),(7,Vi t7)]∧I t7 w∧μ t7 w=m) ⟨0,rfl,h0,rfl⟩ ?_
  rintro _ _ w1 ⟨t7,rfl,hI,rfl⟩
  obtain⟨again_,again__h,h⟩:∃ again_:Int→WP,(∀ t7' w',again_ t7' w'→I t7' w'∧μ t7' w'<μ t7 w1)∧F_ze b_ n_ R again_ t7 w1:=⟨_,fun _ _ h=>h,hr t7 w1 hI⟩
  clear h0 hI
  unfold F_ze at h
  refine Yp P1 [0,1,6,7,8] (Ys ?_)
  refine Yc h (fun h=> ?_) fun h=> ?_
  ·refine zg (Ys (Yd 1 (Yp P2 [0,1,4,6,7] (Yr (Yn (Pl 5) ?_)))))
   obtain⟨h0,h⟩:=h
   refine zP (op:=(Op.binOp BinOp.shr 93 (Operand.tmp 12) (Operand.tmp 14) 3)) (ty:=93) (dst:=some 15) (Value.int .u64 (Int.fdiv n_ (2 ^ (min (IntKind.i64.wrap (8*t7)).toNat 64)))) K_ (fun ww=>zuj (k':= .i64) K_ K_ K_ h0 ww) ?_
   refine Yn P1 ?_
   obtain⟨hp_1,h⟩:=h
   refine Yu 10 (fun pp=> .slice pp b_.len b_.cap) hp_1 ?_
   refine Yi1 h fun h=> ?_
   refine Yo h fun w2 h=> ?_
   refine Yf [] [0,1,6,7] (Yr (Yf P2 [0,1,6,7] ?_))
   have hb_:=again__h _ _ h
   exact⟨_,hb_.2,_,Sub.mk K_,(IntKind.i64.wrap (t7+1)),rfl,hb_.1,rfl⟩
  ·refine zM 0 ?_
   repeat (first | refine zK ?_ | refine zA ?_ | refine zL ?_ | refine zB ?_ | refine zv K_ ?_)
   refine zw ?_
   repeat (first | refine zC ?_ | refine zp ?_ | refine zu ?_ | refine zE ?_)
   exact retT (rs:=[]) (vs:=[]) K_ (trivial) K_ ⟨rfl,h⟩

/-! ### (*towpath/slots.head).crc (function 125) -/

theorem S_xc {h_:OA} {x:Slc} {w:World} {R:Int→WP} (h:F_Fe h_ x R w):C_Ac h_ x w R:=by
 unfold F_Fe at h
 refine Yh Tryz.func125 ?_
 ·refine Yp P1 [0,1] (Yt (Yn P1 ?_))
  refine Yv 5 h fun hp_0 h=> ?_
  refine Yn P1 ?_
  refine zP (op:=(Op.slice 91 (Operand.tmp 6) (some (Operand.const (Value.int IntKind.i64 4))) (some (Operand.const (Value.int IntKind.i64 16))) none)) (ty:=38) (dst:=some 7) (Value.slice (some ⟨(pblk h_),(poff h_)+4,none⟩) 12 16) K_ (fun ww=>by kernel_rfl) ?_
  refine Ym1 h fun v8 w1 h=> ?_
  refine Yn P1 ?_
  refine Ym1 h fun v10 w2 h=> ?_
  refine Yf P1 [4] ?_
  exact YS ⟨v10,rfl,h⟩
end
end Go.Proofs.YtjlfdepkphibgaaGreatDoor
