/- WRITTEN BY PROGRAM (dec.py): for each Go function the clean formula F, the call's contract C, and the proof S that F gives C. -/
import Derived.Test.YtjlfdepkphibgaaGreatDoorRows
import Derived.Test.YtjlfdepkphibgaaGreatDoorGF
namespace Go.Proofs.YtjlfdepkphibgaaGreatDoor
open Go
set_option linter.unusedVariables false
set_option maxRecDepth 100000
set_option maxHeartbeats 4000000
noncomputable section

/-! ### towpath/sum.More (function 146) -/
def zyj:=cb_ Tryz.f146
def z7k:=cl_ zyj
def zFr:=co_ z7k
def z9h:=cr_ zyj
def z8k:=cl_ z9h
def zGr:=co_ z8k
def zai:=cr_ z9h
def z9k:=cl_ zai
def zHr:=co_ z9k
def zbi:=cr_ zai
def zAh:=cl_ zbi
def zzj:=cl_ zAh
def zvm:=co_ zzj
def zBh:=cr_ zAh
def zAj:=cl_ zBh
def zCh:=cl_ zAj
def zBj:=cl_ zCh
def zwm:=co_ zBj
def zog:=cr_ zCh
def zDh:=cl_ zog
def zxm:=cl_ zDh
def zym:=cr_ zDh
def zpg:=cr_ zog
def zCj:=cl_ zpg
def zEh:=cl_ zCj
def zDj:=cl_ zEh
def zzm:=co_ zDj
def zFh:=cr_ zEh
def zAm:=co_ zFh
def zGh:=cr_ zpg
def zBm:=co_ zGh
def zqg:=cr_ zbi
def zEj:=cl_ zqg
def zCm:=co_ zEj
def zFj:=cr_ zqg

theorem S_Nc {sum:Int} {b_:Slc} {w:World} {R:Int→WP} (h:F_gf sum b_ R w):C_yc sum b_ w R:=by
 unfold F_gf at h
 unfold C_yc
 refine Calls.mono (zKb (args:=[Value.int .u32 sum,sv_ b_]) (R:=fun v w'=>∃(r0:Int),v=Value.int .u32 r0∧R r0 w') Tryz.func146 (c:=zyj) K_ 30 K_ K_ [(0,Value.int .u32 sum),(1,sv_ b_)] K_ ?_) ?_
 ·refine zr (x:=z7k) (y:=z9h) K_ ?_
  refine zi (id:=0) (ops:=zFr) K_ ?_
  refine zk [.plain] 1 [(0,[],Value.int .u32 sum),(1,[],sv_ b_)] K_ K_ ?_
  refine zF [(0,Value.int .u32 sum),(1,sv_ b_)] K_ K_ ?_
  change WpE _ _ z9h _ _ _
  refine zr (x:=z8k) (y:=zai) K_ ?_
  refine zi (id:=1) (ops:=zGr) K_ ?_
  refine zk [] 0 [(0,[],Value.int .u32 sum),(1,[],sv_ b_)] K_ K_ ?_
  refine zjb (op:=(Op.call (Call.mk (Callee.value (Operand.func 178)) #[] #[]))) (ty:=228) (dst:=some 9) 178 #[] K_ (fun ww=>by kernel_rfl) (Calls.mono h ?_)
  rintro _ w1 ⟨v9,hl_v9_0,rfl,h⟩
  refine⟨_,rfl,?_⟩
  replace h:=h hl_v9_0
  refine zk [] 1 [(0,[],Value.int .u32 sum),(1,[],sv_ b_),(9,[],Value.agg (List.map (Value.int .u32) v9).toArray)] K_ K_ ?_
  refine zlc (op:=(Op.alloc 228)) (ty:=0) (dst:=some 5) (fun bb=>pv_ bb) (Obj.cells ((List.map (Value.int .u32) (List.replicate 256 0))).toArray y_k (0,0)) K_ K_ (fun b_1 w2 hb hw=> ?_)
  replace h:=h b_1 w2 hb hw
  clear hb hw
  refine zk [] 2 [(0,[],Value.int .u32 sum),(1,[],sv_ b_),(5,[],pv_ b_1),(9,[],Value.agg (List.map (Value.int .u32) v9).toArray)] K_ K_ ?_
  obtain⟨hc,h⟩:=h
  refine zqb (t:=228) (a:=(Operand.tmp 5)) (x:=(Operand.tmp 9)) (b:=b_1) (o:=0) (ty:=0) (dst:=none) (List.map (Value.int .u32) v9) K_ K_ K_ (k:=256) K_ (by simp [*]) (by simp [zP,oneCell,List.all_eq_true]) hc (fun w3 hw=> ?_)
  replace h:=h w3 hw
  clear hw
  refine zF [(0,Value.int .u32 sum),(1,sv_ b_),(5,pv_ b_1)] K_ K_ ?_
  change WpE _ _ zai _ _ _
  refine zr (x:=z9k) (y:=zbi) K_ ?_
  refine zi (id:=2) (ops:=zHr) K_ ?_
  refine zk [.plain,.plain,.plain] 3 [(1,[],sv_ b_),(5,[],pv_ b_1),(6,[],Value.int .u32 (bxor .u32 (IntKind.max .u32) sum))] K_ K_ ?_
  refine zF [(1,sv_ b_),(5,pv_ b_1),(6,Value.int .u32 (bxor .u32 (IntKind.max .u32) sum))] K_ K_ ?_
  change WpE _ _ zbi _ _ _
  refine zr (x:=zAh) (y:=zqg) K_ ?_
  refine zr (x:=zzj) (y:=zBh) K_ ?_
  refine zi (id:=3) (ops:=zvm) K_ ?_
  refine zk [.plain,.plain,.plain] 3 [(5,[],pv_ b_1),(6,[],Value.int .u32 (bxor .u32 (IntKind.max .u32) sum)),(12,[],sv_ b_),(13,[],Vi ((b_.len:Nat):Int)),(14,[],Vi 0)] K_ K_ ?_
  refine zF [(5,pv_ b_1),(6,Value.int .u32 (bxor .u32 (IntKind.max .u32) sum)),(12,sv_ b_),(13,Vi ((b_.len:Nat):Int)),(14,Vi 0)] K_ K_ ?_
  change WpE _ _ zBh _ _ _
  refine zOb (id:=0) (x:=zAj) K_ ?_
  obtain⟨I,μ,h0,hr⟩:=h
  refine z5d (x:=zCh) K_ (fun m l w=>∃(c:Int) (t14:Int),l=[(5,pv_ b_1),(6,Value.int .u32 c),(12,sv_ b_),(13,Vi ((b_.len:Nat):Int)),(14,Vi t14)]∧I c t14 w∧μ c t14 w=m) (l':=[(5,pv_ b_1),(6,Value.int .u32 (bxor .u32 (IntKind.max .u32) sum)),(12,sv_ b_),(13,Vi ((b_.len:Nat):Int)),(14,Vi 0)]) (Sub.mk K_) ⟨(bxor .u32 (IntKind.max .u32) sum),0,rfl,h0,rfl⟩ ?_
  rintro _ _ w4 ⟨c,t14,rfl,hI,rfl⟩
  obtain⟨again_,again__h,h⟩:∃ again_:Int→Int→WP,(∀ c' t14' w',again_ c' t14' w'→I c' t14' w'∧μ c' t14' w'<μ c t14 w4)∧F_xe b_ R b_1 again_ c t14 w4:=⟨_,fun _ _ _ h=>h,hr c t14 w4 hI⟩
  clear h0 hI
  unfold F_xe at h
  refine zr (x:=zBj) (y:=zog) K_ ?_
  refine zi (id:=4) (ops:=zwm) K_ ?_
  refine zk [.plain] 1 [(5,[],pv_ b_1),(6,[],Value.int .u32 c),(12,[],sv_ b_),(13,[],Vi ((b_.len:Nat):Int)),(14,[],Vi t14),(15,[],Vo (decide (t14<((b_.len:Nat):Int))))] K_ K_ ?_
  refine zF [(5,pv_ b_1),(6,Value.int .u32 c),(12,sv_ b_),(13,Vi ((b_.len:Nat):Int)),(14,Vi t14),(15,Vo (decide (t14<((b_.len:Nat):Int))))] K_ K_ ?_
  change WpE _ _ zog _ _ _
  refine zr (x:=zDh) (y:=zpg) K_ ?_
  refine zFb (o:=(Operand.tmp 15)) (b:=(decide (t14<((b_.len:Nat):Int)))) (x:=zxm) (y:=zym) K_ K_ (fun hb=> ?_) (fun hb=> ?_)
  ·replace h:=h.1 hb
   refine zEb K_ ?_
   change WpE _ _ zpg _ _ _
   refine zr (x:=zCj) (y:=zGh) K_ ?_
   refine zOb (id:=1) (x:=zEh) K_ ?_
   refine zr (x:=zDj) (y:=zFh) K_ ?_
   refine zi (id:=5) (ops:=zzm) K_ ?_
   refine zk [] 0 [(5,[],pv_ b_1),(6,[],Value.int .u32 c),(12,[],sv_ b_),(13,[],Vi ((b_.len:Nat):Int)),(14,[],Vi t14)] K_ K_ ?_
   obtain⟨hp_7,h⟩:=h
   refine zeg [(5,[],pv_ b_1),(6,[],Value.int .u32 c),(12,[],Value.slice (some ⟨(pblk b_.ptr),(poff b_.ptr),none⟩) b_.len b_.cap),(13,[],Vi ((b_.len:Nat):Int)),(14,[],Vi t14)] (congrArg (fun pp=>([(5,[],pv_ b_1),(6,[],Value.int .u32 c),(12,[],Value.slice pp b_.len b_.cap),(13,[],Vi ((b_.len:Nat):Int)),(14,[],Vi t14)]:GEnv)) hp_7) ?_
   obtain⟨h0,h1,h⟩:=h
   refine zdf (t:=38) (e:=5) (x:=(Operand.tmp 12)) (ix:=(Operand.tmp 14)) (b:=(pblk b_.ptr)) (o:=(poff b_.ptr)) (l:=b_.len) (c:=b_.cap) (k:= .i64) (j:=t14) (ty:=0) (dst:=some 16) K_ K_ K_ K_ K_ h0 h1 ?_
   refine zk [] 1 [(5,[],pv_ b_1),(6,[],Value.int .u32 c),(12,[],Value.slice (some ⟨(pblk b_.ptr),(poff b_.ptr),none⟩) b_.len b_.cap),(13,[],Vi ((b_.len:Nat):Int)),(14,[],Vi t14),(16,[],Vp (some ⟨(pblk b_.ptr),(poff b_.ptr)+t14.toNat,none⟩))] K_ K_ ?_
   obtain⟨x,hc,h⟩:=h
   refine z8d (t:=5) (a:=(Operand.tmp 16)) (b:=(pblk b_.ptr)) (o:=((poff b_.ptr)+t14.toNat)) (ty:=5) (dst:=some 17) K_ K_ K_ hc ?_
   refine zk [.plain] 3 [(5,[],pv_ b_1),(6,[],Value.int .u32 c),(8,[],Value.int .u8 x),(12,[],Value.slice (some ⟨(pblk b_.ptr),(poff b_.ptr),none⟩) b_.len b_.cap),(13,[],Vi ((b_.len:Nat):Int)),(14,[],Vi t14)] K_ K_ ?_
   refine zeg [(5,[],pv_ b_1),(6,[],Value.int .u32 c),(8,[],Value.int .u8 x),(12,[],sv_ b_),(13,[],Vi ((b_.len:Nat):Int)),(14,[],Vi t14)] (congrArg (fun pp=>([(5,[],pv_ b_1),(6,[],Value.int .u32 c),(8,[],Value.int .u8 x),(12,[],Value.slice pp b_.len b_.cap),(13,[],Vi ((b_.len:Nat):Int)),(14,[],Vi t14)]:GEnv)) hp_7.symm) ?_
   refine zF [(5,pv_ b_1),(6,Value.int .u32 c),(8,Value.int .u8 x),(12,sv_ b_),(13,Vi ((b_.len:Nat):Int)),(14,Vi t14)] K_ K_ ?_
   change WpE _ _ zFh _ _ _
   refine zi (id:=6) (ops:=zAm) K_ ?_
   refine zk [.plain,.plain,.plain,.plain] 4 [(5,[],pv_ b_1),(6,[],Value.int .u32 c),(12,[],sv_ b_),(13,[],Vi ((b_.len:Nat):Int)),(14,[],Vi t14),(21,[],Value.int .u8 (bxor .u8 (IntKind.u8.wrap c) x))] K_ K_ ?_
   obtain⟨h0,h1,h⟩:=h
   refine zab (t:=228) (e:=181) (x:=(Operand.tmp 5)) (ix:=(Operand.tmp 21)) (b:=b_1) (o:=0) (len:=256) (k:= .u8) (j:=(bxor .u8 (IntKind.u8.wrap c) x)) (ty:=0) (dst:=some 22) K_ K_ K_ K_ K_ h0 h1 ?_
   refine zk [] 5 [(5,[],pv_ b_1),(6,[],Value.int .u32 c),(12,[],sv_ b_),(13,[],Vi ((b_.len:Nat):Int)),(14,[],Vi t14),(22,[],Vp (some ⟨b_1,0+(bxor .u8 (IntKind.u8.wrap c) x).toNat,none⟩))] K_ K_ ?_
   obtain⟨v23,hc,h⟩:=h
   refine z8d (t:=181) (a:=(Operand.tmp 22)) (b:=b_1) (o:=(0+(bxor .u8 (IntKind.u8.wrap c) x).toNat)) (ty:=181) (dst:=some 23) K_ K_ K_ hc ?_
   refine zk [.plain,.plain,.plain,.plain] 10 [(5,[],pv_ b_1),(6,[],Value.int .u32 (bxor .u32 v23 (Int.fdiv c (2 ^ 8)))),(12,[],sv_ b_),(13,[],Vi ((b_.len:Nat):Int)),(14,[],Vi t14)] K_ K_ ?_
   refine zF [(5,pv_ b_1),(6,Value.int .u32 (bxor .u32 v23 (Int.fdiv c (2 ^ 8)))),(12,sv_ b_),(13,Vi ((b_.len:Nat):Int)),(14,Vi t14)] K_ K_ ?_
   change WpE _ _ zGh _ _ _
   refine zi (id:=7) (ops:=zBm) K_ ?_
   refine zk [.plain,.plain] 2 [(5,[],pv_ b_1),(6,[],Value.int .u32 (bxor .u32 v23 (Int.fdiv c (2 ^ 8)))),(12,[],sv_ b_),(13,[],Vi ((b_.len:Nat):Int)),(14,[],Vi (IntKind.i64.wrap (t14+1)))] K_ K_ ?_
   refine zF [(5,pv_ b_1),(6,Value.int .u32 (bxor .u32 v23 (Int.fdiv c (2 ^ 8)))),(12,sv_ b_),(13,Vi ((b_.len:Nat):Int)),(14,Vi (IntKind.i64.wrap (t14+1)))] K_ K_ ?_
   have hb_:=again__h _ _ _ h
   exact⟨_,hb_.2,[(5,pv_ b_1),(6,Value.int .u32 (bxor .u32 v23 (Int.fdiv c (2 ^ 8)))),(12,sv_ b_),(13,Vi ((b_.len:Nat):Int)),(14,Vi (IntKind.i64.wrap (t14+1)))],Sub.mk K_,(bxor .u32 v23 (Int.fdiv c (2 ^ 8))),(IntKind.i64.wrap (t14+1)),rfl,hb_.1,rfl⟩
  ·replace h:=h.2 hb
   refine z4d (id:=0) K_ ?_
   change WpE _ _ zqg _ _ _
   refine zr (x:=zEj) (y:=zFj) K_ ?_
   refine zi (id:=8) (ops:=zCm) K_ ?_
   refine zk [.plain,.plain,.plain] 3 [(4,[],Value.int .u32 (bxor .u32 (IntKind.max .u32) c))] K_ K_ ?_
   refine zF [(4,Value.int .u32 (bxor .u32 (IntKind.max .u32) c))] K_ K_ ?_
   change WpE _ _ zFj _ _ _
   refine zWb K_ ?_
   repeat (first | refine zC ?_ | refine zp ?_ | refine zu ?_ | refine zE ?_)
   exact retS (rs:=[(ResultVar.tmp 4)]) (v:=Value.int .u32 (bxor .u32 (IntKind.max .u32) c)) K_ (⟨K_,trivial⟩) ⟨(bxor .u32 (IntKind.max .u32) c),rfl,h⟩
 ·rintro e w' ⟨v,rfl,r0,rfl,h⟩; exact⟨r0,rfl,h⟩

/-! ### towpath/sum.CRC (function 147) -/

theorem S_Oc {b_:Slc} {w:World} {R:Int→WP} (h:F_hf b_ R w):C_Oc b_ w R:=by
 unfold F_hf at h
 refine Yh Tryz.func147 ?_
 ·refine Yp P1 [0] (Yt (Yn P1 ?_))
  refine Ym1 h fun v4 w1 h=> ?_
  refine Yf P1 [2] ?_
  exact YS ⟨v4,rfl,h⟩

/-! ### towpath/sum.table (function 178) -/
def zGj:=cb_ Tryz.f178
def zal:=cl_ zGj
def zIr:=co_ zal
def zci:=cr_ zGj
def zbl:=cl_ zci
def zJr:=co_ zbl
def zdi:=cr_ zci
def zHj:=cl_ zdi
def zcl:=cl_ zHj
def zKr:=co_ zcl
def zHh:=cr_ zHj
def zIj:=cl_ zHh
def zIh:=cl_ zIj
def zJj:=cl_ zIh
def zDm:=co_ zJj
def zrg:=cr_ zIh
def zJh:=cl_ zrg
def zEm:=cl_ zJh
def zFm:=cr_ zJh
def zsg:=cr_ zrg
def zKj:=cl_ zsg
def zKh:=cl_ zKj
def zLj:=cl_ zKh
def zGm:=co_ zLj
def ztg:=cr_ zKh
def zMj:=cl_ ztg
def zHm:=co_ zMj
def zug:=cr_ ztg
def zLh:=cl_ zug
def zNj:=cl_ zLh
def zIm:=co_ zNj
def zMh:=cr_ zLh
def zOj:=cl_ zMh
def zNh:=cl_ zOj
def zPj:=cl_ zNh
def zJm:=co_ zPj
def zvg:=cr_ zNh
def zOh:=cl_ zvg
def zKm:=cl_ zOh
def zLm:=cr_ zOh
def zwg:=cr_ zvg
def zQj:=cl_ zwg
def zRj:=cl_ zQj
def zMm:=co_ zRj
def zPh:=cr_ zwg
def zNm:=co_ zPh
def zQh:=cr_ zug
def zOm:=co_ zQh
def zRh:=cr_ zsg
def zPm:=co_ zRh
def zxg:=cr_ zdi
def zSj:=cl_ zxg
def zQm:=co_ zSj
def zTj:=cr_ zxg

theorem S_Ic {w:World} {R:List Int→WP} (h:F_ff R w):C_Ec w R:=by
 unfold F_ff at h
 unfold C_Ec
 refine Calls.mono (zKb (args:=[]) (R:=fun v w'=>∃(r0:List Int),r0.length=256∧v=Value.agg (List.map (Value.int .u32) r0).toArray∧R r0 w') Tryz.func178 (c:=zGj) K_ 24 K_ K_ [] K_ ?_) ?_
 ·refine zr (x:=zal) (y:=zci) K_ ?_
  refine zi (id:=0) (ops:=zIr) K_ ?_
  refine zk [] 0 [] K_ K_ ?_
  refine zlc (op:=(Op.alloc 228)) (ty:=0) (dst:=some 0) (fun bb=>pv_ bb) (Obj.cells ((List.map (Value.int .u32) (List.replicate 256 0))).toArray y_k (0,0)) K_ K_ (fun b_ w1 hb hw=> ?_)
  replace h:=h b_ w1 hb hw
  clear hb hw
  refine zF [(0,pv_ b_)] K_ K_ ?_
  change WpE _ _ zci _ _ _
  refine zr (x:=zbl) (y:=zdi) K_ ?_
  refine zi (id:=1) (ops:=zJr) K_ ?_
  refine zk [] 0 [(0,[],pv_ b_)] K_ K_ ?_
  refine zlc (op:=(Op.alloc 228)) (ty:=0) (dst:=some 1) (fun bb=>pv_ bb) (Obj.cells ((List.map (Value.int .u32) (List.replicate 256 0))).toArray y_k (0,0)) K_ K_ (fun b_1 w2 hb hw=> ?_)
  replace h:=h b_1 w2 hb hw
  clear hb hw
  refine zF [(0,pv_ b_),(1,pv_ b_1)] K_ K_ ?_
  change WpE _ _ zdi _ _ _
  refine zr (x:=zHj) (y:=zxg) K_ ?_
  refine zr (x:=zcl) (y:=zHh) K_ ?_
  refine zi (id:=2) (ops:=zKr) K_ ?_
  refine zk [.plain] 1 [(0,[],pv_ b_),(1,[],pv_ b_1),(4,[],Vi 0)] K_ K_ ?_
  refine zF [(0,pv_ b_),(1,pv_ b_1),(4,Vi 0)] K_ K_ ?_
  change WpE _ _ zHh _ _ _
  refine zOb (id:=0) (x:=zIj) K_ ?_
  obtain⟨I,μ,h0,hr⟩:=h
  refine z5d (x:=zIh) K_ (fun m l w=>∃(t4:Int),l=[(0,pv_ b_),(1,pv_ b_1),(4,Vi t4)]∧I t4 w∧μ t4 w=m) (l':=[(0,pv_ b_),(1,pv_ b_1),(4,Vi 0)]) (Sub.mk K_) ⟨0,rfl,h0,rfl⟩ ?_
  rintro _ _ w3 ⟨t4,rfl,hI,rfl⟩
  obtain⟨again_,again__h,h⟩:∃ again_:Int→WP,(∀ t4' w',again_ t4' w'→I t4' w'∧μ t4' w'<μ t4 w3)∧F_ue R b_ b_1 again_ t4 w3:=⟨_,fun _ _ h=>h,hr t4 w3 hI⟩
  clear h0 hI
  unfold F_ue at h
  refine zr (x:=zJj) (y:=zrg) K_ ?_
  refine zi (id:=3) (ops:=zDm) K_ ?_
  refine zk [.plain] 1 [(0,[],pv_ b_),(1,[],pv_ b_1),(4,[],Vi t4),(5,[],Vo (decide (t4<256)))] K_ K_ ?_
  refine zF [(0,pv_ b_),(1,pv_ b_1),(4,Vi t4),(5,Vo (decide (t4<256)))] K_ K_ ?_
  change WpE _ _ zrg _ _ _
  refine zr (x:=zJh) (y:=zsg) K_ ?_
  refine zFb (o:=(Operand.tmp 5)) (b:=(decide (t4<256))) (x:=zEm) (y:=zFm) K_ K_ (fun hb=> ?_) (fun hb=> ?_)
  ·replace h:=h.1 hb
   refine zEb K_ ?_
   change WpE _ _ zsg _ _ _
   refine zr (x:=zKj) (y:=zRh) K_ ?_
   refine zOb (id:=1) (x:=zKh) K_ ?_
   refine zr (x:=zLj) (y:=ztg) K_ ?_
   refine zi (id:=4) (ops:=zGm) K_ ?_
   refine zk [.plain,.plain] 2 [(0,[],pv_ b_),(1,[],pv_ b_1),(2,[],Vi t4),(4,[],Vi t4)] K_ K_ ?_
   refine zF [(0,pv_ b_),(1,pv_ b_1),(2,Vi t4),(4,Vi t4)] K_ K_ ?_
   change WpE _ _ ztg _ _ _
   refine zr (x:=zMj) (y:=zug) K_ ?_
   refine zi (id:=5) (ops:=zHm) K_ ?_
   refine zk [.plain,.plain,.plain] 3 [(0,[],pv_ b_),(1,[],pv_ b_1),(2,[],Vi t4),(3,[],Value.int .u32 (IntKind.u32.wrap t4)),(4,[],Vi t4)] K_ K_ ?_
   refine zF [(0,pv_ b_),(1,pv_ b_1),(2,Vi t4),(3,Value.int .u32 (IntKind.u32.wrap t4)),(4,Vi t4)] K_ K_ ?_
   change WpE _ _ zug _ _ _
   refine zr (x:=zLh) (y:=zQh) K_ ?_
   refine zr (x:=zNj) (y:=zMh) K_ ?_
   refine zi (id:=6) (ops:=zIm) K_ ?_
   refine zk [.plain] 1 [(0,[],pv_ b_),(1,[],pv_ b_1),(2,[],Vi t4),(3,[],Value.int .u32 (IntKind.u32.wrap t4)),(4,[],Vi t4),(9,[],Vi 0)] K_ K_ ?_
   refine zF [(0,pv_ b_),(1,pv_ b_1),(2,Vi t4),(3,Value.int .u32 (IntKind.u32.wrap t4)),(4,Vi t4),(9,Vi 0)] K_ K_ ?_
   change WpE _ _ zMh _ _ _
   refine zOb (id:=2) (x:=zOj) K_ ?_
   obtain⟨I,μ,h0,hr⟩:=h
   refine z5d (x:=zNh) K_ (fun m l w=>∃(c:Int) (t9:Int),l=[(0,pv_ b_),(1,pv_ b_1),(2,Vi t4),(3,Value.int .u32 c),(4,Vi t4),(9,Vi t9)]∧I c t9 w∧μ c t9 w=m) (l':=[(0,pv_ b_),(1,pv_ b_1),(2,Vi t4),(3,Value.int .u32 (IntKind.u32.wrap t4)),(4,Vi t4),(9,Vi 0)]) (Sub.mk K_) ⟨(IntKind.u32.wrap t4),0,rfl,h0,rfl⟩ ?_
   rintro _ _ w4 ⟨c,t9,rfl,hI,rfl⟩
   obtain⟨again_1,again_1_h,h⟩:∃ again_1:Int→Int→WP,(∀ c' t9' w',again_1 c' t9' w'→I c' t9' w'∧μ c' t9' w'<μ c t9 w4)∧F_te b_1 t4 again_ again_1 c t9 w4:=⟨_,fun _ _ _ h=>h,hr c t9 w4 hI⟩
   clear h0 hI
   unfold F_te at h
   refine zr (x:=zPj) (y:=zvg) K_ ?_
   refine zi (id:=7) (ops:=zJm) K_ ?_
   refine zk [.plain] 1 [(0,[],pv_ b_),(1,[],pv_ b_1),(2,[],Vi t4),(3,[],Value.int .u32 c),(4,[],Vi t4),(9,[],Vi t9),(10,[],Vo (decide (t9<8)))] K_ K_ ?_
   refine zF [(0,pv_ b_),(1,pv_ b_1),(2,Vi t4),(3,Value.int .u32 c),(4,Vi t4),(9,Vi t9),(10,Vo (decide (t9<8)))] K_ K_ ?_
   change WpE _ _ zvg _ _ _
   refine zr (x:=zOh) (y:=zwg) K_ ?_
   refine zFb (o:=(Operand.tmp 10)) (b:=(decide (t9<8))) (x:=zKm) (y:=zLm) K_ K_ (fun hb=> ?_) (fun hb=> ?_)
   ·replace h:=h.1 hb
    refine zEb K_ ?_
    change WpE _ _ zwg _ _ _
    refine zr (x:=zQj) (y:=zPh) K_ ?_
    refine zOb (id:=3) (x:=zRj) K_ ?_
    refine zi (id:=8) (ops:=zMm) K_ ?_
    refine zk [.plain,.plain,.plain,.plain,.plain,.plain,.plain,.plain] 8 [(0,[],pv_ b_),(1,[],pv_ b_1),(2,[],Vi t4),(3,[],Value.int .u32 (bxor .u32 (Int.fdiv c (2 ^ 1)) (band .u32 2197175160 (IntKind.u32.wrap (0 - (band .u32 c 1)))))),(4,[],Vi t4),(9,[],Vi t9)] K_ K_ ?_
    refine zF [(0,pv_ b_),(1,pv_ b_1),(2,Vi t4),(3,Value.int .u32 (bxor .u32 (Int.fdiv c (2 ^ 1)) (band .u32 2197175160 (IntKind.u32.wrap (0 - (band .u32 c 1)))))),(4,Vi t4),(9,Vi t9)] K_ K_ ?_
    change WpE _ _ zPh _ _ _
    refine zi (id:=9) (ops:=zNm) K_ ?_
    refine zk [.plain,.plain] 2 [(0,[],pv_ b_),(1,[],pv_ b_1),(2,[],Vi t4),(3,[],Value.int .u32 (bxor .u32 (Int.fdiv c (2 ^ 1)) (band .u32 2197175160 (IntKind.u32.wrap (0 - (band .u32 c 1)))))),(4,[],Vi t4),(9,[],Vi (IntKind.i64.wrap (t9+1)))] K_ K_ ?_
    refine zF [(0,pv_ b_),(1,pv_ b_1),(2,Vi t4),(3,Value.int .u32 (bxor .u32 (Int.fdiv c (2 ^ 1)) (band .u32 2197175160 (IntKind.u32.wrap (0 - (band .u32 c 1)))))),(4,Vi t4),(9,Vi (IntKind.i64.wrap (t9+1)))] K_ K_ ?_
    have hb_:=again_1_h _ _ _ h
    exact⟨_,hb_.2,[(0,pv_ b_),(1,pv_ b_1),(2,Vi t4),(3,Value.int .u32 (bxor .u32 (Int.fdiv c (2 ^ 1)) (band .u32 2197175160 (IntKind.u32.wrap (0 - (band .u32 c 1)))))),(4,Vi t4),(9,Vi (IntKind.i64.wrap (t9+1)))],Sub.mk K_,(bxor .u32 (Int.fdiv c (2 ^ 1)) (band .u32 2197175160 (IntKind.u32.wrap (0 - (band .u32 c 1))))),(IntKind.i64.wrap (t9+1)),rfl,hb_.1,rfl⟩
   ·replace h:=h.2 hb
    refine z4d (id:=2) K_ ?_
    change WpE _ _ zQh _ _ _
    refine zi (id:=10) (ops:=zOm) K_ ?_
    refine zk [.plain,.plain] 2 [(0,[],pv_ b_),(1,[],pv_ b_1),(4,[],Vi t4),(19,[],Vi t4),(20,[],Value.int .u32 c)] K_ K_ ?_
    obtain⟨h0,h1,h⟩:=h
    refine zab (t:=228) (e:=181) (x:=(Operand.tmp 1)) (ix:=(Operand.tmp 19)) (b:=b_1) (o:=0) (len:=256) (k:= .i64) (j:=t4) (ty:=0) (dst:=some 21) K_ K_ K_ K_ K_ h0 h1 ?_
    refine zk [] 3 [(0,[],pv_ b_),(1,[],pv_ b_1),(4,[],Vi t4),(20,[],Value.int .u32 c),(21,[],Vp (some ⟨b_1,0+t4.toNat,none⟩))] K_ K_ ?_
    obtain⟨hc,h⟩:=h
    refine zqb (t:=181) (a:=(Operand.tmp 21)) (x:=(Operand.tmp 20)) (b:=b_1) (o:=(0+t4.toNat)) (ty:=0) (dst:=none) [Value.int .u32 c] K_ K_ K_ (k:=1) K_ K_ K_ hc (fun w5 hw=> ?_)
    replace h:=h w5 hw
    clear hw
    refine zF [(0,pv_ b_),(1,pv_ b_1),(4,Vi t4)] K_ K_ ?_
    change WpE _ _ zRh _ _ _
    refine zi (id:=11) (ops:=zPm) K_ ?_
    refine zk [.plain,.plain] 2 [(0,[],pv_ b_),(1,[],pv_ b_1),(4,[],Vi (IntKind.i64.wrap (t4+1)))] K_ K_ ?_
    refine zF [(0,pv_ b_),(1,pv_ b_1),(4,Vi (IntKind.i64.wrap (t4+1)))] K_ K_ ?_
    have hb_:=again__h _ _ h
    exact⟨_,hb_.2,[(0,pv_ b_),(1,pv_ b_1),(4,Vi (IntKind.i64.wrap (t4+1)))],Sub.mk K_,(IntKind.i64.wrap (t4+1)),rfl,hb_.1,rfl⟩
  ·replace h:=h.2 hb
   refine z4d (id:=0) K_ ?_
   change WpE _ _ zxg _ _ _
   refine zr (x:=zSj) (y:=zTj) K_ ?_
   refine zi (id:=12) (ops:=zQm) K_ ?_
   refine zk [] 0 [(0,[],pv_ b_),(1,[],pv_ b_1)] K_ K_ ?_
   obtain⟨v23,hl_v23_0,hc,h⟩:=h
   refine zPc (t:=228) (a:=(Operand.tmp 1)) (b:=b_1) (o:=0) (ty:=228) (dst:=some 23) (List.map (Value.int .u32) v23) K_ K_ K_ (k:=256) K_ (by simp [hl_v23_0]) hc ?_
   refine zk [] 1 [(0,[],pv_ b_),(23,[],Value.agg (List.map (Value.int .u32) v23).toArray)] K_ K_ ?_
   obtain⟨hc,h⟩:=h
   refine zqb (t:=228) (a:=(Operand.tmp 0)) (x:=(Operand.tmp 23)) (b:=b_) (o:=0) (ty:=0) (dst:=none) (List.map (Value.int .u32) v23) K_ K_ K_ (k:=256) K_ (by simp [*]) (by simp [zP,oneCell,List.all_eq_true]) hc (fun w6 hw=> ?_)
   replace h:=h w6 hw
   clear hw
   refine zF [(0,pv_ b_)] K_ K_ ?_
   change WpE _ _ zTj _ _ _
   refine zWb K_ ?_
   obtain⟨res,hl_res_0,hc_res,h⟩:=h
   repeat (first | refine zC ?_ | refine zp ?_ | refine zu ?_ | refine zE ?_)
   exact retS (rs:=[(ResultVar.cell 0 228)]) (v:=Value.agg (List.map (Value.int .u32) res).toArray) K_ (⟨b_,0,(List.map (Value.int .u32) res),K_,hc_res,(zx (k:=256) K_ (by simp [hl_res_0])),.inl ⟨K_,rfl⟩,trivial⟩) ⟨res,(by simp [*]),rfl,h⟩
 ·rintro e w' ⟨v,rfl,r0,hl0,rfl,h⟩; exact⟨r0,hl0,rfl,h⟩
end
end Go.Proofs.YtjlfdepkphibgaaGreatDoor
