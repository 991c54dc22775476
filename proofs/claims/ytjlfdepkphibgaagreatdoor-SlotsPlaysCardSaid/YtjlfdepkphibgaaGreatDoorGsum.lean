/- WRITTEN BY PROGRAM (dec.py): for each Go function the clean formula F, the call's contract C, and the proof S that F gives C. -/
import Derived.Test.YtjlfdepkphibgaaGreatDoorRows
import Derived.Test.YtjlfdepkphibgaaGreatDoorGF
namespace Go.Proofs.YtjlfdepkphibgaaGreatDoor
open Go
set_option linter.unusedVariables false
set_option maxRecDepth 100000
set_option maxHeartbeats 4000000
noncomputable section

/-! ### towpath/sum.More (function 146) -/
def zCj:=cb_ Tryz.f146
def zbl:=cl_ zCj
def zSr:=co_ zbl
def zgi:=cr_ zCj
def zcl:=cl_ zgi
def zTr:=co_ zcl
def zhi:=cr_ zgi
def zdl:=cl_ zhi
def zUr:=co_ zdl
def zii:=cr_ zhi
def zHh:=cl_ zii
def zDj:=cl_ zHh
def zzm:=co_ zDj
def zIh:=cr_ zHh
def zEj:=cl_ zIh
def zJh:=cl_ zEj
def zFj:=cl_ zJh
def zAm:=co_ zFj
def zug:=cr_ zJh
def zKh:=cl_ zug
def zBm:=cl_ zKh
def zCm:=cr_ zKh
def zvg:=cr_ zug
def zGj:=cl_ zvg
def zLh:=cl_ zGj
def zHj:=cl_ zLh
def zDm:=co_ zHj
def zMh:=cr_ zLh
def zEm:=co_ zMh
def zNh:=cr_ zvg
def zFm:=co_ zNh
def zwg:=cr_ zii
def zIj:=cl_ zwg
def zGm:=co_ zIj
def zJj:=cr_ zwg

theorem S_Rc {sum:Int} {b_:Slc} {w:World} {R:Int→WP} (h:F_of sum b_ R w):C_Cc sum b_ w R:=by
 unfold F_of at h
 unfold C_Cc
 refine Calls.mono (zKb (args:=[Value.int .u32 sum,sv_ b_]) (R:=fun v w'=>∃(r0:Int),v=Value.int .u32 r0∧R r0 w') Tryz.func146 (c:=zCj) K_ 30 K_ K_ [(0,Value.int .u32 sum),(1,sv_ b_)] K_ ?_) ?_
 ·refine zt (x:=zbl) (y:=zgi) K_ ?_
  refine zi (id:=0) (ops:=zSr) K_ ?_
  refine zk [.plain] 1 [(0,[],Value.int .u32 sum),(1,[],sv_ b_)] K_ K_ ?_
  refine zF [(0,Value.int .u32 sum),(1,sv_ b_)] K_ K_ ?_
  change WpE _ _ zgi _ _ _
  refine zt (x:=zcl) (y:=zhi) K_ ?_
  refine zi (id:=1) (ops:=zTr) K_ ?_
  refine zk [] 0 [(0,[],Value.int .u32 sum),(1,[],sv_ b_)] K_ K_ ?_
  refine zkb (op:=(Op.call (Call.mk (Callee.value (Operand.func 178)) #[] #[]))) (ty:=228) (dst:=some 9) 178 #[] K_ (fun ww=>by kernel_rfl) (Calls.mono h ?_)
  rintro _ w1 ⟨v9,hl_v9_0,rfl,h⟩
  refine⟨_,rfl,?_⟩
  replace h:=h hl_v9_0
  refine zk [] 1 [(0,[],Value.int .u32 sum),(1,[],sv_ b_),(9,[],Value.agg (List.map (Value.int .u32) v9).toArray)] K_ K_ ?_
  refine zlc (op:=(Op.alloc 228)) (ty:=0) (dst:=some 5) (fun bb=>pv_ bb) (Obj.cells ((List.map (Value.int .u32) (List.replicate 256 0))).toArray y_k (0,0)) K_ K_ (fun b_1 w2 hb hw=> ?_)
  replace h:=h b_1 w2 hb hw
  clear hb hw
  refine zk [] 2 [(0,[],Value.int .u32 sum),(1,[],sv_ b_),(5,[],pv_ b_1),(9,[],Value.agg (List.map (Value.int .u32) v9).toArray)] K_ K_ ?_
  obtain⟨hc,h⟩:=h
  refine zqb (t:=228) (a:=(Operand.tmp 5)) (x:=(Operand.tmp 9)) (b:=b_1) (o:=0) (ty:=0) (dst:=none) (List.map (Value.int .u32) v9) K_ K_ K_ (k:=256) K_ (by simp [*]) (by simp [zQ,oneCell,List.all_eq_true]) hc (fun w3 hw=> ?_)
  replace h:=h w3 hw
  clear hw
  refine zF [(0,Value.int .u32 sum),(1,sv_ b_),(5,pv_ b_1)] K_ K_ ?_
  change WpE _ _ zhi _ _ _
  refine zt (x:=zdl) (y:=zii) K_ ?_
  refine zi (id:=2) (ops:=zUr) K_ ?_
  refine zk [.plain,.plain,.plain] 3 [(1,[],sv_ b_),(5,[],pv_ b_1),(6,[],Value.int .u32 (bxor .u32 (IntKind.max .u32) sum))] K_ K_ ?_
  refine zF [(1,sv_ b_),(5,pv_ b_1),(6,Value.int .u32 (bxor .u32 (IntKind.max .u32) sum))] K_ K_ ?_
  change WpE _ _ zii _ _ _
  refine zt (x:=zHh) (y:=zwg) K_ ?_
  refine zt (x:=zDj) (y:=zIh) K_ ?_
  refine zi (id:=3) (ops:=zzm) K_ ?_
  refine zk [.plain,.plain,.plain] 3 [(5,[],pv_ b_1),(6,[],Value.int .u32 (bxor .u32 (IntKind.max .u32) sum)),(12,[],sv_ b_),(13,[],Vi ((b_.len:Nat):Int)),(14,[],Vi 0)] K_ K_ ?_
  refine zF [(5,pv_ b_1),(6,Value.int .u32 (bxor .u32 (IntKind.max .u32) sum)),(12,sv_ b_),(13,Vi ((b_.len:Nat):Int)),(14,Vi 0)] K_ K_ ?_
  change WpE _ _ zIh _ _ _
  refine zQb (id:=0) (x:=zEj) K_ ?_
  obtain⟨I,μ,h0,hr⟩:=h
  refine z9d (x:=zJh) K_ (fun m l w=>∃(c:Int) (t14:Int),l=[(5,pv_ b_1),(6,Value.int .u32 c),(12,sv_ b_),(13,Vi ((b_.len:Nat):Int)),(14,Vi t14)]∧I c t14 w∧μ c t14 w=m) (l':=[(5,pv_ b_1),(6,Value.int .u32 (bxor .u32 (IntKind.max .u32) sum)),(12,sv_ b_),(13,Vi ((b_.len:Nat):Int)),(14,Vi 0)]) (Sub.mk K_) ⟨(bxor .u32 (IntKind.max .u32) sum),0,rfl,h0,rfl⟩ ?_
  rintro _ _ w4 ⟨c,t14,rfl,hI,rfl⟩
  obtain⟨again_,again__h,h⟩:∃ again_:Int→Int→WP,(∀ c' t14' w',again_ c' t14' w'→I c' t14' w'∧μ c' t14' w'<μ c t14 w4)∧F_Ee b_ R b_1 again_ c t14 w4:=⟨_,fun _ _ _ h=>h,hr c t14 w4 hI⟩
  clear h0 hI
  unfold F_Ee at h
  refine zt (x:=zFj) (y:=zug) K_ ?_
  refine zi (id:=4) (ops:=zAm) K_ ?_
  refine zk [.plain] 1 [(5,[],pv_ b_1),(6,[],Value.int .u32 c),(12,[],sv_ b_),(13,[],Vi ((b_.len:Nat):Int)),(14,[],Vi t14),(15,[],Vo (decide (t14<((b_.len:Nat):Int))))] K_ K_ ?_
  refine zF [(5,pv_ b_1),(6,Value.int .u32 c),(12,sv_ b_),(13,Vi ((b_.len:Nat):Int)),(14,Vi t14),(15,Vo (decide (t14<((b_.len:Nat):Int))))] K_ K_ ?_
  change WpE _ _ zug _ _ _
  refine zt (x:=zKh) (y:=zvg) K_ ?_
  refine zEb (o:=(Operand.tmp 15)) (b:=(decide (t14<((b_.len:Nat):Int)))) (x:=zBm) (y:=zCm) K_ K_ (fun hb=> ?_) (fun hb=> ?_)
  ·replace h:=h.1 hb
   refine zDb K_ ?_
   change WpE _ _ zvg _ _ _
   refine zt (x:=zGj) (y:=zNh) K_ ?_
   refine zQb (id:=1) (x:=zLh) K_ ?_
   refine zt (x:=zHj) (y:=zMh) K_ ?_
   refine zi (id:=5) (ops:=zDm) K_ ?_
   refine zk [] 0 [(5,[],pv_ b_1),(6,[],Value.int .u32 c),(12,[],sv_ b_),(13,[],Vi ((b_.len:Nat):Int)),(14,[],Vi t14)] K_ K_ ?_
   obtain⟨hp_7,h⟩:=h
   refine zkg [(5,[],pv_ b_1),(6,[],Value.int .u32 c),(12,[],Value.slice (some ⟨(pblk b_.ptr),(poff b_.ptr),none⟩) b_.len b_.cap),(13,[],Vi ((b_.len:Nat):Int)),(14,[],Vi t14)] (congrArg (fun pp=>([(5,[],pv_ b_1),(6,[],Value.int .u32 c),(12,[],Value.slice pp b_.len b_.cap),(13,[],Vi ((b_.len:Nat):Int)),(14,[],Vi t14)]:GEnv)) hp_7) ?_
   obtain⟨h0,h1,h⟩:=h
   refine zgf (t:=38) (e:=5) (x:=(Operand.tmp 12)) (ix:=(Operand.tmp 14)) (b:=(pblk b_.ptr)) (o:=(poff b_.ptr)) (l:=b_.len) (c:=b_.cap) (k:= .i64) (j:=t14) (ty:=0) (dst:=some 16) K_ K_ K_ K_ K_ h0 h1 ?_
   refine zk [] 1 [(5,[],pv_ b_1),(6,[],Value.int .u32 c),(12,[],Value.slice (some ⟨(pblk b_.ptr),(poff b_.ptr),none⟩) b_.len b_.cap),(13,[],Vi ((b_.len:Nat):Int)),(14,[],Vi t14),(16,[],Vp (some ⟨(pblk b_.ptr),(poff b_.ptr)+t14.toNat,none⟩))] K_ K_ ?_
   obtain⟨x,hc,h⟩:=h
   refine zce (t:=5) (a:=(Operand.tmp 16)) (b:=(pblk b_.ptr)) (o:=((poff b_.ptr)+t14.toNat)) (ty:=5) (dst:=some 17) K_ K_ K_ hc ?_
   refine zk [.plain] 3 [(5,[],pv_ b_1),(6,[],Value.int .u32 c),(8,[],Value.int .u8 x),(12,[],Value.slice (some ⟨(pblk b_.ptr),(poff b_.ptr),none⟩) b_.len b_.cap),(13,[],Vi ((b_.len:Nat):Int)),(14,[],Vi t14)] K_ K_ ?_
   refine zkg [(5,[],pv_ b_1),(6,[],Value.int .u32 c),(8,[],Value.int .u8 x),(12,[],sv_ b_),(13,[],Vi ((b_.len:Nat):Int)),(14,[],Vi t14)] (congrArg (fun pp=>([(5,[],pv_ b_1),(6,[],Value.int .u32 c),(8,[],Value.int .u8 x),(12,[],Value.slice pp b_.len b_.cap),(13,[],Vi ((b_.len:Nat):Int)),(14,[],Vi t14)]:GEnv)) hp_7.symm) ?_
   refine zF [(5,pv_ b_1),(6,Value.int .u32 c),(8,Value.int .u8 x),(12,sv_ b_),(13,Vi ((b_.len:Nat):Int)),(14,Vi t14)] K_ K_ ?_
   change WpE _ _ zMh _ _ _
   refine zi (id:=6) (ops:=zEm) K_ ?_
   refine zk [.plain,.plain,.plain,.plain] 4 [(5,[],pv_ b_1),(6,[],Value.int .u32 c),(12,[],sv_ b_),(13,[],Vi ((b_.len:Nat):Int)),(14,[],Vi t14),(21,[],Value.int .u8 (bxor .u8 (IntKind.u8.wrap c) x))] K_ K_ ?_
   obtain⟨h0,h1,h⟩:=h
   refine zab (t:=228) (e:=181) (x:=(Operand.tmp 5)) (ix:=(Operand.tmp 21)) (b:=b_1) (o:=0) (len:=256) (k:= .u8) (j:=(bxor .u8 (IntKind.u8.wrap c) x)) (ty:=0) (dst:=some 22) K_ K_ K_ K_ K_ h0 h1 ?_
   refine zk [] 5 [(5,[],pv_ b_1),(6,[],Value.int .u32 c),(12,[],sv_ b_),(13,[],Vi ((b_.len:Nat):Int)),(14,[],Vi t14),(22,[],Vp (some ⟨b_1,0+(bxor .u8 (IntKind.u8.wrap c) x).toNat,none⟩))] K_ K_ ?_
   obtain⟨v23,hc,h⟩:=h
   refine zce (t:=181) (a:=(Operand.tmp 22)) (b:=b_1) (o:=(0+(bxor .u8 (IntKind.u8.wrap c) x).toNat)) (ty:=181) (dst:=some 23) K_ K_ K_ hc ?_
   refine zk [.plain,.plain,.plain,.plain] 10 [(5,[],pv_ b_1),(6,[],Value.int .u32 (bxor .u32 v23 (Int.fdiv c (2 ^ 8)))),(12,[],sv_ b_),(13,[],Vi ((b_.len:Nat):Int)),(14,[],Vi t14)] K_ K_ ?_
   refine zF [(5,pv_ b_1),(6,Value.int .u32 (bxor .u32 v23 (Int.fdiv c (2 ^ 8)))),(12,sv_ b_),(13,Vi ((b_.len:Nat):Int)),(14,Vi t14)] K_ K_ ?_
   change WpE _ _ zNh _ _ _
   refine zi (id:=7) (ops:=zFm) K_ ?_
   refine zk [.plain,.plain] 2 [(5,[],pv_ b_1),(6,[],Value.int .u32 (bxor .u32 v23 (Int.fdiv c (2 ^ 8)))),(12,[],sv_ b_),(13,[],Vi ((b_.len:Nat):Int)),(14,[],Vi (IntKind.i64.wrap (t14+1)))] K_ K_ ?_
   refine zF [(5,pv_ b_1),(6,Value.int .u32 (bxor .u32 v23 (Int.fdiv c (2 ^ 8)))),(12,sv_ b_),(13,Vi ((b_.len:Nat):Int)),(14,Vi (IntKind.i64.wrap (t14+1)))] K_ K_ ?_
   have hb_:=again__h _ _ _ h
   exact⟨_,hb_.2,[(5,pv_ b_1),(6,Value.int .u32 (bxor .u32 v23 (Int.fdiv c (2 ^ 8)))),(12,sv_ b_),(13,Vi ((b_.len:Nat):Int)),(14,Vi (IntKind.i64.wrap (t14+1)))],Sub.mk K_,(bxor .u32 v23 (Int.fdiv c (2 ^ 8))),(IntKind.i64.wrap (t14+1)),rfl,hb_.1,rfl⟩
  ·replace h:=h.2 hb
   refine z8d (id:=0) K_ ?_
   change WpE _ _ zwg _ _ _
   refine zt (x:=zIj) (y:=zJj) K_ ?_
   refine zi (id:=8) (ops:=zGm) K_ ?_
   refine zk [.plain,.plain,.plain] 3 [(4,[],Value.int .u32 (bxor .u32 (IntKind.max .u32) c))] K_ K_ ?_
   refine zF [(4,Value.int .u32 (bxor .u32 (IntKind.max .u32) c))] K_ K_ ?_
   change WpE _ _ zJj _ _ _
   refine zYb K_ ?_
   repeat (first | refine zC ?_ | refine zp ?_ | refine zu ?_ | refine zE ?_)
   exact retS (rs:=[(ResultVar.tmp 4)]) (v:=Value.int .u32 (bxor .u32 (IntKind.max .u32) c)) K_ (⟨K_,trivial⟩) ⟨(bxor .u32 (IntKind.max .u32) c),rfl,h⟩
 ·rintro e w' ⟨v,rfl,r0,rfl,h⟩; exact⟨r0,rfl,h⟩

/-! ### towpath/sum.CRC (function 147) -/

theorem S_Sc {b_:Slc} {w:World} {R:Int→WP} (h:F_pf b_ R w):C_Sc b_ w R:=by
 unfold F_pf at h
 refine Yh Tryz.func147 ?_
 ·refine Yp P1 [0] (Yt (Yn P1 ?_))
  refine Ym1 h fun v4 w1 h=> ?_
  refine Yf P1 [2] ?_
  exact YS ⟨v4,rfl,h⟩

/-! ### towpath/sum.table (function 178) -/
def zKj:=cb_ Tryz.f178
def zel:=cl_ zKj
def zVr:=co_ zel
def zji:=cr_ zKj
def zfl:=cl_ zji
def zWr:=co_ zfl
def zki:=cr_ zji
def zLj:=cl_ zki
def zgl:=cl_ zLj
def zXr:=co_ zgl
def zOh:=cr_ zLj
def zMj:=cl_ zOh
def zPh:=cl_ zMj
def zNj:=cl_ zPh
def zHm:=co_ zNj
def zxg:=cr_ zPh
def zQh:=cl_ zxg
def zIm:=cl_ zQh
def zJm:=cr_ zQh
def zyg:=cr_ zxg
def zOj:=cl_ zyg
def zRh:=cl_ zOj
def zPj:=cl_ zRh
def zKm:=co_ zPj
def zzg:=cr_ zRh
def zQj:=cl_ zzg
def zLm:=co_ zQj
def zAg:=cr_ zzg
def zSh:=cl_ zAg
def zRj:=cl_ zSh
def zMm:=co_ zRj
def zTh:=cr_ zSh
def zSj:=cl_ zTh
def zUh:=cl_ zSj
def zTj:=cl_ zUh
def zNm:=co_ zTj
def zBg:=cr_ zUh
def zVh:=cl_ zBg
def zOm:=cl_ zVh
def zPm:=cr_ zVh
def zCg:=cr_ zBg
def zUj:=cl_ zCg
def zVj:=cl_ zUj
def zQm:=co_ zVj
def zWh:=cr_ zCg
def zRm:=co_ zWh
def zXh:=cr_ zAg
def zSm:=co_ zXh
def zYh:=cr_ zyg
def zTm:=co_ zYh
def zDg:=cr_ zki
def zWj:=cl_ zDg
def zUm:=co_ zWj
def zXj:=cr_ zDg

theorem S_Mc {w:World} {R:List Int→WP} (h:F_nf R w):C_Ic w R:=by
 unfold F_nf at h
 unfold C_Ic
 refine Calls.mono (zKb (args:=[]) (R:=fun v w'=>∃(r0:List Int),r0.length=256∧v=Value.agg (List.map (Value.int .u32) r0).toArray∧R r0 w') Tryz.func178 (c:=zKj) K_ 24 K_ K_ [] K_ ?_) ?_
 ·refine zt (x:=zel) (y:=zji) K_ ?_
  refine zi (id:=0) (ops:=zVr) K_ ?_
  refine zk [] 0 [] K_ K_ ?_
  refine zlc (op:=(Op.alloc 228)) (ty:=0) (dst:=some 0) (fun bb=>pv_ bb) (Obj.cells ((List.map (Value.int .u32) (List.replicate 256 0))).toArray y_k (0,0)) K_ K_ (fun b_ w1 hb hw=> ?_)
  replace h:=h b_ w1 hb hw
  clear hb hw
  refine zF [(0,pv_ b_)] K_ K_ ?_
  change WpE _ _ zji _ _ _
  refine zt (x:=zfl) (y:=zki) K_ ?_
  refine zi (id:=1) (ops:=zWr) K_ ?_
  refine zk [] 0 [(0,[],pv_ b_)] K_ K_ ?_
  refine zlc (op:=(Op.alloc 228)) (ty:=0) (dst:=some 1) (fun bb=>pv_ bb) (Obj.cells ((List.map (Value.int .u32) (List.replicate 256 0))).toArray y_k (0,0)) K_ K_ (fun b_1 w2 hb hw=> ?_)
  replace h:=h b_1 w2 hb hw
  clear hb hw
  refine zF [(0,pv_ b_),(1,pv_ b_1)] K_ K_ ?_
  change WpE _ _ zki _ _ _
  refine zt (x:=zLj) (y:=zDg) K_ ?_
  refine zt (x:=zgl) (y:=zOh) K_ ?_
  refine zi (id:=2) (ops:=zXr) K_ ?_
  refine zk [.plain] 1 [(0,[],pv_ b_),(1,[],pv_ b_1),(4,[],Vi 0)] K_ K_ ?_
  refine zF [(0,pv_ b_),(1,pv_ b_1),(4,Vi 0)] K_ K_ ?_
  change WpE _ _ zOh _ _ _
  refine zQb (id:=0) (x:=zMj) K_ ?_
  obtain⟨I,μ,h0,hr⟩:=h
  refine z9d (x:=zPh) K_ (fun m l w=>∃(t4:Int),l=[(0,pv_ b_),(1,pv_ b_1),(4,Vi t4)]∧I t4 w∧μ t4 w=m) (l':=[(0,pv_ b_),(1,pv_ b_1),(4,Vi 0)]) (Sub.mk K_) ⟨0,rfl,h0,rfl⟩ ?_
  rintro _ _ w3 ⟨t4,rfl,hI,rfl⟩
  obtain⟨again_,again__h,h⟩:∃ again_:Int→WP,(∀ t4' w',again_ t4' w'→I t4' w'∧μ t4' w'<μ t4 w3)∧F_Be R b_ b_1 again_ t4 w3:=⟨_,fun _ _ h=>h,hr t4 w3 hI⟩
  clear h0 hI
  unfold F_Be at h
  refine zt (x:=zNj) (y:=zxg) K_ ?_
  refine zi (id:=3) (ops:=zHm) K_ ?_
  refine zk [.plain] 1 [(0,[],pv_ b_),(1,[],pv_ b_1),(4,[],Vi t4),(5,[],Vo (decide (t4<256)))] K_ K_ ?_
  refine zF [(0,pv_ b_),(1,pv_ b_1),(4,Vi t4),(5,Vo (decide (t4<256)))] K_ K_ ?_
  change WpE _ _ zxg _ _ _
  refine zt (x:=zQh) (y:=zyg) K_ ?_
  refine zEb (o:=(Operand.tmp 5)) (b:=(decide (t4<256))) (x:=zIm) (y:=zJm) K_ K_ (fun hb=> ?_) (fun hb=> ?_)
  ·replace h:=h.1 hb
   refine zDb K_ ?_
   change WpE _ _ zyg _ _ _
   refine zt (x:=zOj) (y:=zYh) K_ ?_
   refine zQb (id:=1) (x:=zRh) K_ ?_
   refine zt (x:=zPj) (y:=zzg) K_ ?_
   refine zi (id:=4) (ops:=zKm) K_ ?_
   refine zk [.plain,.plain] 2 [(0,[],pv_ b_),(1,[],pv_ b_1),(2,[],Vi t4),(4,[],Vi t4)] K_ K_ ?_
   refine zF [(0,pv_ b_),(1,pv_ b_1),(2,Vi t4),(4,Vi t4)] K_ K_ ?_
   change WpE _ _ zzg _ _ _
   refine zt (x:=zQj) (y:=zAg) K_ ?_
   refine zi (id:=5) (ops:=zLm) K_ ?_
   refine zk [.plain,.plain,.plain] 3 [(0,[],pv_ b_),(1,[],pv_ b_1),(2,[],Vi t4),(3,[],Value.int .u32 (IntKind.u32.wrap t4)),(4,[],Vi t4)] K_ K_ ?_
   refine zF [(0,pv_ b_),(1,pv_ b_1),(2,Vi t4),(3,Value.int .u32 (IntKind.u32.wrap t4)),(4,Vi t4)] K_ K_ ?_
   change WpE _ _ zAg _ _ _
   refine zt (x:=zSh) (y:=zXh) K_ ?_
   refine zt (x:=zRj) (y:=zTh) K_ ?_
   refine zi (id:=6) (ops:=zMm) K_ ?_
   refine zk [.plain] 1 [(0,[],pv_ b_),(1,[],pv_ b_1),(2,[],Vi t4),(3,[],Value.int .u32 (IntKind.u32.wrap t4)),(4,[],Vi t4),(9,[],Vi 0)] K_ K_ ?_
   refine zF [(0,pv_ b_),(1,pv_ b_1),(2,Vi t4),(3,Value.int .u32 (IntKind.u32.wrap t4)),(4,Vi t4),(9,Vi 0)] K_ K_ ?_
   change WpE _ _ zTh _ _ _
   refine zQb (id:=2) (x:=zSj) K_ ?_
   obtain⟨I,μ,h0,hr⟩:=h
   refine z9d (x:=zUh) K_ (fun m l w=>∃(c:Int) (t9:Int),l=[(0,pv_ b_),(1,pv_ b_1),(2,Vi t4),(3,Value.int .u32 c),(4,Vi t4),(9,Vi t9)]∧I c t9 w∧μ c t9 w=m) (l':=[(0,pv_ b_),(1,pv_ b_1),(2,Vi t4),(3,Value.int .u32 (IntKind.u32.wrap t4)),(4,Vi t4),(9,Vi 0)]) (Sub.mk K_) ⟨(IntKind.u32.wrap t4),0,rfl,h0,rfl⟩ ?_
   rintro _ _ w4 ⟨c,t9,rfl,hI,rfl⟩
   obtain⟨again_1,again_1_h,h⟩:∃ again_1:Int→Int→WP,(∀ c' t9' w',again_1 c' t9' w'→I c' t9' w'∧μ c' t9' w'<μ c t9 w4)∧F_Ae b_1 t4 again_ again_1 c t9 w4:=⟨_,fun _ _ _ h=>h,hr c t9 w4 hI⟩
   clear h0 hI
   unfold F_Ae at h
   refine zt (x:=zTj) (y:=zBg) K_ ?_
   refine zi (id:=7) (ops:=zNm) K_ ?_
   refine zk [.plain] 1 [(0,[],pv_ b_),(1,[],pv_ b_1),(2,[],Vi t4),(3,[],Value.int .u32 c),(4,[],Vi t4),(9,[],Vi t9),(10,[],Vo (decide (t9<8)))] K_ K_ ?_
   refine zF [(0,pv_ b_),(1,pv_ b_1),(2,Vi t4),(3,Value.int .u32 c),(4,Vi t4),(9,Vi t9),(10,Vo (decide (t9<8)))] K_ K_ ?_
   change WpE _ _ zBg _ _ _
   refine zt (x:=zVh) (y:=zCg) K_ ?_
   refine zEb (o:=(Operand.tmp 10)) (b:=(decide (t9<8))) (x:=zOm) (y:=zPm) K_ K_ (fun hb=> ?_) (fun hb=> ?_)
   ·replace h:=h.1 hb
    refine zDb K_ ?_
    change WpE _ _ zCg _ _ _
    refine zt (x:=zUj) (y:=zWh) K_ ?_
    refine zQb (id:=3) (x:=zVj) K_ ?_
    refine zi (id:=8) (ops:=zQm) K_ ?_
    refine zk [.plain,.plain,.plain,.plain,.plain,.plain,.plain,.plain] 8 [(0,[],pv_ b_),(1,[],pv_ b_1),(2,[],Vi t4),(3,[],Value.int .u32 (bxor .u32 (Int.fdiv c (2 ^ 1)) (band .u32 2197175160 (IntKind.u32.wrap (0 - (band .u32 c 1)))))),(4,[],Vi t4),(9,[],Vi t9)] K_ K_ ?_
    refine zF [(0,pv_ b_),(1,pv_ b_1),(2,Vi t4),(3,Value.int .u32 (bxor .u32 (Int.fdiv c (2 ^ 1)) (band .u32 2197175160 (IntKind.u32.wrap (0 - (band .u32 c 1)))))),(4,Vi t4),(9,Vi t9)] K_ K_ ?_
    change WpE _ _ zWh _ _ _
    refine zi (id:=9) (ops:=zRm) K_ ?_
    refine zk [.plain,.plain] 2 [(0,[],pv_ b_),(1,[],pv_ b_1),(2,[],Vi t4),(3,[],Value.int .u32 (bxor .u32 (Int.fdiv c (2 ^ 1)) (band .u32 2197175160 (IntKind.u32.wrap (0 - (band .u32 c 1)))))),(4,[],Vi t4),(9,[],Vi (IntKind.i64.wrap (t9+1)))] K_ K_ ?_
    refine zF [(0,pv_ b_),(1,pv_ b_1),(2,Vi t4),(3,Value.int .u32 (bxor .u32 (Int.fdiv c (2 ^ 1)) (band .u32 2197175160 (IntKind.u32.wrap (0 - (band .u32 c 1)))))),(4,Vi t4),(9,Vi (IntKind.i64.wrap (t9+1)))] K_ K_ ?_
    have hb_:=again_1_h _ _ _ h
    exact⟨_,hb_.2,[(0,pv_ b_),(1,pv_ b_1),(2,Vi t4),(3,Value.int .u32 (bxor .u32 (Int.fdiv c (2 ^ 1)) (band .u32 2197175160 (IntKind.u32.wrap (0 - (band .u32 c 1)))))),(4,Vi t4),(9,Vi (IntKind.i64.wrap (t9+1)))],Sub.mk K_,(bxor .u32 (Int.fdiv c (2 ^ 1)) (band .u32 2197175160 (IntKind.u32.wrap (0 - (band .u32 c 1))))),(IntKind.i64.wrap (t9+1)),rfl,hb_.1,rfl⟩
   ·replace h:=h.2 hb
    refine z8d (id:=2) K_ ?_
    change WpE _ _ zXh _ _ _
    refine zi (id:=10) (ops:=zSm) K_ ?_
    refine zk [.plain,.plain] 2 [(0,[],pv_ b_),(1,[],pv_ b_1),(4,[],Vi t4),(19,[],Vi t4),(20,[],Value.int .u32 c)] K_ K_ ?_
    obtain⟨h0,h1,h⟩:=h
    refine zab (t:=228) (e:=181) (x:=(Operand.tmp 1)) (ix:=(Operand.tmp 19)) (b:=b_1) (o:=0) (len:=256) (k:= .i64) (j:=t4) (ty:=0) (dst:=some 21) K_ K_ K_ K_ K_ h0 h1 ?_
    refine zk [] 3 [(0,[],pv_ b_),(1,[],pv_ b_1),(4,[],Vi t4),(20,[],Value.int .u32 c),(21,[],Vp (some ⟨b_1,0+t4.toNat,none⟩))] K_ K_ ?_
    obtain⟨hc,h⟩:=h
    refine zqb (t:=181) (a:=(Operand.tmp 21)) (x:=(Operand.tmp 20)) (b:=b_1) (o:=(0+t4.toNat)) (ty:=0) (dst:=none) [Value.int .u32 c] K_ K_ K_ (k:=1) K_ K_ K_ hc (fun w5 hw=> ?_)
    replace h:=h w5 hw
    clear hw
    refine zF [(0,pv_ b_),(1,pv_ b_1),(4,Vi t4)] K_ K_ ?_
    change WpE _ _ zYh _ _ _
    refine zi (id:=11) (ops:=zTm) K_ ?_
    refine zk [.plain,.plain] 2 [(0,[],pv_ b_),(1,[],pv_ b_1),(4,[],Vi (IntKind.i64.wrap (t4+1)))] K_ K_ ?_
    refine zF [(0,pv_ b_),(1,pv_ b_1),(4,Vi (IntKind.i64.wrap (t4+1)))] K_ K_ ?_
    have hb_:=again__h _ _ h
    exact⟨_,hb_.2,[(0,pv_ b_),(1,pv_ b_1),(4,Vi (IntKind.i64.wrap (t4+1)))],Sub.mk K_,(IntKind.i64.wrap (t4+1)),rfl,hb_.1,rfl⟩
  ·replace h:=h.2 hb
   refine z8d (id:=0) K_ ?_
   change WpE _ _ zDg _ _ _
   refine zt (x:=zWj) (y:=zXj) K_ ?_
   refine zi (id:=12) (ops:=zUm) K_ ?_
   refine zk [] 0 [(0,[],pv_ b_),(1,[],pv_ b_1)] K_ K_ ?_
   obtain⟨v23,hl_v23_0,hc,h⟩:=h
   refine zQc (t:=228) (a:=(Operand.tmp 1)) (b:=b_1) (o:=0) (ty:=228) (dst:=some 23) (List.map (Value.int .u32) v23) K_ K_ K_ (k:=256) K_ (by simp [hl_v23_0]) hc ?_
   refine zk [] 1 [(0,[],pv_ b_),(23,[],Value.agg (List.map (Value.int .u32) v23).toArray)] K_ K_ ?_
   obtain⟨hc,h⟩:=h
   refine zqb (t:=228) (a:=(Operand.tmp 0)) (x:=(Operand.tmp 23)) (b:=b_) (o:=0) (ty:=0) (dst:=none) (List.map (Value.int .u32) v23) K_ K_ K_ (k:=256) K_ (by simp [*]) (by simp [zQ,oneCell,List.all_eq_true]) hc (fun w6 hw=> ?_)
   replace h:=h w6 hw
   clear hw
   refine zF [(0,pv_ b_)] K_ K_ ?_
   change WpE _ _ zXj _ _ _
   refine zYb K_ ?_
   obtain⟨res,hl_res_0,hc_res,h⟩:=h
   repeat (first | refine zC ?_ | refine zp ?_ | refine zu ?_ | refine zE ?_)
   exact retS (rs:=[(ResultVar.cell 0 228)]) (v:=Value.agg (List.map (Value.int .u32) res).toArray) K_ (⟨b_,0,(List.map (Value.int .u32) res),K_,hc_res,(zx (k:=256) K_ (by simp [hl_res_0])),.inl ⟨K_,rfl⟩,trivial⟩) ⟨res,(by simp [*]),rfl,h⟩
 ·rintro e w' ⟨v,rfl,r0,hl0,rfl,h⟩; exact⟨r0,hl0,rfl,h⟩
end
end Go.Proofs.YtjlfdepkphibgaaGreatDoor
