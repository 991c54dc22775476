/- WRITTEN BY PROGRAM (dec.py): for each Go function the clean formula F, the call's contract C, and the proof S that F gives C. -/
import Derived.Test.YtofjmclceflgiaaGreatRows
import Derived.Test.YtofjmclceflgiaaGreatGF
namespace Go.Proofs.YtofjmclceflgiaaGreat
open Go
set_option linter.unusedVariables false
set_option maxRecDepth 100000
set_option maxHeartbeats 4000000
noncomputable section

/-! ### towpath/deps.New (function 38) -/

theorem S_7b {w:World} {R:OA→WP} (h:F_Kd R w):C_Vb w R:=by
 unfold F_Kd at h
 refine Yh Tryz.func38 ?_
 ·refine Yp P1 [] (Yt ?_)
  refine Yw (fun bb=>Value.map (some bb)) h fun b_ w1 h=> ?_
  refine Yw (fun bb=>Value.map (some bb)) h fun b_1 w2 h=> ?_
  refine Yw (fun bb=>Value.map (some bb)) h fun b_2 w3 h=> ?_
  refine Yn P1 ?_
  refine Yw pv_ h fun b_3 w4 h=> ?_
  refine Yf P1 [0] ?_
  exact YS ⟨(some ⟨b_3,0,none⟩),rfl,h⟩

/-! ### (*towpath/deps.Table).gone (function 176) -/

theorem S_cb {t_:OA} {w:World} {R:Bool→WP} (h:F_Lc t_ R w):C_Y t_ w R:=by
 unfold F_Lc at h
 refine Yh Tryz.func176 ?_
 ·refine Yp P1 [0] (Yt (Yn P1 ?_))
  refine zw (op:=(Op.binOp BinOp.eql 76 (Operand.tmp 3) (Operand.const (Vp none)) 76)) (ty:=4) (dst:=some 4) (Vo t_.isNone) K_ (fun ww=>zy (p:=t_) K_ K_ K_ ww) ?_
  refine Yn P2 ?_
  refine Yspl 5 h (fun h=> ?_) fun h=> ?_
  ·refine Yf [.skip,.skip,.skip,.skip,.plain,.plain] [2] ?_
   exact YS ⟨true,rfl,h⟩
  ·refine Yv 6 h fun hp_0 h=> ?_
   refine Yn [.sure] (Yn [.sure] ?_)
   refine Yl h fun v9 h=> ?_
   refine zw (op:=(Op.binOp BinOp.eql 184 (Operand.tmp 9) (Operand.const (Value.map none)) 184)) (ty:=4) (dst:=some 10) (Vo v9.isNone) K_ (fun ww=>zSd (p:=v9) K_ K_ K_ ww) ?_
   refine Yf P2 [2] ?_
   exact YS ⟨v9.isNone,rfl,h⟩

/-! ### (*towpath/deps.Table).Add (function 218) -/
def zRk:=cb_ Tryz.f218
def zun:=cl_ zRk
def zst:=co_ zun
def zmj:=cr_ zRk
def zvn:=cl_ zmj
def zSk:=cl_ zvn
def zwn:=cl_ zSk
def ztt:=co_ zwn
def znj:=cr_ zSk
def zTk:=cl_ znj
def zUk:=cl_ zTk
def zFp:=co_ zUk
def zVk:=cr_ zTk
def zii:=cr_ znj
def zWk:=cl_ zii
def zGp:=co_ zWk
def zrg:=cr_ zii
def zji:=cl_ zrg
def zXk:=cl_ zji
def zHp:=co_ zXk
def zYk:=cr_ zji
def zki:=cr_ zrg
def zZk:=cl_ zki
def zIp:=co_ zZk
def zsg:=cr_ zki
def zli:=cl_ zsg
def z0k:=cl_ zli
def zJp:=co_ z0k
def z1k:=cr_ zli
def zKp:=cr_ zsg
def ztg:=cr_ zmj
def z2k:=cl_ ztg
def zLp:=co_ z2k
def zug:=cr_ ztg
def zmi:=cl_ zug
def z3k:=cl_ zmi
def zMp:=co_ z3k
def zni:=cr_ zmi
def z4k:=cl_ zni
def zoi:=cl_ z4k
def z5k:=cl_ zoi
def zNp:=co_ z5k
def zvg:=cr_ zoi
def zpi:=cl_ zvg
def zOp:=cl_ zpi
def zPp:=cr_ zpi
def zwg:=cr_ zvg
def z6k:=cl_ zwg
def zqi:=cl_ z6k
def z7k:=cl_ zqi
def zQp:=co_ z7k
def zxg:=cr_ zqi
def z8k:=cl_ zxg
def zRp:=co_ z8k
def zyg:=cr_ zxg
def z9k:=cl_ zyg
def zSp:=co_ z9k
def zzg:=cr_ zyg
def zal:=cl_ zzg
def zTp:=co_ zal
def zri:=cr_ zzg
def zsi:=cl_ zri
def zbl:=cl_ zsi
def zUp:=co_ zbl
def zti:=cr_ zsi
def zVp:=co_ zti
def zWp:=cr_ zri
def zcl:=cr_ zwg
def zXp:=co_ zcl
def zAg:=cr_ zug
def zui:=cl_ zAg
def zdl:=cl_ zui
def zYp:=co_ zdl
def zvi:=cr_ zui
def zel:=cl_ zvi
def zwi:=cl_ zel
def zfl:=cl_ zwi
def zZp:=co_ zfl
def zBg:=cr_ zwi
def zxi:=cl_ zBg
def z0p:=cl_ zxi
def z1p:=cr_ zxi
def zCg:=cr_ zBg
def zgl:=cl_ zCg
def zyi:=cl_ zgl
def zhl:=cl_ zyi
def z2p:=co_ zhl
def zzi:=cr_ zyi
def z3p:=co_ zzi
def zAi:=cr_ zCg
def z4p:=co_ zAi
def zDg:=cr_ zAg
def zil:=cl_ zDg
def z5p:=co_ zil
def zEg:=cr_ zDg
def zjl:=cl_ zEg
def z6p:=co_ zjl
def zFg:=cr_ zEg
def zkl:=cl_ zFg
def z7p:=co_ zkl
def zoj:=cr_ zFg
def zDd:List Nat:=[0,1,2,3,4,5,6,7,8,9,10,11]

theorem S_yb {t_:OA} {x:T_b} {w:World} {R:Int→Int→WP} (h:F_4c t_ x R w):C_7 t_ x w R:=by
 unfold F_4c at h
 unfold C_7
 refine Calls.mono (z4 (args:=[Vp t_,Value.agg #[Vi x.Number,sv_ x.Writes]]) (R:=fun v w'=>∃(r0:Int) (r1:Int),v=Value.tuple #[Vi r0,Vi r1]∧R r0 r1 w') Tryz.func218 (c:=zRk) K_ 103 K_ K_ [(0,Vp t_),(1,Value.agg #[Vi x.Number,sv_ x.Writes])] K_ ?_) ?_
 ·refine zf (x:=zun) (y:=zmj) K_ ?_
  refine ze (id:=0) (ops:=zst) K_ ?_
  refine zd [] 0 [(0,[],Vp t_),(1,[],Value.agg #[Vi x.Number,sv_ x.Writes])] K_ K_ ?_
  refine zQb (op:=(Op.box 72 (Operand.tmp 1))) (ty:=0) (dst:=some 3) (fun bb=>pv_ bb) (Obj.cells ([Vi x.Number,sv_ x.Writes]).toArray y_a (0,0)) K_ K_ (fun b_ w1 hb hw=> ?_)
  replace h:=h b_ w1 hb hw
  clear hb hw
  refine zd [.plain,.plain] 3 [(0,[],Vp t_),(3,[],pv_ b_)] K_ K_ ?_
  refine zj [(0,Vp t_),(3,pv_ b_)] K_ K_ ?_
  change WpE _ _ zmj _ _ _
  refine zf (x:=zvn) (y:=ztg) K_ ?_
  refine zQ (id:=0) (x:=zSk) K_ ?_
  refine zf (x:=zwn) (y:=znj) K_ ?_
  refine ze (id:=1) (ops:=ztt) K_ ?_
  refine zd [.plain] 1 [(0,[],Vp t_),(3,[],pv_ b_),(15,[],Vp t_)] K_ K_ ?_
  refine zW (op:=(Op.call (Call.mk (Callee.value (Operand.func 176)) #[(Operand.tmp 15)] #[76]))) (ty:=4) (dst:=some 16) 176 #[Vp t_] K_ (fun ww=>by kernel_rfl) (Calls.mono h ?_)
  rintro _ w2 ⟨v16,rfl,h⟩
  refine⟨_,rfl,?_⟩
  refine zd [.plain] 3 [(0,[],Vp t_),(3,[],pv_ b_),(14,[],Vo v16)] K_ K_ ?_
  refine zj [(0,Vp t_),(3,pv_ b_),(14,Vo v16)] K_ K_ ?_
  change WpE _ _ znj _ _ _
  refine zG (o:=(Operand.tmp 14)) (b:=v16) (x:=zTk) (y:=zii) K_ K_ (fun hb=> ?_) (fun hb=> ?_)
  ·replace h:=h.1 hb
   refine zf (x:=zUk) (y:=zVk) K_ ?_
   refine ze (id:=2) (ops:=zFp) K_ ?_
   refine zd [.plain,.plain] 2 [(4,[],Vi 0),(5,[],Vi 2)] K_ K_ ?_
   refine zj [(4,Vi 0),(5,Vi 2)] K_ K_ ?_
   change WpE _ _ zVk _ _ _
   refine z2 K_ ?_
   repeat (first | refine zM ?_ | refine zA ?_ | refine zF ?_ | refine zN ?_)
   exact retT (rs:=[(ResultVar.tmp 4),(ResultVar.tmp 5)]) (vs:=[Vi 0,Vi 2]) K_ (⟨K_,⟨K_,trivial⟩⟩) K_ ⟨0,2,rfl,h⟩
  ·replace h:=h.2 hb
   refine zf (x:=zWk) (y:=zrg) K_ ?_
   refine ze (id:=3) (ops:=zGp) K_ ?_
   refine zd [] 0 [(0,[],Vp t_),(3,[],pv_ b_)] K_ K_ ?_
   obtain⟨v18,hc,h⟩:=h
   refine zqc (t:=72) (a:=(Operand.tmp 3)) (b:=b_) (o:=0) (ty:=72) (dst:=some 18) [Vi v18.Number,sv_ v18.Writes] K_ K_ K_ (k:=2) K_ K_ hc ?_
   refine zd [] 1 [(0,[],Vp t_),(3,[],pv_ b_),(18,[],Value.agg #[Vi v18.Number,sv_ v18.Writes])] K_ K_ ?_
   refine zW (op:=(Op.call (Call.mk (Callee.value (Operand.func 92)) #[(Operand.tmp 18)] #[72]))) (ty:=36) (dst:=some 19) 92 #[Value.agg #[Vi v18.Number,sv_ v18.Writes]] K_ (fun ww=>by kernel_rfl) (Calls.mono h ?_)
   rintro _ w3 ⟨v19,rfl,h⟩
   refine⟨_,rfl,?_⟩
   refine zd [.plain,.plain] 4 [(0,[],Vp t_),(3,[],pv_ b_),(17,[],Vo (v19 != 0))] K_ K_ ?_
   refine zj [(0,Vp t_),(3,pv_ b_),(17,Vo (v19 != 0))] K_ K_ ?_
   change WpE _ _ zrg _ _ _
   refine zG (o:=(Operand.tmp 17)) (b:=(v19 != 0)) (x:=zji) (y:=zki) K_ K_ (fun hb=> ?_) (fun hb=> ?_)
   ·replace h:=h.1 hb
    refine zf (x:=zXk) (y:=zYk) K_ ?_
    refine ze (id:=4) (ops:=zHp) K_ ?_
    refine zd [.plain,.plain] 2 [(4,[],Vi 0),(5,[],Vi 1)] K_ K_ ?_
    refine zj [(4,Vi 0),(5,Vi 1)] K_ K_ ?_
    change WpE _ _ zYk _ _ _
    refine z2 K_ ?_
    repeat (first | refine zM ?_ | refine zA ?_ | refine zF ?_ | refine zN ?_)
    exact retT (rs:=[(ResultVar.tmp 4),(ResultVar.tmp 5)]) (vs:=[Vi 0,Vi 1]) K_ (⟨K_,⟨K_,trivial⟩⟩) K_ ⟨0,1,rfl,h⟩
   ·replace h:=h.2 hb
    refine zf (x:=zZk) (y:=zsg) K_ ?_
    refine zv (id:=5) (ops:=zIp) K_ K_ K_ ?_
    refine zh [.plain] 1 [(0,[],Vp t_),(3,[],pv_ b_),(22,[],pv_ b_)] K_ K_ ?_
    obtain⟨v23,hc,h⟩:=h
    refine zx (t:=3) (a:=(Operand.tmp 22)) (b:=b_) (o:=0) (ty:=3) (dst:=some 23) K_ K_ K_ hc ?_
    refine zh [.plain] 3 [(0,[],Vp t_),(3,[],pv_ b_),(23,[],Vi v23),(24,[],Vp t_)] K_ K_ ?_
    obtain⟨hp_3,h⟩:=h
    refine zX [(0,[],Vp t_),(3,[],pv_ b_),(23,[],Vi v23),(24,[],Vp (some ⟨(pblk t_),(poff t_),none⟩))] (congrArg (fun pp=>([(0,[],Vp t_),(3,[],pv_ b_),(23,[],Vi v23),(24,[],Vp pp)]:GEnv)) hp_3) ?_
    refine zh [.plain] 4 [(0,[],Vp t_),(3,[],pv_ b_),(23,[],Vi v23),(24,[],Vp (some ⟨(pblk t_),(poff t_),none⟩)),(25,[],Vp (some ⟨(pblk t_),(poff t_),none⟩))] K_ K_ ?_
    refine zh [.plain] 5 [(0,[],Vp t_),(3,[],pv_ b_),(23,[],Vi v23),(26,[],Vp (some ⟨(pblk t_),(poff t_)+3,none⟩))] K_ K_ ?_
    obtain⟨v27,hc,h⟩:=h
    refine zx (t:=3) (a:=(Operand.tmp 26)) (b:=(pblk t_)) (o:=((poff t_)+3)) (ty:=3) (dst:=some 27) K_ K_ K_ hc ?_
    refine zh [.plain,.plain] 8 [(0,[],Vp t_),(3,[],pv_ b_),(21,[],Vo (decide (v23≤v27)))] K_ K_ ?_
    refine zad [(0,Vp t_),(3,pv_ b_),(21,Vo (decide (v23≤v27)))] K_ K_ (fun w4 hw=> ?_)
    replace h:=h w4 hw
    clear hw
    change WpE _ _ zsg _ _ _
    refine zG (o:=(Operand.tmp 21)) (b:=(decide (v23≤v27))) (x:=zli) (y:=zKp) K_ K_ (fun hb=> ?_) (fun hb=> ?_)
    ·replace h:=h.1 hb
     refine zf (x:=z0k) (y:=z1k) K_ ?_
     refine ze (id:=6) (ops:=zJp) K_ ?_
     refine zd [.plain,.plain] 2 [(4,[],Vi 0),(5,[],Vi 6)] K_ K_ ?_
     refine zj [(4,Vi 0),(5,Vi 6)] K_ K_ ?_
     change WpE _ _ z1k _ _ _
     refine z2 K_ ?_
     repeat (first | refine zM ?_ | refine zA ?_ | refine zF ?_ | refine zN ?_)
     exact retT (rs:=[(ResultVar.tmp 4),(ResultVar.tmp 5)]) (vs:=[Vi 0,Vi 6]) K_ (⟨K_,⟨K_,trivial⟩⟩) K_ ⟨0,6,rfl,h⟩
    ·replace h:=h.2 hb
     refine zS K_ ?_
     change WpE _ _ ztg _ _ _
     refine zf (x:=z2k) (y:=zug) K_ ?_
     refine ze (id:=7) (ops:=zLp) K_ ?_
     refine zd [.plain] 1 [(0,[],Vp t_),(3,[],pv_ b_),(6,[],Vi 0)] K_ K_ ?_
     refine zj [(0,Vp t_),(3,pv_ b_),(6,Vi 0)] K_ K_ ?_
     change WpE _ _ zug _ _ _
     refine zf (x:=zmi) (y:=zAg) K_ ?_
     refine zf (x:=z3k) (y:=zni) K_ ?_
     refine ze (id:=8) (ops:=zMp) K_ ?_
     refine zd [.plain] 1 [(0,[],Vp t_),(3,[],pv_ b_),(6,[],Vi 0),(29,[],Vp (some ⟨b_,1,none⟩))] K_ K_ ?_
     obtain⟨v30,hc,h⟩:=h
     refine zB (t:=70) (a:=(Operand.tmp 29)) (b:=b_) (o:=1) (ty:=70) (dst:=some 30) K_ K_ K_ hc ?_
     refine zd [.plain,.plain] 4 [(0,[],Vp t_),(3,[],pv_ b_),(6,[],Vi 0),(30,[],sv_ v30),(31,[],Vi ((v30.len:Nat):Int)),(32,[],Vi 0)] K_ K_ ?_
     refine zj [(0,Vp t_),(3,pv_ b_),(6,Vi 0),(30,sv_ v30),(31,Vi ((v30.len:Nat):Int)),(32,Vi 0)] K_ K_ ?_
     change WpE _ _ zni _ _ _
     refine zQ (id:=1) (x:=z4k) K_ ?_
     obtain⟨I,μ,h0,hr⟩:=h
     refine zDc (x:=zoi) K_ (fun m l w=>∃(n_:Int) (t32:Int),l=[(0,Vp t_),(3,pv_ b_),(6,Vi n_),(30,sv_ v30),(31,Vi ((v30.len:Nat):Int)),(32,Vi t32)]∧I n_ t32 w∧μ n_ t32 w=m) (l':=[(0,Vp t_),(3,pv_ b_),(6,Vi 0),(30,sv_ v30),(31,Vi ((v30.len:Nat):Int)),(32,Vi 0)]) (Sub.mk K_) ⟨0,0,rfl,h0,rfl⟩ ?_
     rintro _ _ w5 ⟨n_,t32,rfl,hI,rfl⟩
     obtain⟨again_,again__h,h⟩:∃ again_:Int→Int→WP,(∀ n_' t32' w',again_ n_' t32' w'→I n_' t32' w'∧μ n_' t32' w'<μ n_ t32 w5)∧F_Cb t_ R b_ v30 again_ n_ t32 w5:=⟨_,fun _ _ _ h=>h,hr n_ t32 w5 hI⟩
     clear h0 hI
     unfold F_Cb at h
     refine zf (x:=z5k) (y:=zvg) K_ ?_
     refine ze (id:=9) (ops:=zNp) K_ ?_
     refine zd [.plain] 1 [(0,[],Vp t_),(3,[],pv_ b_),(6,[],Vi n_),(30,[],sv_ v30),(31,[],Vi ((v30.len:Nat):Int)),(32,[],Vi t32),(33,[],Vo (decide (t32<((v30.len:Nat):Int))))] K_ K_ ?_
     refine zj [(0,Vp t_),(3,pv_ b_),(6,Vi n_),(30,sv_ v30),(31,Vi ((v30.len:Nat):Int)),(32,Vi t32),(33,Vo (decide (t32<((v30.len:Nat):Int))))] K_ K_ ?_
     change WpE _ _ zvg _ _ _
     refine zf (x:=zpi) (y:=zwg) K_ ?_
     refine zG (o:=(Operand.tmp 33)) (b:=(decide (t32<((v30.len:Nat):Int)))) (x:=zOp) (y:=zPp) K_ K_ (fun hb=> ?_) (fun hb=> ?_)
     ·replace h:=h.1 hb
      refine zS K_ ?_
      change WpE _ _ zwg _ _ _
      refine zmb (x:=z6k) (y:=zcl) K_ (fun l w=>∃(n_1:Int),l=[(0,Vp t_),(3,pv_ b_),(6,Vi n_1),(30,sv_ v30),(31,Vi ((v30.len:Nat):Int)),(32,Vi t32)]∧F_D t32 again_ n_1 w) ?_ ?_
      ·refine zQ (id:=2) (x:=zqi) K_ ?_
       refine zf (x:=z7k) (y:=zxg) K_ ?_
       refine ze (id:=10) (ops:=zQp) K_ ?_
       refine zd [] 0 [(0,[],Vp t_),(3,[],pv_ b_),(6,[],Vi n_),(30,[],sv_ v30),(31,[],Vi ((v30.len:Nat):Int)),(32,[],Vi t32)] K_ K_ ?_
       obtain⟨hp_35,h⟩:=h
       refine zH [(0,[],Vp t_),(3,[],pv_ b_),(6,[],Vi n_),(30,[],Value.slice (some ⟨(pblk v30.ptr),(poff v30.ptr),none⟩) v30.len v30.cap),(31,[],Vi ((v30.len:Nat):Int)),(32,[],Vi t32)] (congrArg (fun pp=>([(0,[],Vp t_),(3,[],pv_ b_),(6,[],Vi n_),(30,[],Value.slice pp v30.len v30.cap),(31,[],Vi ((v30.len:Nat):Int)),(32,[],Vi t32)]:GEnv)) hp_35) ?_
       obtain⟨h0,h1,h⟩:=h
       refine zrc (t:=70) (e:=69) (x:=(Operand.tmp 30)) (ix:=(Operand.tmp 32)) (b:=(pblk v30.ptr)) (o:=(poff v30.ptr)) (l:=v30.len) (c:=v30.cap) (k:= .i64) (j:=t32) (ty:=0) (dst:=some 34) (sz:=3) K_ K_ K_ K_ K_ h0 h1 ?_
       refine zd [] 1 [(0,[],Vp t_),(3,[],pv_ b_),(6,[],Vi n_),(30,[],Value.slice (some ⟨(pblk v30.ptr),(poff v30.ptr),none⟩) v30.len v30.cap),(31,[],Vi ((v30.len:Nat):Int)),(32,[],Vi t32),(34,[],Vp (some ⟨(pblk v30.ptr),(poff v30.ptr)+t32.toNat*3,none⟩))] K_ K_ ?_
       obtain⟨v35,hc,h⟩:=h
       refine zqc (t:=69) (a:=(Operand.tmp 34)) (b:=(pblk v30.ptr)) (o:=((poff v30.ptr)+t32.toNat*3)) (ty:=69) (dst:=some 35) [Value.string v35.Key,Value.string v35.Val,Vo v35.Drop] K_ K_ K_ (k:=3) K_ K_ hc ?_
       refine zd [] 2 [(0,[],Vp t_),(3,[],pv_ b_),(6,[],Vi n_),(30,[],Value.slice (some ⟨(pblk v30.ptr),(poff v30.ptr),none⟩) v30.len v30.cap),(31,[],Vi ((v30.len:Nat):Int)),(32,[],Vi t32),(35,[],Value.agg #[Value.string v35.Key,Value.string v35.Val,Vo v35.Drop])] K_ K_ ?_
       refine zQb (op:=(Op.alloc 69)) (ty:=0) (dst:=some 8) (fun bb=>pv_ bb) (Obj.cells ([Value.string ByteArray.empty,Value.string ByteArray.empty,Vo false]).toArray y_b (0,0)) K_ K_ (fun b_1 w7 hb hw=> ?_)
       replace h:=h b_1 w7 hb hw
       clear hb hw
       refine zd [] 3 [(0,[],Vp t_),(3,[],pv_ b_),(6,[],Vi n_),(8,[],pv_ b_1),(30,[],Value.slice (some ⟨(pblk v30.ptr),(poff v30.ptr),none⟩) v30.len v30.cap),(31,[],Vi ((v30.len:Nat):Int)),(32,[],Vi t32),(35,[],Value.agg #[Value.string v35.Key,Value.string v35.Val,Vo v35.Drop])] K_ K_ ?_
       obtain⟨hc,h⟩:=h
       refine zab (t:=69) (a:=(Operand.tmp 8)) (x:=(Operand.tmp 35)) (b:=b_1) (o:=0) (ty:=0) (dst:=none) [Value.string v35.Key,Value.string v35.Val,Vo v35.Drop] K_ K_ K_ (k:=3) K_ K_ K_ hc (fun w8 hw=> ?_)
       replace h:=h w8 hw
       clear hw
       refine zd [] 4 [(0,[],Vp t_),(3,[],pv_ b_),(6,[],Vi n_),(8,[],pv_ b_1),(30,[],Value.slice (some ⟨(pblk v30.ptr),(poff v30.ptr),none⟩) v30.len v30.cap),(31,[],Vi ((v30.len:Nat):Int)),(32,[],Vi t32)] K_ K_ ?_
       refine zH [(0,[],Vp t_),(3,[],pv_ b_),(6,[],Vi n_),(8,[],pv_ b_1),(30,[],sv_ v30),(31,[],Vi ((v30.len:Nat):Int)),(32,[],Vi t32)] (congrArg (fun pp=>([(0,[],Vp t_),(3,[],pv_ b_),(6,[],Vi n_),(8,[],pv_ b_1),(30,[],Value.slice pp v30.len v30.cap),(31,[],Vi ((v30.len:Nat):Int)),(32,[],Vi t32)]:GEnv)) hp_35.symm) ?_
       refine zj [(0,Vp t_),(3,pv_ b_),(6,Vi n_),(8,pv_ b_1),(30,sv_ v30),(31,Vi ((v30.len:Nat):Int)),(32,Vi t32)] K_ K_ ?_
       change WpE _ _ zxg _ _ _
       refine zf (x:=z8k) (y:=zyg) K_ ?_
       refine zm (id:=11) (ops:=zRp) zDd K_ K_ K_ K_ (fun w9 hw=> ?_)
       replace h:=h w9 hw
       clear hw
       refine zp [.plain] 1 [(0,[],Vp t_),(3,[],pv_ b_),(6,[],Vi n_),(8,[],pv_ b_1),(30,[],sv_ v30),(31,[],Vi ((v30.len:Nat):Int)),(32,[],Vi t32),(36,[],pv_ b_)] K_ K_ ?_
       obtain⟨v37,hc,h⟩:=h
       refine zU (i:=1) K_ (t:=3) (a:=(Operand.tmp 36)) (b:=b_) (o:=0) (ty:=3) (dst:=some 37) K_ K_ K_ hc ?_
       refine zp [.plain] 3 [(0,[],Vp t_),(3,[],pv_ b_),(6,[],Vi n_),(8,[],pv_ b_1),(30,[],sv_ v30),(31,[],Vi ((v30.len:Nat):Int)),(32,[],Vi t32),(37,[],Vi v37),(38,[],Vp t_)] K_ K_ ?_
       obtain⟨hp_37,h⟩:=h
       refine zPb [(0,[],Vp t_),(3,[],pv_ b_),(6,[],Vi n_),(8,[],pv_ b_1),(30,[],sv_ v30),(31,[],Vi ((v30.len:Nat):Int)),(32,[],Vi t32),(37,[],Vi v37),(38,[],Vp (some ⟨(pblk t_),(poff t_),none⟩))] (congrArg (fun pp=>([(0,[],Vp t_),(3,[],pv_ b_),(6,[],Vi n_),(8,[],pv_ b_1),(30,[],sv_ v30),(31,[],Vi ((v30.len:Nat):Int)),(32,[],Vi t32),(37,[],Vi v37),(38,[],Vp pp)]:GEnv)) hp_37) ?_
       refine zp [.plain] 4 [(0,[],Vp t_),(3,[],pv_ b_),(6,[],Vi n_),(8,[],pv_ b_1),(30,[],sv_ v30),(31,[],Vi ((v30.len:Nat):Int)),(32,[],Vi t32),(37,[],Vi v37),(38,[],Vp (some ⟨(pblk t_),(poff t_),none⟩)),(39,[],Vp (some ⟨(pblk t_),(poff t_),none⟩))] K_ K_ ?_
       refine zp [.plain] 5 [(0,[],Vp t_),(3,[],pv_ b_),(6,[],Vi n_),(8,[],pv_ b_1),(30,[],sv_ v30),(31,[],Vi ((v30.len:Nat):Int)),(32,[],Vi t32),(37,[],Vi v37),(40,[],Vp (some ⟨(pblk t_),(poff t_),none⟩))] K_ K_ ?_
       obtain⟨v41,hc,h⟩:=h
       refine zU (i:=5) K_ (t:=184) (a:=(Operand.tmp 40)) (b:=(pblk t_)) (o:=(poff t_)) (ty:=184) (dst:=some 41) K_ K_ K_ hc ?_
       refine zp [.plain] 7 [(0,[],Vp t_),(3,[],pv_ b_),(6,[],Vi n_),(30,[],sv_ v30),(31,[],Vi ((v30.len:Nat):Int)),(32,[],Vi t32),(37,[],Vi v37),(41,[],Value.map v41),(42,[],pv_ b_1)] K_ K_ ?_
       obtain⟨v43,hc,h⟩:=h
       refine zU (i:=7) K_ (t:=9) (a:=(Operand.tmp 42)) (b:=b_1) (o:=0) (ty:=9) (dst:=some 43) K_ K_ K_ hc ?_
       refine zp [] 8 [(0,[],Vp t_),(3,[],pv_ b_),(6,[],Vi n_),(30,[],sv_ v30),(31,[],Vi ((v30.len:Nat):Int)),(32,[],Vi t32),(37,[],Vi v37),(41,[],Value.map v41),(43,[],Value.string v43)] K_ K_ ?_
       obtain⟨es,v44,ok,hm_,hi_,hn_,hk_,hl_,h⟩:=h
       refine zMc (i:=8) K_ (t:=184) (kt:=9) (et:=3) (x:=(Operand.tmp 41)) (k:=(Operand.tmp 43)) (m:=v41) (es:=es) (kv:=(Value.string v43)) (z:=(Vi 0)) (u:=(Vi v44)) (b:=ok) (ty:=3) (dst:=some 44) (keyS K_) K_ K_ K_ K_ (fun w_=>by kernel_rfl) hm_ hi_ hn_ hk_ hl_ ?_
       refine zp [.plain] 10 [(0,[],Vp t_),(3,[],pv_ b_),(6,[],Vi n_),(30,[],sv_ v30),(31,[],Vi ((v30.len:Nat):Int)),(32,[],Vi t32),(45,[],Value.agg #[Vi v37,Vi v44])] K_ K_ ?_
       refine z7 (op:=(Op.alloc 178)) (ty:=0) (dst:=some 9) 10 [] [(8,fun w'=>zHb w' v41 es),(7,fun w'=>w'.cell? ⟨b_1,0,none⟩=some (Value.string v43)),(5,fun w'=>w'.cell? ⟨(pblk t_),(poff t_),none⟩=some (Value.map v41)),(1,fun w'=>w'.cell? ⟨b_,0,none⟩=some (Vi v37))] (fun bb=>pv_ bb) (Obj.cells ([Vi 0,Vi 0]).toArray y_p (0,0)) K_ K_ K_ K_ K_ K_ (fun b_2 w10 hb hw=> ?_)
       replace h:=h b_2 w10 hb hw
       clear hb hw
       obtain⟨hk0,hk1,hk2,hk3,h⟩:=h
       refine⟨⟨hk0,hk1,hk2,hk3,trivial⟩,?_⟩
       refine zp [] 11 [(0,[],Vp t_),(3,[],pv_ b_),(6,[],Vi n_),(9,[],pv_ b_2),(30,[],sv_ v30),(31,[],Vi ((v30.len:Nat):Int)),(32,[],Vi t32),(45,[],Value.agg #[Vi v37,Vi v44])] K_ K_ ?_
       obtain⟨hc,h⟩:=h
       refine z8d (t:=178) (a:=(Operand.tmp 9)) (x:=(Operand.tmp 45)) (b:=b_2) (o:=0) (k:=2) (ty:=0) (dst:=none) 11 [0,1,2,3,4,5,6,7,8,9,10] [] [Vi v37,Vi v44] K_ K_ K_ K_ K_ K_ K_ K_ K_ K_ hc (fun w11 hw=> ?_)
       replace h:=h w11 hw
       clear hw
       refine⟨trivial,?_⟩
       refine zdd [(0,Vp t_),(3,pv_ b_),(6,Vi n_),(9,pv_ b_2),(30,sv_ v30),(31,Vi ((v30.len:Nat):Int)),(32,Vi t32)] K_ K_ K_ ?_
       change WpE _ _ zyg _ _ _
       refine zf (x:=z9k) (y:=zzg) K_ ?_
       refine zv (id:=12) (ops:=zSp) K_ K_ K_ ?_
       refine zh [.plain] 1 [(0,[],Vp t_),(3,[],pv_ b_),(6,[],Vi n_),(9,[],pv_ b_2),(30,[],sv_ v30),(31,[],Vi ((v30.len:Nat):Int)),(32,[],Vi t32),(47,[],Vp t_)] K_ K_ ?_
       obtain⟨hp_39,h⟩:=h
       refine zX [(0,[],Vp t_),(3,[],pv_ b_),(6,[],Vi n_),(9,[],pv_ b_2),(30,[],sv_ v30),(31,[],Vi ((v30.len:Nat):Int)),(32,[],Vi t32),(47,[],Vp (some ⟨(pblk t_),(poff t_),none⟩))] (congrArg (fun pp=>([(0,[],Vp t_),(3,[],pv_ b_),(6,[],Vi n_),(9,[],pv_ b_2),(30,[],sv_ v30),(31,[],Vi ((v30.len:Nat):Int)),(32,[],Vi t32),(47,[],Vp pp)]:GEnv)) hp_39) ?_
       refine zh [.plain] 2 [(0,[],Vp t_),(3,[],pv_ b_),(6,[],Vi n_),(9,[],pv_ b_2),(30,[],sv_ v30),(31,[],Vi ((v30.len:Nat):Int)),(32,[],Vi t32),(47,[],Vp (some ⟨(pblk t_),(poff t_),none⟩)),(48,[],Vp (some ⟨(pblk t_),(poff t_),none⟩))] K_ K_ ?_
       refine zh [.plain] 3 [(0,[],Vp t_),(3,[],pv_ b_),(6,[],Vi n_),(9,[],pv_ b_2),(30,[],sv_ v30),(31,[],Vi ((v30.len:Nat):Int)),(32,[],Vi t32),(49,[],Vp (some ⟨(pblk t_),(poff t_)+1,none⟩))] K_ K_ ?_
       obtain⟨v50,hc,h⟩:=h
       refine zx (t:=185) (a:=(Operand.tmp 49)) (b:=(pblk t_)) (o:=((poff t_)+1)) (ty:=185) (dst:=some 50) K_ K_ K_ hc ?_
       refine zh [] 4 [(0,[],Vp t_),(3,[],pv_ b_),(6,[],Vi n_),(9,[],pv_ b_2),(30,[],sv_ v30),(31,[],Vi ((v30.len:Nat):Int)),(32,[],Vi t32),(50,[],Value.map v50)] K_ K_ ?_
       obtain⟨h0,h1,h⟩:=h
       refine zeb (t:=178) (e:=3) (x:=(Operand.tmp 9)) (ix:=(Operand.const (Value.int IntKind.i64 1))) (b:=b_2) (o:=0) (len:=2) (k:= .i64) (j:=1) (ty:=0) (dst:=some 51) K_ K_ K_ K_ K_ h0 h1 ?_
       refine zh [] 5 [(0,[],Vp t_),(3,[],pv_ b_),(6,[],Vi n_),(9,[],pv_ b_2),(30,[],sv_ v30),(31,[],Vi ((v30.len:Nat):Int)),(32,[],Vi t32),(50,[],Value.map v50),(51,[],Vp (some ⟨b_2,1,none⟩))] K_ K_ ?_
       obtain⟨v52,hc,h⟩:=h
       refine zx (t:=3) (a:=(Operand.tmp 51)) (b:=b_2) (o:=1) (ty:=3) (dst:=some 52) K_ K_ K_ hc ?_
       refine zh [] 6 [(0,[],Vp t_),(3,[],pv_ b_),(6,[],Vi n_),(9,[],pv_ b_2),(30,[],sv_ v30),(31,[],Vi ((v30.len:Nat):Int)),(32,[],Vi t32),(50,[],Value.map v50),(52,[],Vi v52)] K_ K_ ?_
       obtain⟨es1,v53,ok1,hm_,hi_,hn_,hk_,hl_,h⟩:=h
       refine zlg (t:=185) (kt:=3) (et:=3) (x:=(Operand.tmp 50)) (k:=(Operand.tmp 52)) (m:=v50) (es:=es1) (kv:=(Vi v52)) (z:=(Vi 0)) (u:=(Vi v53)) (b:=ok1) (ty:=210) (dst:=some 53) (keyI K_) K_ K_ K_ K_ (fun w_=>by kernel_rfl) hm_ hi_ hn_ hk_ hl_ ?_
       refine zh [.plain,.plain,.plain,.plain,.plain] 12 [(0,[],Vp t_),(3,[],pv_ b_),(6,[],Vi n_),(9,[],pv_ b_2),(11,[],Vo ok1),(30,[],sv_ v30),(31,[],Vi ((v30.len:Nat):Int)),(32,[],Vi t32)] K_ K_ ?_
       refine zad [(0,Vp t_),(3,pv_ b_),(6,Vi n_),(9,pv_ b_2),(11,Vo ok1),(30,sv_ v30),(31,Vi ((v30.len:Nat):Int)),(32,Vi t32)] K_ K_ (fun w12 hw=> ?_)
       replace h:=h w12 hw
       clear hw
       change WpE _ _ zzg _ _ _
       refine zmb (x:=zal) (y:=zri) K_ (fun l w=>∃(t65:Bool),l=[(0,Vp t_),(3,pv_ b_),(6,Vi n_),(9,pv_ b_2),(30,sv_ v30),(31,Vi ((v30.len:Nat):Int)),(32,Vi t32),(65,Vo t65)]∧F_Q t_ n_ t32 again_ b_2 t65 w) ?_ ?_
       ·refine zv (id:=13) (ops:=zTp) K_ K_ K_ ?_
        refine zh [.plain,.plain,.plain] 3 [(0,[],Vp t_),(3,[],pv_ b_),(6,[],Vi n_),(9,[],pv_ b_2),(30,[],sv_ v30),(31,[],Vi ((v30.len:Nat):Int)),(32,[],Vi t32),(57,[],Vo ok1),(58,[(57,true)],Vp t_)] K_ K_ ?_
        refine zIf 57 ok1 K_ (fun hb=> ?_) (fun hb=> ?_)
        ·replace h:=h.1 hb
         refine zh [] 3 [(0,[],Vp t_),(3,[],pv_ b_),(6,[],Vi n_),(9,[],pv_ b_2),(30,[],sv_ v30),(31,[],Vi ((v30.len:Nat):Int)),(32,[],Vi t32),(57,[],Vo true),(58,[],Vp t_)] K_ K_ ?_
         refine zh [] 3 [(0,[],Vp t_),(3,[],pv_ b_),(6,[],Vi n_),(9,[],pv_ b_2),(30,[],sv_ v30),(31,[],Vi ((v30.len:Nat):Int)),(32,[],Vi t32),(57,[],Vo true),(58,[],Vp t_)] K_ K_ ?_
         obtain⟨hp_43,h⟩:=h
         refine zX [(0,[],Vp t_),(3,[],pv_ b_),(6,[],Vi n_),(9,[],pv_ b_2),(30,[],sv_ v30),(31,[],Vi ((v30.len:Nat):Int)),(32,[],Vi t32),(57,[],Vo true),(58,[],Vp (some ⟨(pblk t_),(poff t_),none⟩))] (congrArg (fun pp=>([(0,[],Vp t_),(3,[],pv_ b_),(6,[],Vi n_),(9,[],pv_ b_2),(30,[],sv_ v30),(31,[],Vi ((v30.len:Nat):Int)),(32,[],Vi t32),(57,[],Vo true),(58,[],Vp pp)]:GEnv)) hp_43) ?_
         refine zh [.sure] 4 [(0,[],Vp t_),(3,[],pv_ b_),(6,[],Vi n_),(9,[],pv_ b_2),(30,[],sv_ v30),(31,[],Vi ((v30.len:Nat):Int)),(32,[],Vi t32),(57,[],Vo true),(58,[],Vp (some ⟨(pblk t_),(poff t_),none⟩)),(59,[],Vp (some ⟨(pblk t_),(poff t_),none⟩))] K_ K_ ?_
         refine zh [.sure] 5 [(0,[],Vp t_),(3,[],pv_ b_),(6,[],Vi n_),(9,[],pv_ b_2),(30,[],sv_ v30),(31,[],Vi ((v30.len:Nat):Int)),(32,[],Vi t32),(57,[],Vo true),(60,[],Vp (some ⟨(pblk t_),(poff t_)+2,none⟩))] K_ K_ ?_
         obtain⟨v61,hc,h⟩:=h
         refine zx (t:=186) (a:=(Operand.tmp 60)) (b:=(pblk t_)) (o:=((poff t_)+2)) (ty:=186) (dst:=some 61) K_ K_ K_ hc ?_
         refine zh [] 6 [(0,[],Vp t_),(3,[],pv_ b_),(6,[],Vi n_),(9,[],pv_ b_2),(30,[],sv_ v30),(31,[],Vi ((v30.len:Nat):Int)),(32,[],Vi t32),(57,[],Vo true),(61,[],Value.map v61)] K_ K_ ?_
         obtain⟨v62,hc,h⟩:=h
         refine zcd (t:=178) (a:=(Operand.tmp 9)) (b:=b_2) (o:=0) (ty:=178) (dst:=some 62) [Vi v62.e0,Vi v62.e1] K_ K_ K_ (k:=2) K_ K_ hc ?_
         refine zh [] 7 [(0,[],Vp t_),(3,[],pv_ b_),(6,[],Vi n_),(9,[],pv_ b_2),(30,[],sv_ v30),(31,[],Vi ((v30.len:Nat):Int)),(32,[],Vi t32),(57,[],Vo true),(61,[],Value.map v61),(62,[],Value.agg #[Vi v62.e0,Vi v62.e1])] K_ K_ ?_
         obtain⟨es4,v63,ok2,hm_,hi_,hn_,hk_,hl_,h⟩:=h
         refine zLc (t:=186) (kt:=178) (et:=4) (x:=(Operand.tmp 61)) (k:=(Operand.tmp 62)) (m:=v61) (es:=es4) (kv:=(Value.agg #[Vi v62.e0,Vi v62.e1])) (z:=(Vo false)) (u:=(Vo v63)) (b:=ok2) (ty:=4) (dst:=some 63) zqg K_ K_ K_ K_ (fun w_=>by kernel_rfl) hm_ hi_ hn_ hk_ hl_ ?_
         refine zh [.sure,.plain] 10 [(0,[],Vp t_),(3,[],pv_ b_),(6,[],Vi n_),(9,[],pv_ b_2),(30,[],sv_ v30),(31,[],Vi ((v30.len:Nat):Int)),(32,[],Vi t32),(65,[],Vo (!v63))] K_ K_ ?_
         refine zad [(0,Vp t_),(3,pv_ b_),(6,Vi n_),(9,pv_ b_2),(30,sv_ v30),(31,Vi ((v30.len:Nat):Int)),(32,Vi t32),(65,Vo (!v63))] K_ K_ (fun w16 hw=> ?_)
         replace h:=h w16 hw
         clear hw
         exact⟨[(0,Vp t_),(3,pv_ b_),(6,Vi n_),(9,pv_ b_2),(30,sv_ v30),(31,Vi ((v30.len:Nat):Int)),(32,Vi t32),(65,Vo (!v63))],Sub.mk K_,(!v63),rfl,h⟩
        ·replace h:=h.2 hb
         refine zh [] 3 [(0,[],Vp t_),(3,[],pv_ b_),(6,[],Vi n_),(9,[],pv_ b_2),(30,[],sv_ v30),(31,[],Vi ((v30.len:Nat):Int)),(32,[],Vi t32),(57,[],Vo false),(58,[],undef)] K_ K_ ?_
         refine zh [.skip,.skip,.skip,.skip,.skip,.skip,.plain] 10 [(0,[],Vp t_),(3,[],pv_ b_),(6,[],Vi n_),(9,[],pv_ b_2),(30,[],sv_ v30),(31,[],Vi ((v30.len:Nat):Int)),(32,[],Vi t32),(65,[],Vo false)] K_ K_ ?_
         refine zad [(0,Vp t_),(3,pv_ b_),(6,Vi n_),(9,pv_ b_2),(30,sv_ v30),(31,Vi ((v30.len:Nat):Int)),(32,Vi t32),(65,Vo false)] K_ K_ (fun w17 hw=> ?_)
         replace h:=h w17 hw
         clear hw
         exact⟨[(0,Vp t_),(3,pv_ b_),(6,Vi n_),(9,pv_ b_2),(30,sv_ v30),(31,Vi ((v30.len:Nat):Int)),(32,Vi t32),(65,Vo false)],Sub.mk K_,false,rfl,h⟩
       ·rintro _ w13 ⟨t65,rfl,h⟩
        unfold F_Q at h
        refine zG (o:=(Operand.tmp 65)) (b:=t65) (x:=zsi) (y:=zWp) K_ K_ (fun hb=> ?_) (fun hb=> ?_)
        ·replace h:=h.1 hb
         refine zf (x:=zbl) (y:=zti) K_ ?_
         refine zn (id:=14) (ops:=zUp) K_ 5 K_ K_ (fun w14 hw=> ?_)
         replace h:=h w14 hw
         clear hw
         refine zh [.plain] 1 [(0,[],Vp t_),(3,[],pv_ b_),(6,[],Vi n_),(9,[],pv_ b_2),(30,[],sv_ v30),(31,[],Vi ((v30.len:Nat):Int)),(32,[],Vi t32),(66,[],Vp t_)] K_ K_ ?_
         obtain⟨hp_42,h⟩:=h
         refine zX [(0,[],Vp t_),(3,[],pv_ b_),(6,[],Vi n_),(9,[],pv_ b_2),(30,[],sv_ v30),(31,[],Vi ((v30.len:Nat):Int)),(32,[],Vi t32),(66,[],Vp (some ⟨(pblk t_),(poff t_),none⟩))] (congrArg (fun pp=>([(0,[],Vp t_),(3,[],pv_ b_),(6,[],Vi n_),(9,[],pv_ b_2),(30,[],sv_ v30),(31,[],Vi ((v30.len:Nat):Int)),(32,[],Vi t32),(66,[],Vp pp)]:GEnv)) hp_42) ?_
         refine zh [.plain] 2 [(0,[],Vp t_),(3,[],pv_ b_),(6,[],Vi n_),(9,[],pv_ b_2),(30,[],sv_ v30),(31,[],Vi ((v30.len:Nat):Int)),(32,[],Vi t32),(66,[],Vp (some ⟨(pblk t_),(poff t_),none⟩)),(67,[],Vp (some ⟨(pblk t_),(poff t_),none⟩))] K_ K_ ?_
         refine zh [.plain] 3 [(0,[],Vp t_),(3,[],pv_ b_),(6,[],Vi n_),(9,[],pv_ b_2),(30,[],sv_ v30),(31,[],Vi ((v30.len:Nat):Int)),(32,[],Vi t32),(68,[],Vp (some ⟨(pblk t_),(poff t_)+2,none⟩))] K_ K_ ?_
         obtain⟨v69,hc,h⟩:=h
         refine zx (t:=186) (a:=(Operand.tmp 68)) (b:=(pblk t_)) (o:=((poff t_)+2)) (ty:=186) (dst:=some 69) K_ K_ K_ hc ?_
         refine zh [] 4 [(0,[],Vp t_),(3,[],pv_ b_),(6,[],Vi n_),(9,[],pv_ b_2),(30,[],sv_ v30),(31,[],Vi ((v30.len:Nat):Int)),(32,[],Vi t32),(69,[],Value.map v69)] K_ K_ ?_
         obtain⟨v70,hc,h⟩:=h
         refine zcd (t:=178) (a:=(Operand.tmp 9)) (b:=b_2) (o:=0) (ty:=178) (dst:=some 70) [Vi v70.e0,Vi v70.e1] K_ K_ K_ (k:=2) K_ K_ hc ?_
         refine zh [] 5 [(0,[],Vp t_),(3,[],pv_ b_),(6,[],Vi n_),(30,[],sv_ v30),(31,[],Vi ((v30.len:Nat):Int)),(32,[],Vi t32),(69,[],Value.map v69),(70,[],Value.agg #[Vi v70.e0,Vi v70.e1])] K_ K_ ?_
         refine zD K_ ?_
         refine zd [] 5 [(0,[],Vp t_),(3,[],pv_ b_),(6,[],Vi n_),(30,[],sv_ v30),(31,[],Vi ((v30.len:Nat):Int)),(32,[],Vi t32),(69,[],Value.map v69),(70,[],Value.agg #[Vi v70.e0,Vi v70.e1])] K_ K_ ?_
         obtain⟨r,es2,c,hr_,hm_,hi_,hn_,hk_,h⟩:=h
         refine zZ (t:=186) (kt:=178) (et:=4) (x:=(Operand.tmp 69)) (k:=(Operand.tmp 70)) (v:=(Operand.const (Vo true))) (m:=v69) (es:=es2) (kv:=(Value.agg #[Vi v70.e0,Vi v70.e1])) (vv:=(Vo true)) (ty:=0) (dst:=none) r c zqg K_ K_ hr_ K_ K_ K_ hm_ hi_ hn_ hk_ (fun es3 c1 w15 hs_ hw=> ?_)
         replace h:=h es3 c1 w15 hs_ hw
         clear hw hs_
         refine zj [(0,Vp t_),(3,pv_ b_),(6,Vi n_),(30,sv_ v30),(31,Vi ((v30.len:Nat):Int)),(32,Vi t32)] K_ K_ ?_
         change WpE _ _ zti _ _ _
         refine ze (id:=15) (ops:=zVp) K_ ?_
         refine zd [.plain,.plain,.plain] 3 [(0,[],Vp t_),(3,[],pv_ b_),(6,[],Vi (IntKind.i64.wrap (n_+1))),(30,[],sv_ v30),(31,[],Vi ((v30.len:Nat):Int)),(32,[],Vi t32)] K_ K_ ?_
         refine zj [(0,Vp t_),(3,pv_ b_),(6,Vi (IntKind.i64.wrap (n_+1))),(30,sv_ v30),(31,Vi ((v30.len:Nat):Int)),(32,Vi t32)] K_ K_ ?_
         exact⟨[(0,Vp t_),(3,pv_ b_),(6,Vi (IntKind.i64.wrap (n_+1))),(30,sv_ v30),(31,Vi ((v30.len:Nat):Int)),(32,Vi t32)],Sub.mk K_,(IntKind.i64.wrap (n_+1)),rfl,h⟩
        ·replace h:=h.2 hb
         refine zS K_ ?_
         exact⟨[(0,Vp t_),(3,pv_ b_),(6,Vi n_),(30,sv_ v30),(31,Vi ((v30.len:Nat):Int)),(32,Vi t32)],Sub.mk K_,n_,rfl,h⟩
      ·rintro _ w6 ⟨n_1,rfl,h⟩
       unfold F_D at h
       refine ze (id:=16) (ops:=zXp) K_ ?_
       refine zd [.plain,.plain] 2 [(0,[],Vp t_),(3,[],pv_ b_),(6,[],Vi n_1),(30,[],sv_ v30),(31,[],Vi ((v30.len:Nat):Int)),(32,[],Vi (IntKind.i64.wrap (t32+1)))] K_ K_ ?_
       refine zj [(0,Vp t_),(3,pv_ b_),(6,Vi n_1),(30,sv_ v30),(31,Vi ((v30.len:Nat):Int)),(32,Vi (IntKind.i64.wrap (t32+1)))] K_ K_ ?_
       have hb_:=again__h _ _ _ h
       exact⟨_,hb_.2,[(0,Vp t_),(3,pv_ b_),(6,Vi n_1),(30,sv_ v30),(31,Vi ((v30.len:Nat):Int)),(32,Vi (IntKind.i64.wrap (t32+1)))],Sub.mk K_,n_1,(IntKind.i64.wrap (t32+1)),rfl,hb_.1,rfl⟩
     ·replace h:=h.2 hb
      refine z7b (id:=1) K_ ?_
      change WpE _ _ zAg _ _ _
      refine zf (x:=zui) (y:=zDg) K_ ?_
      refine zf (x:=zdl) (y:=zvi) K_ ?_
      refine ze (id:=17) (ops:=zYp) K_ ?_
      refine zd [.plain] 1 [(0,[],Vp t_),(3,[],pv_ b_),(6,[],Vi n_),(74,[],Vp (some ⟨b_,1,none⟩))] K_ K_ ?_
      obtain⟨v75,hc,h⟩:=h
      refine zB (t:=70) (a:=(Operand.tmp 74)) (b:=b_) (o:=1) (ty:=70) (dst:=some 75) K_ K_ K_ hc ?_
      refine zd [.plain,.plain] 4 [(0,[],Vp t_),(3,[],pv_ b_),(6,[],Vi n_),(75,[],sv_ v75),(76,[],Vi ((v75.len:Nat):Int)),(77,[],Vi 0)] K_ K_ ?_
      refine zj [(0,Vp t_),(3,pv_ b_),(6,Vi n_),(75,sv_ v75),(76,Vi ((v75.len:Nat):Int)),(77,Vi 0)] K_ K_ ?_
      change WpE _ _ zvi _ _ _
      refine zQ (id:=3) (x:=zel) K_ ?_
      obtain⟨I,μ,h0,hr⟩:=h
      refine zDc (x:=zwi) K_ (fun m l w=>∃(t77:Int),l=[(0,Vp t_),(3,pv_ b_),(6,Vi n_),(75,sv_ v75),(76,Vi ((v75.len:Nat):Int)),(77,Vi t77)]∧I t77 w∧μ t77 w=m) (l':=[(0,Vp t_),(3,pv_ b_),(6,Vi n_),(75,sv_ v75),(76,Vi ((v75.len:Nat):Int)),(77,Vi 0)]) (Sub.mk K_) ⟨0,rfl,h0,rfl⟩ ?_
      rintro _ _ w18 ⟨t77,rfl,hI,rfl⟩
      obtain⟨again_1,again_1_h,h⟩:∃ again_1:Int→WP,(∀ t77' w',again_1 t77' w'→I t77' w'∧μ t77' w'<μ t77 w18)∧F_Bb t_ R b_ n_ v75 again_1 t77 w18:=⟨_,fun _ _ h=>h,hr t77 w18 hI⟩
      clear h0 hI
      unfold F_Bb at h
      refine zf (x:=zfl) (y:=zBg) K_ ?_
      refine ze (id:=18) (ops:=zZp) K_ ?_
      refine zd [.plain] 1 [(0,[],Vp t_),(3,[],pv_ b_),(6,[],Vi n_),(75,[],sv_ v75),(76,[],Vi ((v75.len:Nat):Int)),(77,[],Vi t77),(78,[],Vo (decide (t77<((v75.len:Nat):Int))))] K_ K_ ?_
      refine zj [(0,Vp t_),(3,pv_ b_),(6,Vi n_),(75,sv_ v75),(76,Vi ((v75.len:Nat):Int)),(77,Vi t77),(78,Vo (decide (t77<((v75.len:Nat):Int))))] K_ K_ ?_
      change WpE _ _ zBg _ _ _
      refine zf (x:=zxi) (y:=zCg) K_ ?_
      refine zG (o:=(Operand.tmp 78)) (b:=(decide (t77<((v75.len:Nat):Int)))) (x:=z0p) (y:=z1p) K_ K_ (fun hb=> ?_) (fun hb=> ?_)
      ·replace h:=h.1 hb
       refine zS K_ ?_
       change WpE _ _ zCg _ _ _
       refine zf (x:=zgl) (y:=zAi) K_ ?_
       refine zQ (id:=4) (x:=zyi) K_ ?_
       refine zf (x:=zhl) (y:=zzi) K_ ?_
       refine ze (id:=19) (ops:=z2p) K_ ?_
       refine zd [] 0 [(0,[],Vp t_),(3,[],pv_ b_),(6,[],Vi n_),(75,[],sv_ v75),(76,[],Vi ((v75.len:Nat):Int)),(77,[],Vi t77)] K_ K_ ?_
       obtain⟨hp_54,h⟩:=h
       refine zH [(0,[],Vp t_),(3,[],pv_ b_),(6,[],Vi n_),(75,[],Value.slice (some ⟨(pblk v75.ptr),(poff v75.ptr),none⟩) v75.len v75.cap),(76,[],Vi ((v75.len:Nat):Int)),(77,[],Vi t77)] (congrArg (fun pp=>([(0,[],Vp t_),(3,[],pv_ b_),(6,[],Vi n_),(75,[],Value.slice pp v75.len v75.cap),(76,[],Vi ((v75.len:Nat):Int)),(77,[],Vi t77)]:GEnv)) hp_54) ?_
       obtain⟨h0,h1,h⟩:=h
       refine zrc (t:=70) (e:=69) (x:=(Operand.tmp 75)) (ix:=(Operand.tmp 77)) (b:=(pblk v75.ptr)) (o:=(poff v75.ptr)) (l:=v75.len) (c:=v75.cap) (k:= .i64) (j:=t77) (ty:=0) (dst:=some 79) (sz:=3) K_ K_ K_ K_ K_ h0 h1 ?_
       refine zd [] 1 [(0,[],Vp t_),(3,[],pv_ b_),(6,[],Vi n_),(75,[],Value.slice (some ⟨(pblk v75.ptr),(poff v75.ptr),none⟩) v75.len v75.cap),(76,[],Vi ((v75.len:Nat):Int)),(77,[],Vi t77),(79,[],Vp (some ⟨(pblk v75.ptr),(poff v75.ptr)+t77.toNat*3,none⟩))] K_ K_ ?_
       obtain⟨v80,hc,h⟩:=h
       refine zqc (t:=69) (a:=(Operand.tmp 79)) (b:=(pblk v75.ptr)) (o:=((poff v75.ptr)+t77.toNat*3)) (ty:=69) (dst:=some 80) [Value.string v80.Key,Value.string v80.Val,Vo v80.Drop] K_ K_ K_ (k:=3) K_ K_ hc ?_
       refine zd [] 2 [(0,[],Vp t_),(3,[],pv_ b_),(6,[],Vi n_),(75,[],Value.slice (some ⟨(pblk v75.ptr),(poff v75.ptr),none⟩) v75.len v75.cap),(76,[],Vi ((v75.len:Nat):Int)),(77,[],Vi t77),(80,[],Value.agg #[Value.string v80.Key,Value.string v80.Val,Vo v80.Drop])] K_ K_ ?_
       refine zQb (op:=(Op.alloc 69)) (ty:=0) (dst:=some 13) (fun bb=>pv_ bb) (Obj.cells ([Value.string ByteArray.empty,Value.string ByteArray.empty,Vo false]).toArray y_b (0,0)) K_ K_ (fun b_3 w19 hb hw=> ?_)
       replace h:=h b_3 w19 hb hw
       clear hb hw
       refine zd [] 3 [(0,[],Vp t_),(3,[],pv_ b_),(6,[],Vi n_),(13,[],pv_ b_3),(75,[],Value.slice (some ⟨(pblk v75.ptr),(poff v75.ptr),none⟩) v75.len v75.cap),(76,[],Vi ((v75.len:Nat):Int)),(77,[],Vi t77),(80,[],Value.agg #[Value.string v80.Key,Value.string v80.Val,Vo v80.Drop])] K_ K_ ?_
       obtain⟨hc,h⟩:=h
       refine zab (t:=69) (a:=(Operand.tmp 13)) (x:=(Operand.tmp 80)) (b:=b_3) (o:=0) (ty:=0) (dst:=none) [Value.string v80.Key,Value.string v80.Val,Vo v80.Drop] K_ K_ K_ (k:=3) K_ K_ K_ hc (fun w20 hw=> ?_)
       replace h:=h w20 hw
       clear hw
       refine zd [] 4 [(0,[],Vp t_),(3,[],pv_ b_),(6,[],Vi n_),(13,[],pv_ b_3),(75,[],Value.slice (some ⟨(pblk v75.ptr),(poff v75.ptr),none⟩) v75.len v75.cap),(76,[],Vi ((v75.len:Nat):Int)),(77,[],Vi t77)] K_ K_ ?_
       refine zH [(0,[],Vp t_),(3,[],pv_ b_),(6,[],Vi n_),(13,[],pv_ b_3),(75,[],sv_ v75),(76,[],Vi ((v75.len:Nat):Int)),(77,[],Vi t77)] (congrArg (fun pp=>([(0,[],Vp t_),(3,[],pv_ b_),(6,[],Vi n_),(13,[],pv_ b_3),(75,[],Value.slice pp v75.len v75.cap),(76,[],Vi ((v75.len:Nat):Int)),(77,[],Vi t77)]:GEnv)) hp_54.symm) ?_
       refine zj [(0,Vp t_),(3,pv_ b_),(6,Vi n_),(13,pv_ b_3),(75,sv_ v75),(76,Vi ((v75.len:Nat):Int)),(77,Vi t77)] K_ K_ ?_
       change WpE _ _ zzi _ _ _
       refine zn (id:=20) (ops:=z3p) K_ 8 K_ K_ (fun w21 hw=> ?_)
       replace h:=h w21 hw
       clear hw
       refine zh [.plain] 1 [(0,[],Vp t_),(3,[],pv_ b_),(6,[],Vi n_),(13,[],pv_ b_3),(75,[],sv_ v75),(76,[],Vi ((v75.len:Nat):Int)),(77,[],Vi t77),(81,[],Vp t_)] K_ K_ ?_
       obtain⟨hp_55,h⟩:=h
       refine zX [(0,[],Vp t_),(3,[],pv_ b_),(6,[],Vi n_),(13,[],pv_ b_3),(75,[],sv_ v75),(76,[],Vi ((v75.len:Nat):Int)),(77,[],Vi t77),(81,[],Vp (some ⟨(pblk t_),(poff t_),none⟩))] (congrArg (fun pp=>([(0,[],Vp t_),(3,[],pv_ b_),(6,[],Vi n_),(13,[],pv_ b_3),(75,[],sv_ v75),(76,[],Vi ((v75.len:Nat):Int)),(77,[],Vi t77),(81,[],Vp pp)]:GEnv)) hp_55) ?_
       refine zh [.plain] 2 [(0,[],Vp t_),(3,[],pv_ b_),(6,[],Vi n_),(13,[],pv_ b_3),(75,[],sv_ v75),(76,[],Vi ((v75.len:Nat):Int)),(77,[],Vi t77),(81,[],Vp (some ⟨(pblk t_),(poff t_),none⟩)),(82,[],Vp (some ⟨(pblk t_),(poff t_),none⟩))] K_ K_ ?_
       refine zh [.plain] 3 [(0,[],Vp t_),(3,[],pv_ b_),(6,[],Vi n_),(13,[],pv_ b_3),(75,[],sv_ v75),(76,[],Vi ((v75.len:Nat):Int)),(77,[],Vi t77),(83,[],Vp (some ⟨(pblk t_),(poff t_),none⟩))] K_ K_ ?_
       obtain⟨v84,hc,h⟩:=h
       refine zx (t:=184) (a:=(Operand.tmp 83)) (b:=(pblk t_)) (o:=(poff t_)) (ty:=184) (dst:=some 84) K_ K_ K_ hc ?_
       refine zh [.plain] 5 [(0,[],Vp t_),(3,[],pv_ b_),(6,[],Vi n_),(75,[],sv_ v75),(76,[],Vi ((v75.len:Nat):Int)),(77,[],Vi t77),(84,[],Value.map v84),(85,[],pv_ b_3)] K_ K_ ?_
       obtain⟨v86,hc,h⟩:=h
       refine zx (t:=9) (a:=(Operand.tmp 85)) (b:=b_3) (o:=0) (ty:=9) (dst:=some 86) K_ K_ K_ hc ?_
       refine zh [.plain] 7 [(0,[],Vp t_),(3,[],pv_ b_),(6,[],Vi n_),(75,[],sv_ v75),(76,[],Vi ((v75.len:Nat):Int)),(77,[],Vi t77),(84,[],Value.map v84),(86,[],Value.string v86),(87,[],pv_ b_)] K_ K_ ?_
       obtain⟨v88,hc,h⟩:=h
       refine zx (t:=3) (a:=(Operand.tmp 87)) (b:=b_) (o:=0) (ty:=3) (dst:=some 88) K_ K_ K_ hc ?_
       refine zh [] 8 [(0,[],Vp t_),(3,[],pv_ b_),(6,[],Vi n_),(75,[],sv_ v75),(76,[],Vi ((v75.len:Nat):Int)),(77,[],Vi t77),(84,[],Value.map v84),(86,[],Value.string v86),(88,[],Vi v88)] K_ K_ ?_
       refine zD K_ ?_
       refine zd [] 8 [(0,[],Vp t_),(3,[],pv_ b_),(6,[],Vi n_),(75,[],sv_ v75),(76,[],Vi ((v75.len:Nat):Int)),(77,[],Vi t77),(84,[],Value.map v84),(86,[],Value.string v86),(88,[],Vi v88)] K_ K_ ?_
       obtain⟨r1,es5,c2,hr_,hm_,hi_,hn_,hk_,h⟩:=h
       refine zZ (t:=184) (kt:=9) (et:=3) (x:=(Operand.tmp 84)) (k:=(Operand.tmp 86)) (v:=(Operand.tmp 88)) (m:=v84) (es:=es5) (kv:=(Value.string v86)) (vv:=(Vi v88)) (ty:=0) (dst:=none) r1 c2 (keyS K_) K_ K_ hr_ K_ K_ K_ hm_ hi_ hn_ hk_ (fun es6 c3 w22 hs_ hw=> ?_)
       replace h:=h es6 c3 w22 hs_ hw
       clear hw hs_
       refine zj [(0,Vp t_),(3,pv_ b_),(6,Vi n_),(75,sv_ v75),(76,Vi ((v75.len:Nat):Int)),(77,Vi t77)] K_ K_ ?_
       change WpE _ _ zAi _ _ _
       refine ze (id:=21) (ops:=z4p) K_ ?_
       refine zd [.plain,.plain] 2 [(0,[],Vp t_),(3,[],pv_ b_),(6,[],Vi n_),(75,[],sv_ v75),(76,[],Vi ((v75.len:Nat):Int)),(77,[],Vi (IntKind.i64.wrap (t77+1)))] K_ K_ ?_
       refine zj [(0,Vp t_),(3,pv_ b_),(6,Vi n_),(75,sv_ v75),(76,Vi ((v75.len:Nat):Int)),(77,Vi (IntKind.i64.wrap (t77+1)))] K_ K_ ?_
       have hb_:=again_1_h _ _ h
       exact⟨_,hb_.2,[(0,Vp t_),(3,pv_ b_),(6,Vi n_),(75,sv_ v75),(76,Vi ((v75.len:Nat):Int)),(77,Vi (IntKind.i64.wrap (t77+1)))],Sub.mk K_,(IntKind.i64.wrap (t77+1)),rfl,hb_.1,rfl⟩
      ·replace h:=h.2 hb
       refine z7b (id:=3) K_ ?_
       change WpE _ _ zDg _ _ _
       refine zf (x:=zil) (y:=zEg) K_ ?_
       refine zn (id:=22) (ops:=z5p) K_ 7 K_ K_ (fun w23 hw=> ?_)
       replace h:=h w23 hw
       clear hw
       refine zh [.plain] 1 [(0,[],Vp t_),(3,[],pv_ b_),(6,[],Vi n_),(90,[],Vp t_)] K_ K_ ?_
       obtain⟨hp_57,h⟩:=h
       refine zX [(0,[],Vp t_),(3,[],pv_ b_),(6,[],Vi n_),(90,[],Vp (some ⟨(pblk t_),(poff t_),none⟩))] (congrArg (fun pp=>([(0,[],Vp t_),(3,[],pv_ b_),(6,[],Vi n_),(90,[],Vp pp)]:GEnv)) hp_57) ?_
       refine zh [.plain] 2 [(0,[],Vp t_),(3,[],pv_ b_),(6,[],Vi n_),(90,[],Vp (some ⟨(pblk t_),(poff t_),none⟩)),(91,[],Vp (some ⟨(pblk t_),(poff t_),none⟩))] K_ K_ ?_
       refine zh [.plain] 3 [(0,[],Vp t_),(3,[],pv_ b_),(6,[],Vi n_),(92,[],Vp (some ⟨(pblk t_),(poff t_)+1,none⟩))] K_ K_ ?_
       obtain⟨v93,hc,h⟩:=h
       refine zx (t:=185) (a:=(Operand.tmp 92)) (b:=(pblk t_)) (o:=((poff t_)+1)) (ty:=185) (dst:=some 93) K_ K_ K_ hc ?_
       refine zh [.plain] 5 [(0,[],Vp t_),(3,[],pv_ b_),(6,[],Vi n_),(93,[],Value.map v93),(94,[],pv_ b_)] K_ K_ ?_
       obtain⟨v95,hc,h⟩:=h
       refine zx (t:=3) (a:=(Operand.tmp 94)) (b:=b_) (o:=0) (ty:=3) (dst:=some 95) K_ K_ K_ hc ?_
       refine zh [.plain] 7 [(0,[],Vp t_),(3,[],pv_ b_),(6,[],Vi n_),(93,[],Value.map v93),(95,[],Vi v95),(96,[],Vi n_)] K_ K_ ?_
       refine zD K_ ?_
       refine zd [] 7 [(0,[],Vp t_),(3,[],pv_ b_),(6,[],Vi n_),(93,[],Value.map v93),(95,[],Vi v95),(96,[],Vi n_)] K_ K_ ?_
       obtain⟨r2,es7,c4,hr_,hm_,hi_,hn_,hk_,h⟩:=h
       refine zZ (t:=185) (kt:=3) (et:=3) (x:=(Operand.tmp 93)) (k:=(Operand.tmp 95)) (v:=(Operand.tmp 96)) (m:=v93) (es:=es7) (kv:=(Vi v95)) (vv:=(Vi n_)) (ty:=0) (dst:=none) r2 c4 (keyI K_) K_ K_ hr_ K_ K_ K_ hm_ hi_ hn_ hk_ (fun es8 c5 w24 hs_ hw=> ?_)
       replace h:=h es8 c5 w24 hs_ hw
       clear hw hs_
       refine zj [(0,Vp t_),(3,pv_ b_),(6,Vi n_)] K_ K_ ?_
       change WpE _ _ zEg _ _ _
       refine zf (x:=zjl) (y:=zFg) K_ ?_
       refine ze (id:=23) (ops:=z6p) K_ ?_
       refine zd [.plain,.plain] 2 [(6,[],Vi n_),(97,[],Vp t_),(98,[],pv_ b_)] K_ K_ ?_
       obtain⟨v99,hc,h⟩:=h
       refine zB (t:=3) (a:=(Operand.tmp 98)) (b:=b_) (o:=0) (ty:=3) (dst:=some 99) K_ K_ K_ hc ?_
       refine zd [] 3 [(6,[],Vi n_),(97,[],Vp t_),(99,[],Vi v99)] K_ K_ ?_
       obtain⟨hp_59,h⟩:=h
       refine zH [(6,[],Vi n_),(97,[],Vp (some ⟨(pblk t_),(poff t_),none⟩)),(99,[],Vi v99)] (congrArg (fun pp=>([(6,[],Vi n_),(97,[],Vp pp),(99,[],Vi v99)]:GEnv)) hp_59) ?_
       refine zd [.plain] 4 [(6,[],Vi n_),(97,[],Vp (some ⟨(pblk t_),(poff t_),none⟩)),(99,[],Vi v99),(100,[],Vp (some ⟨(pblk t_),(poff t_),none⟩))] K_ K_ ?_
       refine zd [.plain] 5 [(6,[],Vi n_),(99,[],Vi v99),(101,[],Vp (some ⟨(pblk t_),(poff t_)+3,none⟩))] K_ K_ ?_
       obtain⟨hc,h⟩:=h
       refine zab (t:=3) (a:=(Operand.tmp 101)) (x:=(Operand.tmp 99)) (b:=(pblk t_)) (o:=((poff t_)+3)) (ty:=0) (dst:=none) [Vi v99] K_ K_ K_ (k:=1) K_ K_ K_ hc (fun w25 hw=> ?_)
       replace h:=h w25 hw
       clear hw
       refine zj [(6,Vi n_)] K_ K_ ?_
       change WpE _ _ zFg _ _ _
       refine zf (x:=zkl) (y:=zoj) K_ ?_
       refine ze (id:=24) (ops:=z7p) K_ ?_
       refine zd [.plain,.plain,.plain] 3 [(4,[],Vi n_),(5,[],Vi 0)] K_ K_ ?_
       refine zj [(4,Vi n_),(5,Vi 0)] K_ K_ ?_
       change WpE _ _ zoj _ _ _
       refine z2 K_ ?_
       repeat (first | refine zM ?_ | refine zA ?_ | refine zF ?_ | refine zN ?_)
       exact retT (rs:=[(ResultVar.tmp 4),(ResultVar.tmp 5)]) (vs:=[Vi n_,Vi 0]) K_ (⟨K_,⟨K_,trivial⟩⟩) K_ ⟨n_,0,rfl,h⟩
 ·rintro e w' ⟨v,rfl,r0,r1,rfl,h⟩; exact⟨r0,r1,rfl,h⟩

/-! ### (*towpath/deps.Table).Done (function 283) -/
def zll:=cb_ Tryz.f283
def zxn:=cl_ zll
def zut:=co_ zxn
def zpj:=cr_ zll
def zml:=cl_ zpj
def zyn:=cl_ zml
def zvt:=co_ zyn
def zqj:=cr_ zml
def znl:=cl_ zqj
def zzn:=cl_ znl
def zwt:=co_ zzn
def zol:=cr_ znl
def z8p:=cr_ zqj
def zGg:=cr_ zpj
def zpl:=cl_ zGg
def z9p:=co_ zpl
def zHg:=cr_ zGg
def zql:=cl_ zHg
def zBi:=cl_ zql
def zrl:=cl_ zBi
def zaq:=co_ zrl
def zIg:=cr_ zBi
def zCi:=cl_ zIg
def zsl:=cl_ zCi
def zbq:=co_ zsl
def ztl:=cr_ zCi
def zDi:=cr_ zIg
def zul:=cl_ zDi
def zcq:=co_ zul
def zJg:=cr_ zDi
def zEi:=cl_ zJg
def zvl:=cl_ zEi
def zdq:=co_ zvl
def zwl:=cr_ zEi
def zeq:=cr_ zJg
def zKg:=cr_ zHg
def zxl:=cl_ zKg
def zfq:=co_ zxl
def zLg:=cr_ zKg
def zyl:=cl_ zLg
def zgq:=co_ zyl
def zMg:=cr_ zLg
def zFi:=cl_ zMg
def zzl:=cl_ zFi
def zhq:=co_ zzl
def zGi:=cr_ zFi
def zAl:=cl_ zGi
def zHi:=cl_ zAl
def zBl:=cl_ zHi
def ziq:=co_ zBl
def zIi:=cr_ zHi
def zJi:=cl_ zIi
def zjq:=cl_ zJi
def zkq:=cr_ zJi
def zKi:=cr_ zIi
def zLi:=cl_ zKi
def zCl:=cl_ zLi
def zlq:=co_ zCl
def zNg:=cr_ zLi
def zMi:=cl_ zNg
def zDl:=cl_ zMi
def zmq:=co_ zDl
def zOg:=cr_ zMi
def znq:=cl_ zOg
def zoq:=cr_ zOg
def zPg:=cr_ zNg
def zEl:=cl_ zPg
def zpq:=co_ zEl
def zQg:=cr_ zPg
def zFl:=cl_ zQg
def zqq:=co_ zFl
def zRg:=cr_ zQg
def zGl:=cl_ zRg
def zrq:=co_ zGl
def zSg:=cr_ zRg
def zHl:=cl_ zSg
def zsq:=co_ zHl
def ztq:=cr_ zSg
def zTg:=cr_ zMg
def zIl:=cl_ zTg
def zuq:=co_ zIl
def zUg:=cr_ zTg
def zJl:=cl_ zUg
def zvq:=co_ zJl
def zKl:=cr_ zUg

theorem S_db {t_:OA} {number:Int} {w:World} {R:Slc→Int→WP} (h:F_Tc t_ number R w):C_1 t_ number w R:=by
 unfold F_Tc at h
 unfold C_1
 refine Calls.mono (z4 (args:=[Vp t_,Vi number]) (R:=fun v w'=>∃(r0:Slc) (r1:Int),v=Value.tuple #[sv_ r0,Vi r1]∧R r0 r1 w') Tryz.func283 (c:=zll) K_ 74 K_ K_ [(0,Vp t_),(1,Vi number)] K_ ?_) ?_
 ·refine zf (x:=zxn) (y:=zpj) K_ ?_
  refine ze (id:=0) (ops:=zut) K_ ?_
  refine zd [.plain,.plain] 2 [(0,[],Vp t_),(1,[],Vi number)] K_ K_ ?_
  refine zj [(0,Vp t_),(1,Vi number)] K_ K_ ?_
  change WpE _ _ zpj _ _ _
  refine zf (x:=zml) (y:=zGg) K_ ?_
  refine zf (x:=zyn) (y:=zqj) K_ ?_
  refine ze (id:=1) (ops:=zvt) K_ ?_
  refine zd [.plain] 1 [(0,[],Vp t_),(1,[],Vi number),(10,[],Vp t_)] K_ K_ ?_
  refine zW (op:=(Op.call (Call.mk (Callee.value (Operand.func 176)) #[(Operand.tmp 10)] #[76]))) (ty:=4) (dst:=some 11) 176 #[Vp t_] K_ (fun ww=>by kernel_rfl) (Calls.mono h ?_)
  rintro _ w1 ⟨v11,rfl,h⟩
  refine⟨_,rfl,?_⟩
  refine zj [(0,Vp t_),(1,Vi number),(11,Vo v11)] K_ K_ ?_
  change WpE _ _ zqj _ _ _
  refine zG (o:=(Operand.tmp 11)) (b:=v11) (x:=znl) (y:=z8p) K_ K_ (fun hb=> ?_) (fun hb=> ?_)
  ·replace h:=h.1 hb
   refine zf (x:=zzn) (y:=zol) K_ ?_
   refine ze (id:=2) (ops:=zwt) K_ ?_
   refine zd [.plain,.plain] 2 [(4,[],Value.slice none 0 0),(5,[],Vi 2)] K_ K_ ?_
   refine zj [(4,Value.slice none 0 0),(5,Vi 2)] K_ K_ ?_
   change WpE _ _ zol _ _ _
   refine z2 K_ ?_
   repeat (first | refine zM ?_ | refine zA ?_ | refine zF ?_ | refine zN ?_)
   exact retT (rs:=[(ResultVar.tmp 4),(ResultVar.tmp 5)]) (vs:=[Value.slice none 0 0,Vi 2]) K_ (⟨K_,⟨K_,trivial⟩⟩) K_ ⟨(Slc.mk none 0 0),2,rfl,h⟩
  ·replace h:=h.2 hb
   refine zS K_ ?_
   change WpE _ _ zGg _ _ _
   refine zf (x:=zpl) (y:=zHg) K_ ?_
   refine ze (id:=3) (ops:=z9p) K_ ?_
   refine zd [.plain] 1 [(0,[],Vp t_),(1,[],Vi number),(13,[],Vp t_)] K_ K_ ?_
   obtain⟨hp_1,h⟩:=h
   refine zH [(0,[],Vp t_),(1,[],Vi number),(13,[],Vp (some ⟨(pblk t_),(poff t_),none⟩))] (congrArg (fun pp=>([(0,[],Vp t_),(1,[],Vi number),(13,[],Vp pp)]:GEnv)) hp_1) ?_
   refine zd [.plain] 2 [(0,[],Vp t_),(1,[],Vi number),(13,[],Vp (some ⟨(pblk t_),(poff t_),none⟩)),(14,[],Vp (some ⟨(pblk t_),(poff t_),none⟩))] K_ K_ ?_
   refine zd [.plain] 3 [(0,[],Vp t_),(1,[],Vi number),(15,[],Vp (some ⟨(pblk t_),(poff t_)+1,none⟩))] K_ K_ ?_
   obtain⟨v16,hc,h⟩:=h
   refine zB (t:=185) (a:=(Operand.tmp 15)) (b:=(pblk t_)) (o:=((poff t_)+1)) (ty:=185) (dst:=some 16) K_ K_ K_ hc ?_
   refine zd [.plain] 5 [(0,[],Vp t_),(1,[],Vi number),(16,[],Value.map v16),(17,[],Vi number)] K_ K_ ?_
   obtain⟨es,n_,ok,hm_,hi_,hn_,hk_,hl_,h⟩:=h
   refine zHh (t:=185) (kt:=3) (et:=3) (x:=(Operand.tmp 16)) (k:=(Operand.tmp 17)) (m:=v16) (es:=es) (kv:=(Vi number)) (z:=(Vi 0)) (u:=(Vi n_)) (b:=ok) (ty:=210) (dst:=some 18) (keyI K_) K_ K_ K_ K_ (fun w_=>by kernel_rfl) hm_ hi_ hn_ hk_ hl_ ?_
   refine zd [.plain,.plain,.plain,.plain,.plain] 11 [(0,[],Vp t_),(1,[],Vi number),(6,[],Vi n_),(7,[],Vo ok)] K_ K_ ?_
   refine zj [(0,Vp t_),(1,Vi number),(6,Vi n_),(7,Vo ok)] K_ K_ ?_
   change WpE _ _ zHg _ _ _
   refine zf (x:=zql) (y:=zKg) K_ ?_
   refine zQ (id:=0) (x:=zBi) K_ ?_
   refine zf (x:=zrl) (y:=zIg) K_ ?_
   refine ze (id:=4) (ops:=zaq) K_ ?_
   refine zd [.plain,.plain,.plain] 3 [(0,[],Vp t_),(1,[],Vi number),(6,[],Vi n_),(21,[],Vo (!ok))] K_ K_ ?_
   refine zj [(0,Vp t_),(1,Vi number),(6,Vi n_),(21,Vo (!ok))] K_ K_ ?_
   change WpE _ _ zIg _ _ _
   refine zG (o:=(Operand.tmp 21)) (b:=(!ok)) (x:=zCi) (y:=zDi) K_ K_ (fun hb=> ?_) (fun hb=> ?_)
   ·replace h:=h.1 hb
    refine zf (x:=zsl) (y:=ztl) K_ ?_
    refine ze (id:=5) (ops:=zbq) K_ ?_
    refine zd [.plain,.plain] 2 [(4,[],Value.slice none 0 0),(5,[],Vi 1)] K_ K_ ?_
    refine zj [(4,Value.slice none 0 0),(5,Vi 1)] K_ K_ ?_
    change WpE _ _ ztl _ _ _
    refine z2 K_ ?_
    repeat (first | refine zM ?_ | refine zA ?_ | refine zF ?_ | refine zN ?_)
    exact retT (rs:=[(ResultVar.tmp 4),(ResultVar.tmp 5)]) (vs:=[Value.slice none 0 0,Vi 1]) K_ (⟨K_,⟨K_,trivial⟩⟩) K_ ⟨(Slc.mk none 0 0),1,rfl,h⟩
   ·replace h:=h.2 hb
    refine zf (x:=zul) (y:=zJg) K_ ?_
    refine ze (id:=6) (ops:=zcq) K_ ?_
    refine zd [.plain,.plain,.plain] 3 [(0,[],Vp t_),(1,[],Vi number),(24,[],Vo (decide (n_>0)))] K_ K_ ?_
    refine zj [(0,Vp t_),(1,Vi number),(24,Vo (decide (n_>0)))] K_ K_ ?_
    change WpE _ _ zJg _ _ _
    refine zG (o:=(Operand.tmp 24)) (b:=(decide (n_>0))) (x:=zEi) (y:=zeq) K_ K_ (fun hb=> ?_) (fun hb=> ?_)
    ·replace h:=h.1 hb
     refine zf (x:=zvl) (y:=zwl) K_ ?_
     refine ze (id:=7) (ops:=zdq) K_ ?_
     refine zd [.plain,.plain] 2 [(4,[],Value.slice none 0 0),(5,[],Vi 6)] K_ K_ ?_
     refine zj [(4,Value.slice none 0 0),(5,Vi 6)] K_ K_ ?_
     change WpE _ _ zwl _ _ _
     refine z2 K_ ?_
     repeat (first | refine zM ?_ | refine zA ?_ | refine zF ?_ | refine zN ?_)
     exact retT (rs:=[(ResultVar.tmp 4),(ResultVar.tmp 5)]) (vs:=[Value.slice none 0 0,Vi 6]) K_ (⟨K_,⟨K_,trivial⟩⟩) K_ ⟨(Slc.mk none 0 0),6,rfl,h⟩
    ·replace h:=h.2 hb
     refine zS K_ ?_
     change WpE _ _ zKg _ _ _
     refine zf (x:=zxl) (y:=zLg) K_ ?_
     refine ze (id:=8) (ops:=zfq) K_ ?_
     refine zd [.plain] 1 [(0,[],Vp t_),(1,[],Vi number),(27,[],Vp t_)] K_ K_ ?_
     obtain⟨hp_3,h⟩:=h
     refine zH [(0,[],Vp t_),(1,[],Vi number),(27,[],Vp (some ⟨(pblk t_),(poff t_),none⟩))] (congrArg (fun pp=>([(0,[],Vp t_),(1,[],Vi number),(27,[],Vp pp)]:GEnv)) hp_3) ?_
     refine zd [.plain] 2 [(0,[],Vp t_),(1,[],Vi number),(27,[],Vp (some ⟨(pblk t_),(poff t_),none⟩)),(28,[],Vp (some ⟨(pblk t_),(poff t_),none⟩))] K_ K_ ?_
     refine zd [.plain] 3 [(0,[],Vp t_),(1,[],Vi number),(29,[],Vp (some ⟨(pblk t_),(poff t_)+1,none⟩))] K_ K_ ?_
     obtain⟨v30,hc,h⟩:=h
     refine zB (t:=185) (a:=(Operand.tmp 29)) (b:=(pblk t_)) (o:=((poff t_)+1)) (ty:=185) (dst:=some 30) K_ K_ K_ hc ?_
     refine zd [.plain] 5 [(0,[],Vp t_),(1,[],Vi number),(30,[],Value.map v30),(31,[],Vi number)] K_ K_ ?_
     obtain⟨r,es1,c,hr_,hm_,hi_,hk_,h⟩:=h
     refine zNc (t:=185) (tk:=3) (kt:=3) (et:=3) (x:=(Operand.tmp 30)) (k:=(Operand.tmp 31)) (m:=v30) (es:=es1) (kv:=(Vi number)) (ty:=0) (dst:=none) r c (keyI K_) K_ K_ hr_ K_ K_ hm_ hi_ hk_ (fun es2 w2 hs_ hw=> ?_)
     replace h:=h es2 w2 hs_ hw
     clear hw hs_
     refine zj [(0,Vp t_),(1,Vi number)] K_ K_ ?_
     change WpE _ _ zLg _ _ _
     refine zf (x:=zyl) (y:=zMg) K_ ?_
     refine ze (id:=9) (ops:=zgq) K_ ?_
     refine zd [.plain] 1 [(0,[],Vp t_),(1,[],Vi number),(8,[],Value.slice none 0 0)] K_ K_ ?_
     refine zj [(0,Vp t_),(1,Vi number),(8,Value.slice none 0 0)] K_ K_ ?_
     change WpE _ _ zMg _ _ _
     refine zf (x:=zFi) (y:=zTg) K_ ?_
     refine zf (x:=zzl) (y:=zGi) K_ ?_
     refine ze (id:=10) (ops:=zhq) K_ ?_
     refine zd [.plain] 1 [(0,[],Vp t_),(1,[],Vi number),(8,[],Value.slice none 0 0),(32,[],Vp t_)] K_ K_ ?_
     obtain⟨hp_13,h⟩:=h
     refine zH [(0,[],Vp t_),(1,[],Vi number),(8,[],Value.slice none 0 0),(32,[],Vp (some ⟨(pblk t_),(poff t_),none⟩))] (congrArg (fun pp=>([(0,[],Vp t_),(1,[],Vi number),(8,[],Value.slice none 0 0),(32,[],Vp pp)]:GEnv)) hp_13) ?_
     refine zd [.plain] 2 [(0,[],Vp t_),(1,[],Vi number),(8,[],Value.slice none 0 0),(32,[],Vp (some ⟨(pblk t_),(poff t_),none⟩)),(33,[],Vp (some ⟨(pblk t_),(poff t_),none⟩))] K_ K_ ?_
     refine zd [.plain] 3 [(0,[],Vp t_),(1,[],Vi number),(8,[],Value.slice none 0 0),(34,[],Vp (some ⟨(pblk t_),(poff t_)+2,none⟩))] K_ K_ ?_
     obtain⟨v35,hc,h⟩:=h
     refine zB (t:=186) (a:=(Operand.tmp 34)) (b:=(pblk t_)) (o:=((poff t_)+2)) (ty:=186) (dst:=some 35) K_ K_ K_ hc ?_
     refine zd [] 4 [(0,[],Vp t_),(1,[],Vi number),(8,[],Value.slice none 0 0),(35,[],Value.map v35)] K_ K_ ?_
     obtain⟨r1,es3,c1,hr_,hm_,h⟩:=h
     refine z3j (t:=186) (kt:=178) (et:=4) (x:=(Operand.tmp 35)) (r:=r1) (c:=c1) (es:=es3) (ty:=0) (dst:=some 36) K_ (congrArg Value.map hr_) K_ hm_ (fun b_ w3 hb hw=> ?_)
     replace h:=h b_ w3 hb hw
     clear hb hw
     refine zj [(0,Vp t_),(1,Vi number),(8,Value.slice none 0 0),(36,pv_ b_)] K_ K_ ?_
     change WpE _ _ zGi _ _ _
     refine zQ (id:=1) (x:=zAl) K_ ?_
     obtain⟨I,μ,h0,hr⟩:=h
     refine zDc (x:=zHi) K_ (fun m l w=>∃(out:Slc),l=[(0,Vp t_),(1,Vi number),(8,sv_ out),(36,pv_ b_)]∧I out w∧μ out w=m) (l':=[(0,Vp t_),(1,Vi number),(8,Value.slice none 0 0),(36,pv_ b_)]) (Sub.mk K_) ⟨(Slc.mk none 0 0),rfl,h0,rfl⟩ ?_
     rintro _ _ w4 ⟨out,rfl,hI,rfl⟩
     obtain⟨again_,again__h,h⟩:∃ again_:Slc→WP,(∀ out' w',again_ out' w'→I out' w'∧μ out' w'<μ out w4)∧F_rb t_ number R b_ again_ out w4:=⟨_,fun _ _ h=>h,hr out w4 hI⟩
     clear h0 hI
     unfold F_rb at h
     refine zmb (x:=zBl) (y:=zIi) K_ (fun l w=>∃(t38:Bool),l=[(0,Vp t_),(1,Vi number),(8,sv_ out),(36,pv_ b_),(38,Vo t38)]∧F_J t_ number R b_ out again_ t38 w) ?_ ?_
     ·refine ze (id:=11) (ops:=ziq) K_ ?_
      refine zd [] 0 [(0,[],Vp t_),(1,[],Vi number),(8,[],sv_ out),(36,[],pv_ b_)] K_ K_ ?_
      obtain⟨bm1,since1,last,seen1,es11,clock1,hi_,hb_,ho_,hs_,h⟩:=h
      refine zMk (x:=(Operand.tmp 36)) (ty:=0) (dst:=some 37) K_ K_ hi_ hb_ ho_ hs_ (fun ha_=> ?_) (fun e1 w16 w17 he_ hc_ hd_ hw=> ?_)
      ·replace h:=h.1 ha_
       refine zd [.plain] 2 [(0,[],Vp t_),(1,[],Vi number),(8,[],sv_ out),(36,[],pv_ b_),(38,[],Vo false)] K_ K_ ?_
       refine zj [(0,Vp t_),(1,Vi number),(8,sv_ out),(36,pv_ b_),(38,Vo false)] K_ K_ ?_
       exact⟨[(0,Vp t_),(1,Vi number),(8,sv_ out),(36,pv_ b_),(38,Vo false)],Sub.mk K_,false,rfl,h⟩
      ·replace h:=h.2 e1 w16 w17 he_ hc_ hd_ hw
       clear hw
       refine zd [.plain] 2 [(0,[],Vp t_),(1,[],Vi number),(8,[],sv_ out),(36,[],pv_ b_),(38,[],Vo true)] K_ K_ ?_
       refine zj [(0,Vp t_),(1,Vi number),(8,sv_ out),(36,pv_ b_),(38,Vo true)] K_ K_ ?_
       exact⟨[(0,Vp t_),(1,Vi number),(8,sv_ out),(36,pv_ b_),(38,Vo true)],Sub.mk K_,true,rfl,h⟩
     ·rintro _ w5 ⟨t38,rfl,h⟩
      unfold F_J at h
      refine zf (x:=zJi) (y:=zKi) K_ ?_
      refine zG (o:=(Operand.tmp 38)) (b:=t38) (x:=zjq) (y:=zkq) K_ K_ (fun hb=> ?_) (fun hb=> ?_)
      ·replace h:=h.1 hb
       refine zS K_ ?_
       change WpE _ _ zKi _ _ _
       refine zQ (id:=2) (x:=zLi) K_ ?_
       refine zf (x:=zCl) (y:=zNg) K_ ?_
       refine ze (id:=12) (ops:=zlq) K_ ?_
       refine zd [] 0 [(0,[],Vp t_),(1,[],Vi number),(8,[],sv_ out),(36,[],pv_ b_)] K_ K_ ?_
       obtain⟨bm,since,clock,seen,es4,e,key,val,hi_,hb_,he_,hn_,hk_,hv_,h⟩:=h
       refine z4j (x:=(Operand.tmp 36)) (ty:=0) (dst:=some 39) K_ K_ hi_ hb_ he_ hn_ hk_ hv_ ?_
       refine zd [.plain] 2 [(0,[],Vp t_),(1,[],Vi number),(8,[],sv_ out),(36,[],pv_ b_),(40,[],Value.agg #[Vi key.e0,Vi key.e1])] K_ K_ ?_
       refine zQb (op:=(Op.alloc 178)) (ty:=0) (dst:=some 9) (fun bb=>pv_ bb) (Obj.cells ([Vi 0,Vi 0]).toArray y_p (0,0)) K_ K_ (fun b_1 w6 hb hw=> ?_)
       replace h:=h b_1 w6 hb hw
       clear hb hw
       refine zd [] 3 [(0,[],Vp t_),(1,[],Vi number),(8,[],sv_ out),(9,[],pv_ b_1),(36,[],pv_ b_),(40,[],Value.agg #[Vi key.e0,Vi key.e1])] K_ K_ ?_
       obtain⟨hc,h⟩:=h
       refine zab (t:=178) (a:=(Operand.tmp 9)) (x:=(Operand.tmp 40)) (b:=b_1) (o:=0) (ty:=0) (dst:=none) [Vi key.e0,Vi key.e1] K_ K_ K_ (k:=2) K_ K_ K_ hc (fun w7 hw=> ?_)
       replace h:=h w7 hw
       clear hw
       refine zj [(0,Vp t_),(1,Vi number),(8,sv_ out),(9,pv_ b_1),(36,pv_ b_)] K_ K_ ?_
       change WpE _ _ zNg _ _ _
       refine zf (x:=zMi) (y:=zPg) K_ ?_
       refine zf (x:=zDl) (y:=zOg) K_ ?_
       refine ze (id:=13) (ops:=zmq) K_ ?_
       refine zd [] 0 [(0,[],Vp t_),(1,[],Vi number),(8,[],sv_ out),(9,[],pv_ b_1),(36,[],pv_ b_)] K_ K_ ?_
       obtain⟨h0,h1,h⟩:=h
       refine zdb (t:=178) (e:=3) (x:=(Operand.tmp 9)) (ix:=(Operand.const (Value.int IntKind.i64 1))) (b:=b_1) (o:=0) (len:=2) (k:= .i64) (j:=1) (ty:=0) (dst:=some 41) K_ K_ K_ K_ K_ h0 h1 ?_
       refine zd [] 1 [(0,[],Vp t_),(1,[],Vi number),(8,[],sv_ out),(9,[],pv_ b_1),(36,[],pv_ b_),(41,[],Vp (some ⟨b_1,1,none⟩))] K_ K_ ?_
       obtain⟨v42,hc,h⟩:=h
       refine zB (t:=3) (a:=(Operand.tmp 41)) (b:=b_1) (o:=1) (ty:=3) (dst:=some 42) K_ K_ K_ hc ?_
       refine zd [.plain,.plain] 4 [(0,[],Vp t_),(1,[],Vi number),(8,[],sv_ out),(9,[],pv_ b_1),(36,[],pv_ b_),(44,[],Vo (v42 != number))] K_ K_ ?_
       refine zj [(0,Vp t_),(1,Vi number),(8,sv_ out),(9,pv_ b_1),(36,pv_ b_),(44,Vo (v42 != number))] K_ K_ ?_
       change WpE _ _ zOg _ _ _
       refine zG (o:=(Operand.tmp 44)) (b:=(v42 != number)) (x:=znq) (y:=zoq) K_ K_ (fun hb=> ?_) (fun hb=> ?_)
       ·replace h:=h.1 hb
        refine z7b (id:=2) K_ ?_
        have hb_:=again__h _ _ h
        exact⟨_,hb_.2,[(0,Vp t_),(1,Vi number),(8,sv_ out),(36,pv_ b_)],Sub.mk K_,out,rfl,hb_.1,rfl⟩
       ·replace h:=h.2 hb
        refine zS K_ ?_
        change WpE _ _ zPg _ _ _
        refine zf (x:=zEl) (y:=zQg) K_ ?_
        refine zn (id:=14) (ops:=zpq) K_ 5 K_ K_ (fun w8 hw=> ?_)
        replace h:=h w8 hw
        clear hw
        refine zh [.plain] 1 [(0,[],Vp t_),(1,[],Vi number),(8,[],sv_ out),(9,[],pv_ b_1),(36,[],pv_ b_),(45,[],Vp t_)] K_ K_ ?_
        obtain⟨hp_15,h⟩:=h
        refine zX [(0,[],Vp t_),(1,[],Vi number),(8,[],sv_ out),(9,[],pv_ b_1),(36,[],pv_ b_),(45,[],Vp (some ⟨(pblk t_),(poff t_),none⟩))] (congrArg (fun pp=>([(0,[],Vp t_),(1,[],Vi number),(8,[],sv_ out),(9,[],pv_ b_1),(36,[],pv_ b_),(45,[],Vp pp)]:GEnv)) hp_15) ?_
        refine zh [.plain] 2 [(0,[],Vp t_),(1,[],Vi number),(8,[],sv_ out),(9,[],pv_ b_1),(36,[],pv_ b_),(45,[],Vp (some ⟨(pblk t_),(poff t_),none⟩)),(46,[],Vp (some ⟨(pblk t_),(poff t_),none⟩))] K_ K_ ?_
        refine zh [.plain] 3 [(0,[],Vp t_),(1,[],Vi number),(8,[],sv_ out),(9,[],pv_ b_1),(36,[],pv_ b_),(47,[],Vp (some ⟨(pblk t_),(poff t_)+2,none⟩))] K_ K_ ?_
        obtain⟨v48,hc,h⟩:=h
        refine zx (t:=186) (a:=(Operand.tmp 47)) (b:=(pblk t_)) (o:=((poff t_)+2)) (ty:=186) (dst:=some 48) K_ K_ K_ hc ?_
        refine zh [] 4 [(0,[],Vp t_),(1,[],Vi number),(8,[],sv_ out),(9,[],pv_ b_1),(36,[],pv_ b_),(48,[],Value.map v48)] K_ K_ ?_
        obtain⟨v49,hc,h⟩:=h
        refine zcd (t:=178) (a:=(Operand.tmp 9)) (b:=b_1) (o:=0) (ty:=178) (dst:=some 49) [Vi v49.e0,Vi v49.e1] K_ K_ K_ (k:=2) K_ K_ hc ?_
        refine zh [] 5 [(0,[],Vp t_),(1,[],Vi number),(8,[],sv_ out),(9,[],pv_ b_1),(36,[],pv_ b_),(48,[],Value.map v48),(49,[],Value.agg #[Vi v49.e0,Vi v49.e1])] K_ K_ ?_
        refine zD K_ ?_
        refine zd [] 5 [(0,[],Vp t_),(1,[],Vi number),(8,[],sv_ out),(9,[],pv_ b_1),(36,[],pv_ b_),(48,[],Value.map v48),(49,[],Value.agg #[Vi v49.e0,Vi v49.e1])] K_ K_ ?_
        obtain⟨r2,es5,c2,hr_,hm_,hi_,hk_,h⟩:=h
        refine zNc (t:=186) (tk:=178) (kt:=178) (et:=4) (x:=(Operand.tmp 48)) (k:=(Operand.tmp 49)) (m:=v48) (es:=es5) (kv:=(Value.agg #[Vi v49.e0,Vi v49.e1])) (ty:=0) (dst:=none) r2 c2 zqg K_ K_ hr_ K_ K_ hm_ hi_ hk_ (fun es6 w9 hs_ hw=> ?_)
        replace h:=h es6 w9 hs_ hw
        clear hw hs_
        refine zj [(0,Vp t_),(1,Vi number),(8,sv_ out),(9,pv_ b_1),(36,pv_ b_)] K_ K_ ?_
        change WpE _ _ zQg _ _ _
        refine zf (x:=zFl) (y:=zRg) K_ ?_
        refine zn (id:=15) (ops:=zqq) K_ 8 K_ K_ (fun w10 hw=> ?_)
        replace h:=h w10 hw
        clear hw
        refine zh [.plain] 1 [(0,[],Vp t_),(1,[],Vi number),(8,[],sv_ out),(9,[],pv_ b_1),(36,[],pv_ b_),(50,[],Vp t_)] K_ K_ ?_
        obtain⟨hp_17,h⟩:=h
        refine zX [(0,[],Vp t_),(1,[],Vi number),(8,[],sv_ out),(9,[],pv_ b_1),(36,[],pv_ b_),(50,[],Vp (some ⟨(pblk t_),(poff t_),none⟩))] (congrArg (fun pp=>([(0,[],Vp t_),(1,[],Vi number),(8,[],sv_ out),(9,[],pv_ b_1),(36,[],pv_ b_),(50,[],Vp pp)]:GEnv)) hp_17) ?_
        refine zh [.plain] 2 [(0,[],Vp t_),(1,[],Vi number),(8,[],sv_ out),(9,[],pv_ b_1),(36,[],pv_ b_),(50,[],Vp (some ⟨(pblk t_),(poff t_),none⟩)),(51,[],Vp (some ⟨(pblk t_),(poff t_),none⟩))] K_ K_ ?_
        refine zh [.plain] 3 [(0,[],Vp t_),(1,[],Vi number),(8,[],sv_ out),(9,[],pv_ b_1),(36,[],pv_ b_),(52,[],Vp (some ⟨(pblk t_),(poff t_)+1,none⟩))] K_ K_ ?_
        obtain⟨v53,hc,h⟩:=h
        refine zx (t:=185) (a:=(Operand.tmp 52)) (b:=(pblk t_)) (o:=((poff t_)+1)) (ty:=185) (dst:=some 53) K_ K_ K_ hc ?_
        refine zh [] 4 [(0,[],Vp t_),(1,[],Vi number),(8,[],sv_ out),(9,[],pv_ b_1),(36,[],pv_ b_),(53,[],Value.map v53)] K_ K_ ?_
        obtain⟨h0,h1,h⟩:=h
        refine zeb (t:=178) (e:=3) (x:=(Operand.tmp 9)) (ix:=(Operand.const (Value.int IntKind.i64 0))) (b:=b_1) (o:=0) (len:=2) (k:= .i64) (j:=0) (ty:=0) (dst:=some 54) K_ K_ K_ K_ K_ h0 h1 ?_
        refine zh [] 5 [(0,[],Vp t_),(1,[],Vi number),(8,[],sv_ out),(9,[],pv_ b_1),(36,[],pv_ b_),(53,[],Value.map v53),(54,[],pv_ b_1)] K_ K_ ?_
        obtain⟨v55,hc,h⟩:=h
        refine zx (t:=3) (a:=(Operand.tmp 54)) (b:=b_1) (o:=0) (ty:=3) (dst:=some 55) K_ K_ K_ hc ?_
        refine zh [] 6 [(0,[],Vp t_),(1,[],Vi number),(8,[],sv_ out),(9,[],pv_ b_1),(36,[],pv_ b_),(53,[],Value.map v53),(55,[],Vi v55)] K_ K_ ?_
        obtain⟨es7,v56,ok1,hm_,hi_,hn_,hk_,hl_,h⟩:=h
        refine zLc (t:=185) (kt:=3) (et:=3) (x:=(Operand.tmp 53)) (k:=(Operand.tmp 55)) (m:=v53) (es:=es7) (kv:=(Vi v55)) (z:=(Vi 0)) (u:=(Vi v56)) (b:=ok1) (ty:=3) (dst:=some 56) (keyI K_) K_ K_ K_ K_ (fun w_=>by kernel_rfl) hm_ hi_ hn_ hk_ hl_ ?_
        refine zh [.plain] 8 [(0,[],Vp t_),(1,[],Vi number),(8,[],sv_ out),(9,[],pv_ b_1),(36,[],pv_ b_),(53,[],Value.map v53),(55,[],Vi v55),(57,[],Vi (IntKind.i64.wrap (v56 - 1)))] K_ K_ ?_
        refine zD K_ ?_
        refine zd [] 8 [(0,[],Vp t_),(1,[],Vi number),(8,[],sv_ out),(9,[],pv_ b_1),(36,[],pv_ b_),(53,[],Value.map v53),(55,[],Vi v55),(57,[],Vi (IntKind.i64.wrap (v56 - 1)))] K_ K_ ?_
        obtain⟨r3,es8,c3,hr_,hm_,hi_,hn_,hk_,h⟩:=h
        refine zZ (t:=185) (kt:=3) (et:=3) (x:=(Operand.tmp 53)) (k:=(Operand.tmp 55)) (v:=(Operand.tmp 57)) (m:=v53) (es:=es8) (kv:=(Vi v55)) (vv:=(Vi (IntKind.i64.wrap (v56 - 1)))) (ty:=0) (dst:=none) r3 c3 (keyI K_) K_ K_ hr_ K_ K_ K_ hm_ hi_ hn_ hk_ (fun es9 c4 w11 hs_ hw=> ?_)
        replace h:=h es9 c4 w11 hs_ hw
        clear hw hs_
        refine zj [(0,Vp t_),(1,Vi number),(8,sv_ out),(9,pv_ b_1),(36,pv_ b_)] K_ K_ ?_
        change WpE _ _ zRg _ _ _
        refine zf (x:=zGl) (y:=zSg) K_ ?_
        refine zv (id:=16) (ops:=zrq) K_ K_ K_ ?_
        refine zh [.plain] 1 [(0,[],Vp t_),(1,[],Vi number),(8,[],sv_ out),(9,[],pv_ b_1),(36,[],pv_ b_),(58,[],Vp t_)] K_ K_ ?_
        obtain⟨hp_19,h⟩:=h
        refine zX [(0,[],Vp t_),(1,[],Vi number),(8,[],sv_ out),(9,[],pv_ b_1),(36,[],pv_ b_),(58,[],Vp (some ⟨(pblk t_),(poff t_),none⟩))] (congrArg (fun pp=>([(0,[],Vp t_),(1,[],Vi number),(8,[],sv_ out),(9,[],pv_ b_1),(36,[],pv_ b_),(58,[],Vp pp)]:GEnv)) hp_19) ?_
        refine zh [.plain] 2 [(0,[],Vp t_),(1,[],Vi number),(8,[],sv_ out),(9,[],pv_ b_1),(36,[],pv_ b_),(58,[],Vp (some ⟨(pblk t_),(poff t_),none⟩)),(59,[],Vp (some ⟨(pblk t_),(poff t_),none⟩))] K_ K_ ?_
        refine zh [.plain] 3 [(0,[],Vp t_),(1,[],Vi number),(8,[],sv_ out),(9,[],pv_ b_1),(36,[],pv_ b_),(60,[],Vp (some ⟨(pblk t_),(poff t_)+1,none⟩))] K_ K_ ?_
        obtain⟨v61,hc,h⟩:=h
        refine zx (t:=185) (a:=(Operand.tmp 60)) (b:=(pblk t_)) (o:=((poff t_)+1)) (ty:=185) (dst:=some 61) K_ K_ K_ hc ?_
        refine zh [] 4 [(0,[],Vp t_),(1,[],Vi number),(8,[],sv_ out),(9,[],pv_ b_1),(36,[],pv_ b_),(61,[],Value.map v61)] K_ K_ ?_
        obtain⟨h0,h1,h⟩:=h
        refine zeb (t:=178) (e:=3) (x:=(Operand.tmp 9)) (ix:=(Operand.const (Value.int IntKind.i64 0))) (b:=b_1) (o:=0) (len:=2) (k:= .i64) (j:=0) (ty:=0) (dst:=some 62) K_ K_ K_ K_ K_ h0 h1 ?_
        refine zh [] 5 [(0,[],Vp t_),(1,[],Vi number),(8,[],sv_ out),(9,[],pv_ b_1),(36,[],pv_ b_),(61,[],Value.map v61),(62,[],pv_ b_1)] K_ K_ ?_
        obtain⟨v63,hc,h⟩:=h
        refine zx (t:=3) (a:=(Operand.tmp 62)) (b:=b_1) (o:=0) (ty:=3) (dst:=some 63) K_ K_ K_ hc ?_
        refine zh [] 6 [(0,[],Vp t_),(1,[],Vi number),(8,[],sv_ out),(9,[],pv_ b_1),(36,[],pv_ b_),(61,[],Value.map v61),(63,[],Vi v63)] K_ K_ ?_
        obtain⟨es10,v64,ok2,hm_,hi_,hn_,hk_,hl_,h⟩:=h
        refine zLc (t:=185) (kt:=3) (et:=3) (x:=(Operand.tmp 61)) (k:=(Operand.tmp 63)) (m:=v61) (es:=es10) (kv:=(Vi v63)) (z:=(Vi 0)) (u:=(Vi v64)) (b:=ok2) (ty:=3) (dst:=some 64) (keyI K_) K_ K_ K_ K_ (fun w_=>by kernel_rfl) hm_ hi_ hn_ hk_ hl_ ?_
        refine zh [.plain] 8 [(0,[],Vp t_),(1,[],Vi number),(8,[],sv_ out),(9,[],pv_ b_1),(36,[],pv_ b_),(65,[],Vo (v64==0))] K_ K_ ?_
        refine zad [(0,Vp t_),(1,Vi number),(8,sv_ out),(9,pv_ b_1),(36,pv_ b_),(65,Vo (v64==0))] K_ K_ (fun w12 hw=> ?_)
        replace h:=h w12 hw
        clear hw
        change WpE _ _ zSg _ _ _
        refine zG (o:=(Operand.tmp 65)) (b:=(v64==0)) (x:=zHl) (y:=ztq) K_ K_ (fun hb=> ?_) (fun hb=> ?_)
        ·replace h:=h.1 hb
         refine ze (id:=17) (ops:=zsq) K_ ?_
         refine zd [.plain] 1 [(0,[],Vp t_),(1,[],Vi number),(8,[],sv_ out),(9,[],pv_ b_1),(36,[],pv_ b_),(66,[],sv_ out)] K_ K_ ?_
         obtain⟨h0,h1,h⟩:=h
         refine zdb (t:=178) (e:=3) (x:=(Operand.tmp 9)) (ix:=(Operand.const (Value.int IntKind.i64 0))) (b:=b_1) (o:=0) (len:=2) (k:= .i64) (j:=0) (ty:=0) (dst:=some 67) K_ K_ K_ K_ K_ h0 h1 ?_
         refine zd [] 2 [(0,[],Vp t_),(1,[],Vi number),(8,[],sv_ out),(36,[],pv_ b_),(66,[],sv_ out),(67,[],pv_ b_1)] K_ K_ ?_
         obtain⟨v68,hc,h⟩:=h
         refine zB (t:=3) (a:=(Operand.tmp 67)) (b:=b_1) (o:=0) (ty:=3) (dst:=some 68) K_ K_ K_ hc ?_
         refine zd [] 3 [(0,[],Vp t_),(1,[],Vi number),(8,[],sv_ out),(36,[],pv_ b_),(66,[],sv_ out),(68,[],Vi v68)] K_ K_ ?_
         refine zQb (op:=(Op.buildSlice 25 1 #[(0,(Operand.tmp 68))])) (ty:=25) (dst:=some 69) (fun bb=>Value.slice (some ⟨bb,0,none⟩) 1 1) (Obj.cells ([Vi v68]).toArray y_h (0,0)) K_ K_ (fun b_2 w13 hb hw=> ?_)
         replace h:=h b_2 w13 hb hw
         clear hb hw
         refine zd [] 4 [(0,[],Vp t_),(1,[],Vi number),(8,[],sv_ out),(36,[],pv_ b_),(66,[],sv_ out),(69,[],Value.slice (some ⟨b_2,0,none⟩) 1 1)] K_ K_ ?_
         obtain⟨src,hs,h⟩:=h
         refine zC (t:=25) (tx:=25) (e:=3) (a:=(Operand.tmp 66)) (xo:=(Operand.tmp 69)) (s:=out) (x:=(Slc.mk (some ⟨b_2,0,none⟩) 1 1)) (sz:=1) (by_:=8) (zs:=[Vi 0]) (ty:=25) (dst:=some 70)  src K_ K_ K_ K_ K_ K_ K_ K_ K_ hs (zo.mono h (fun out1 w14 h=> ?_))
         refine zd [.plain] 6 [(0,[],Vp t_),(1,[],Vi number),(8,[],sv_ out1),(36,[],pv_ b_)] K_ K_ ?_
         refine zj [(0,Vp t_),(1,Vi number),(8,sv_ out1),(36,pv_ b_)] K_ K_ ?_
         have hb_:=again__h _ _ h
         exact⟨_,hb_.2,[(0,Vp t_),(1,Vi number),(8,sv_ out1),(36,pv_ b_)],Sub.mk K_,out1,rfl,hb_.1,rfl⟩
        ·replace h:=h.2 hb
         refine zS K_ ?_
         have hb_:=again__h _ _ h
         exact⟨_,hb_.2,[(0,Vp t_),(1,Vi number),(8,sv_ out),(36,pv_ b_)],Sub.mk K_,out,rfl,hb_.1,rfl⟩
      ·replace h:=h.2 hb
       refine z7b (id:=1) K_ ?_
       change WpE _ _ zTg _ _ _
       refine zf (x:=zIl) (y:=zUg) K_ ?_
       refine ze (id:=18) (ops:=zuq) K_ ?_
       refine zd [.plain] 1 [(8,[],sv_ out),(71,[],sv_ out)] K_ K_ ?_
       refine zW (op:=(Op.call (Call.mk (Callee.value (Operand.func 285)) #[(Operand.tmp 71)] #[25]))) (ty:=0) (dst:=some 72) 285 #[sv_ out] K_ (fun ww=>by kernel_rfl) (Calls.mono h ?_)
       rintro _ w15 ⟨rfl,h⟩
       refine⟨_,rfl,?_⟩
       refine zj [(8,sv_ out)] K_ K_ ?_
       change WpE _ _ zUg _ _ _
       refine zf (x:=zJl) (y:=zKl) K_ ?_
       refine ze (id:=19) (ops:=zvq) K_ ?_
       refine zd [.plain,.plain,.plain] 3 [(4,[],sv_ out),(5,[],Vi 0)] K_ K_ ?_
       refine zj [(4,sv_ out),(5,Vi 0)] K_ K_ ?_
       change WpE _ _ zKl _ _ _
       refine z2 K_ ?_
       repeat (first | refine zM ?_ | refine zA ?_ | refine zF ?_ | refine zN ?_)
       exact retT (rs:=[(ResultVar.tmp 4),(ResultVar.tmp 5)]) (vs:=[sv_ out,Vi 0]) K_ (⟨K_,⟨K_,trivial⟩⟩) K_ ⟨out,0,rfl,h⟩
 ·rintro e w' ⟨v,rfl,r0,r1,rfl,h⟩; exact⟨r0,r1,rfl,h⟩
end
end Go.Proofs.YtofjmclceflgiaaGreat
