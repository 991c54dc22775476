/- WRITTEN BY PROGRAM (dec.py): for each Go function the clean formula F, the call's contract C, and the proof S that F gives C. -/
import Derived.Test.YtjlfdepkphibgaaGreatDoorRows
import Derived.Test.YtjlfdepkphibgaaGreatDoorGF
namespace Go.Proofs.YtjlfdepkphibgaaGreatDoor
open Go
set_option linter.unusedVariables false
set_option maxRecDepth 100000
set_option maxHeartbeats 4000000
noncomputable section

/-! ### towpath/shard.Load (function 143) -/
def z0s:=cb_ Tryz.f143
def z1s:=cr_ z0s
def z2s:=cr_ z1s
def z3s:=cl_ z2s
def zmn:=cr_ z3s
def znn:=cl_ zmn
def zon:=cl_ znn
def zpn:=cr_ zon
def zqn:=cr_ zpn
def zrn:=cl_ zqn
def zsn:=cl_ zrn
def zfk:=cr_ zsn
def ztn:=cl_ zfk
def zun:=cl_ ztn
def zvn:=co_ zun
def zwn:=cr_ zfk
def zxn:=co_ zwn
def zuf:List Nat:=[0,1,2,3,4,5,6,7,8,9,10,11,12,13,14,15,16,17,18,19,20,21,22,23,24,25,26,27,28,29,30]
def zvf:List Nat:=[0,1,2,3,4,5,6,7,8,9,10]

theorem S_Kc {l_:Slc} {w:World} {R:OA→Int→WP} (h:F_jf l_ R w):C_Lc l_ w R:=by
 unfold F_jf at h
 refine Yh Tryz.func143 ?_
 ·refine Yp P2 [0] (Yt ?_)
  refine Ym1 h fun v7 w1 h=> ?_
  refine Yf P1 [0,4] (Ys (Yp P3 [0,4,8,9,10] (Yd 0 ?_)))
  obtain⟨I,μ,h0,hr⟩:=h
  refine zN (fun m l w=>∃(t10:Int),l=[(0,sv_ l_),(4,Vp v7),(8,sv_ l_),(9,Vi ((l_.len:Nat):Int)),(10,Vi t10)]∧I t10 w∧μ t10 w=m) ⟨0,rfl,h0,rfl⟩ ?_
  rintro _ _ w2 ⟨t10,rfl,hI,rfl⟩
  obtain⟨again_,again__h,h⟩:∃ again_:Int→WP,(∀ t10' w',again_ t10' w'→I t10' w'∧μ t10' w'<μ t10 w2)∧F_8c l_ R v7 again_ t10 w2:=⟨_,fun _ _ h=>h,hr t10 w2 hI⟩
  clear h0 hI
  unfold F_8c at h
  refine Yp P1 [0,4,8,9,10,11] (Ys ?_)
  refine Yc h (fun h=> ?_) fun h=> ?_
  ·refine zg (Ys (Yd 1 (Yt (Yn P1 ?_))))
   obtain⟨hp_22,h⟩:=h
   refine Yu 8 (fun pp=> .slice pp l_.len l_.cap) hp_22 ?_
   refine Yi h fun h=> ?_
   refine YL h fun v14 h=> ?_
   refine Yw pv_ h fun b_ w3 h=> ?_
   refine Yn P1 ?_
   refine Yo h fun w4 h=> ?_
   refine Yu 8 (fun pp=> .slice pp l_.len l_.cap) hp_22.symm ?_
   refine Yf [] [0,4,5,6,8,9,10] (Ys ?_)
   refine Ycut (fun l w=>∃(t45:Bool),l=[(0,sv_ l_),(4,Vp v7),(6,pv_ b_),(8,sv_ l_),(9,Vi ((l_.len:Nat):Int)),(10,Vi t10),(45,Vo t45)]∧F_h R v7 t10 again_ b_ t45 w) ?_ ?_
   ·refine zm (id:=5) (ops:=zvn) zuf K_ K_ K_ K_ (fun w9 hw=> ?_)
    replace h:=h w9 hw
    clear hw
    refine Mn P1 ?_
    refine Ml 1 h fun v16 hc h=> ?_
    refine zo (op:=(Op.call (Call.mk (Callee.value (Operand.func 173)) #[(Operand.tmp 16)] #[9]))) (ty:=4) (dst:=some 17) 2 [1,0] [] 173 #[Value.string v16] K_ K_ K_ K_ K_ (fun ww=>by kernel_rfl) (Calls.mono h ?_)
    rintro _ w10 ⟨v17,rfl,h⟩
    refine⟨_,rfl,trivial,?_⟩
    refine Mn (Pl 8) ?_
    refine Mspl 19 h (fun h=> ?_) fun h=> ?_
    ·refine Mf [.skip,.skip,.skip,.skip,.skip,.skip,.skip,.plain,.plain,.skip,.skip,.skip,.skip,.plain,.plain,.skip,.skip,.skip,.skip,.plain] [0,4,6,8,9,10,45] ?_
     exact⟨_,Sub.mk K_,true,rfl,h⟩
    ·refine Mspl 22 h (fun h=> ?_) fun h=> ?_
     ·obtain⟨hp_27,h⟩:=h
      refine Mu 23 (fun pp=> .slice pp l_.len l_.cap) hp_27 ?_
      refine Mi 11 h fun h=> ?_
      refine Mn [.sure] ?_
      refine Ml 13 h fun v28 hc h=> ?_
      refine Mn [.sure] ?_
      refine Ml 15 h fun v30 hc h=> ?_
      refine Mn [.sure,.sure,.plain,.plain,.plain] ?_
      refine Mspl 34 h (fun h=> ?_) fun h=> ?_
      ·refine Mf [.skip,.skip,.skip,.plain,.plain,.skip,.skip,.skip,.skip,.plain] [0,4,6,8,9,10,45] ?_
       exact⟨_,Sub.mk K_,true,rfl,h⟩
      ·refine Ml 21 h fun v36 hc h=> ?_
       refine Mn [.sure,.sure,.plain,.plain,.plain] ?_
       refine Mspl 40 h (fun h=> ?_) fun h=> ?_
       ·refine Mf [.skip,.skip,.skip,.plain] [0,4,6,8,9,10,45] ?_
        exact⟨_,Sub.mk K_,true,rfl,h⟩
       ·refine Ml 27 h fun v42 hc h=> ?_
        refine zo (op:=(Op.call (Call.mk (Callee.value (Operand.func 174)) #[(Operand.tmp 42)] #[126]))) (ty:=25) (dst:=some 43) 28 [25,27,19,24,26,7,18,23,4,6,17,22,2,3,5,16,21,1,13,15,20,0,12,14,11,8,10,9] [] 174 #[sv_ v42] K_ K_ K_ K_ K_ (fun ww=>by kernel_rfl) (Calls.mono h ?_)
        rintro _ w11 ⟨v43,rfl,h⟩
        refine⟨_,rfl,trivial,?_⟩
        refine Mf [.sure,.plain] [0,4,6,8,9,10,45] ?_
        exact⟨_,Sub.mk K_,(v43 != 0),rfl,h⟩
     ·refine Mn [.skip,.skip,.skip,.skip,.skip,.skip,.sure,.plain,.plain,.sure] ?_
      refine Ml 21 h fun v361 hc h=> ?_
      refine Mn [.sure,.sure,.plain,.plain,.plain] ?_
      refine Mspl 40 h (fun h=> ?_) fun h=> ?_
      ·refine Mf [.skip,.skip,.skip,.plain] [0,4,6,8,9,10,45] ?_
       exact⟨_,Sub.mk K_,true,rfl,h⟩
      ·refine Ml 27 h fun v421 hc h=> ?_
       refine zo (op:=(Op.call (Call.mk (Callee.value (Operand.func 174)) #[(Operand.tmp 42)] #[126]))) (ty:=25) (dst:=some 43) 28 [25,27,19,24,26,7,18,23,4,6,17,22,2,3,5,16,21,1,13,15,20,0,12,14,11,8,10,9] [] 174 #[sv_ v421] K_ K_ K_ K_ K_ (fun ww=>by kernel_rfl) (Calls.mono h ?_)
       rintro _ w12 ⟨v431,rfl,h⟩
       refine⟨_,rfl,trivial,?_⟩
       refine Mf [.sure,.plain] [0,4,6,8,9,10,45] ?_
       exact⟨_,Sub.mk K_,(v431 != 0),rfl,h⟩
   ·rintro _ w5 ⟨t45,rfl,h⟩
    unfold F_h at h
    refine Yc h (fun h=> ?_) fun h=> ?_
    ·refine Yp P2 [2,3] ?_
     exact YT2 ⟨none,1,rfl,h⟩
    ·refine zg ?_
     refine zm (id:=7) (ops:=zxn) zvf K_ K_ K_ K_ (fun w6 hw=> ?_)
     replace h:=h w6 hw
     clear hw
     refine Mn P1 ?_
     refine Mv 46 h fun hp_26 h=> ?_
     refine Mn P1 ?_
     refine Mn P2 ?_
     refine Ml 4 h fun v50 hc h=> ?_
     refine Mn P1 ?_
     refine Ml 6 h fun v52 hc h=> ?_
     refine Mn P1 ?_
     refine Ml 8 h fun v54 hc h=> ?_
     refine zo (op:=(Op.call (Call.mk (Callee.value (Operand.func 175)) #[(Operand.tmp 54)] #[126]))) (ty:=126) (dst:=some 55) 9 [8,7] [(6,fun w'=>w'.cell? ⟨b_,0,none⟩=some (Value.string v52)),(4,fun w'=>w'.cell? ⟨(pblk v7),(poff v7),none⟩=some (Value.map v50))] 175 #[sv_ v54] K_ K_ K_ K_ K_ (fun ww=>by kernel_rfl) (Calls.mono h ?_)
     rintro _ w7 ⟨v55,rfl,h⟩
     obtain⟨hk0,hk1,h⟩:=h
     refine⟨_,rfl,⟨hk0,hk1,trivial⟩,?_⟩
     obtain⟨r,es,c,hr_,hm_,hi_,hn_,h⟩:=h
     refine ztf (t:=222) (kt:=9) (et:=126) (x:=(Operand.tmp 50)) (k:=(Operand.tmp 52)) (v:=(Operand.tmp 55)) (m:=v50) (es:=es) (j:=v52) (vv:=(sv_ v55)) (ty:=0) (dst:=none) 10 [0,1,2,3,4,5,6,7,8,9] [] r c K_ K_ K_ K_ K_ K_ hr_ K_ K_ K_ K_ hm_ hi_ hn_ (fun w8 hw=> ?_)
     replace h:=h w8 hw
     clear hw
     refine⟨trivial,?_⟩
     refine Mf [] [0,4,8,9,10] ?_
     refine Yr (Yf P2 [0,4,8,9,10] ?_)
     have hb_:=again__h _ _ h
     exact⟨_,hb_.2,_,Sub.mk K_,(IntKind.i64.wrap (t10+1)),rfl,hb_.1,rfl⟩
  ·refine zM 0 (Yp P3 [2,3] ?_)
   exact YT2 ⟨v7,0,rfl,h⟩

/-! ### towpath/shard.New (function 172) -/

theorem S_Oc {w:World} {R:OA→WP} (h:F_lf R w):C_Tc w R:=by
 unfold F_lf at h
 refine Yh Tryz.func172 ?_
 ·refine Yp P1 [] (Yt ?_)
  refine Yw (fun bb=>Value.map (some bb)) h fun b_ w1 h=> ?_
  refine Yn P2 ?_
  refine Yw pv_ h fun b_1 w2 h=> ?_
  refine Yf P1 [0] ?_
  exact YS ⟨(some ⟨b_1,0,none⟩),rfl,h⟩

/-! ### towpath/shard.may (function 173) -/

theorem S_Pc {key:ByteArray} {w:World} {R:Bool→WP} (h:F_mf key R w):C_Mc key w R:=by
 unfold F_mf at h
 refine Yh Tryz.func173 ?_
 ·refine Yp P1 [0] (Yp [.plain,.plain,.plain,.plain,.plain,.plain,.pick,.plain] [2] ?_)
  exact YS ⟨((!(key.toList==ByteArray.empty.toList))&&(decide (((key.size:Nat):Int)≤64))),rfl,h⟩
end
end Go.Proofs.YtjlfdepkphibgaaGreatDoor
