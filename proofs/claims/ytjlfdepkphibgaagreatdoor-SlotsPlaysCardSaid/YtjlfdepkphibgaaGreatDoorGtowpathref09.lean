/- WRITTEN BY PROGRAM (dec.py): for each Go function the clean formula F, the call's contract C, and the proof S that F gives C. -/
import Derived.Test.YtjlfdepkphibgaaGreatDoorRows
import Derived.Test.YtjlfdepkphibgaaGreatDoorGF
namespace Go.Proofs.YtjlfdepkphibgaaGreatDoor
open Go
set_option linter.unusedVariables false
set_option maxRecDepth 100000
set_option maxHeartbeats 4000000
noncomputable section

/-! ### towpath/towpathref09.May (function 149) -/
def zrt:=cb_ Tryz.f149
def zst:=cr_ zrt
def ztt:=cl_ zst
def zut:=cr_ ztt
def zvt:=cl_ zut
def zwt:=cl_ zvt
def zWo:=cr_ zwt
def zXo:=cl_ zWo
def zYo:=cl_ zXo
def zZo:=cl_ zYo
def z0o:=co_ zZo
def zrd:List Nat:=[0,1,2,3,4,5,6,7,8,9,10,11,12,13,14,15,16,17,18,19,20,21,22,23,24,25,26,27,28,29,30,31,32,33,34,35,36,37,38,39,40,41,42]

theorem S_sc {l_:Slc} {w:World} {R:Bool→WP} (h:F_ve l_ R w):C_rc l_ w R:=by
 unfold F_ve at h
 refine Yh Tryz.func149 ?_
 ·refine Yp P1 [0] (Ys (Yp P1 [0,3] (Yd 0 ?_)))
  obtain⟨I,μ,h0,hr⟩:=h
  refine zN (fun m l w=>∃(i:Int),l=[(0,sv_ l_),(3,Vi i)]∧I i w∧μ i w=m) ⟨0,rfl,h0,rfl⟩ ?_
  rintro _ _ w1 ⟨i,rfl,hI,rfl⟩
  obtain⟨again_,again__h,h⟩:∃ again_:Int→WP,(∀ i' w',again_ i' w'→I i' w'∧μ i' w'<μ i w1)∧F_ad l_ R again_ i w1:=⟨_,fun _ _ h=>h,hr i w1 hI⟩
  clear h0 hI
  unfold F_ad at h
  refine Ys (Yp P4 [0,3,7] ?_)
  refine Yc h (fun h=> ?_) fun h=> ?_
  ·refine zg (Ys (Yd 1 ?_))
   refine Ycut (fun l w=>∃(t52:Bool),l=[(0,sv_ l_),(3,Vi i),(52,Vo t52)]∧F_a R i again_ t52 w) ?_ ?_
   ·refine zm (id:=4) (ops:=z0o) zrd K_ K_ K_ K_ (fun w3 hw=> ?_)
    replace h:=h w3 hw
    clear hw
    refine Mn P2 ?_
    obtain⟨hp_49,h⟩:=h
    refine Mu 10 (fun pp=> .slice pp l_.len l_.cap) hp_49 ?_
    refine Mi 2 h fun h=> ?_
    refine Mn P1 ?_
    refine Ml 4 h fun v14 hc h=> ?_
    refine zo (op:=(Op.call (Call.mk (Callee.value (Operand.func 179)) #[(Operand.tmp 14)] #[9]))) (ty:=4) (dst:=some 15) 5 [4,3,2,0,1] [] 179 #[Value.string v14] K_ K_ K_ K_ K_ (fun ww=>by kernel_rfl) (Calls.mono h ?_)
    rintro _ w4 ⟨v15,rfl,h⟩
    refine⟨_,rfl,trivial,?_⟩
    refine Mn (Pl 8) ?_
    refine Mspl 17 h (fun h=> ?_) fun h=> ?_
    ·refine Mf [.skip,.skip,.skip,.skip,.skip,.skip,.skip,.skip,.skip,.skip,.plain,.plain,.skip,.skip,.skip,.skip,.skip,.skip,.skip,.plain,.plain,.skip,.skip,.skip,.skip,.skip,.skip,.skip,.plain] [0,3,52] ?_
     exact⟨_,Sub.mk K_,true,rfl,h⟩
    ·refine Mspl 20 h (fun h=> ?_) fun h=> ?_
     ·obtain⟨hp_50,h⟩:=h
      refine Mu 21 (fun pp=> .slice pp l_.len l_.cap) hp_50 ?_
      refine Mi 14 h fun h=> ?_
      refine Mn [.sure] ?_
      refine Ml 16 h fun v26 hc h=> ?_
      refine Mn [.sure,.sure] ?_
      obtain⟨hp_51,h⟩:=h
      refine Mu 27 (fun pp=> .slice pp l_.len l_.cap) hp_51 ?_
      refine Mi 19 h fun h=> ?_
      refine Mn [.sure] ?_
      refine Ml 21 h fun v31 hc h=> ?_
      refine Mn [.sure,.sure,.plain,.plain,.plain,.plain] ?_
      refine Mspl 35 h (fun h=> ?_) fun h=> ?_
      ·refine Mf [.skip,.skip,.skip,.skip,.skip,.plain,.plain,.skip,.skip,.skip,.skip,.skip,.skip,.skip,.plain] [0,3,52] ?_
       exact⟨_,Sub.mk K_,true,rfl,h⟩
      ·obtain⟨hp_52,h⟩:=h
       refine Mu 36 (fun pp=> .slice pp l_.len l_.cap) hp_52 ?_
       refine Mi 28 h fun h=> ?_
       refine Mn [.sure] ?_
       refine Ml 30 h fun v40 hc h=> ?_
       refine Mn [.sure,.sure,.plain,.plain,.plain,.plain] ?_
       refine Mspl 44 h (fun h=> ?_) fun h=> ?_
       ·refine Mf [.skip,.skip,.skip,.skip,.skip,.plain] [0,3,52] ?_
        exact⟨_,Sub.mk K_,true,rfl,h⟩
       ·obtain⟨hp_53,h⟩:=h
        refine Mu 45 (fun pp=> .slice pp l_.len l_.cap) hp_53 ?_
        refine Mi 37 h fun h=> ?_
        refine Mn [.sure] ?_
        refine Ml 39 h fun v49 hc h=> ?_
        refine zo (op:=(Op.call (Call.mk (Callee.value (Operand.func 180)) #[(Operand.tmp 49)] #[126]))) (ty:=25) (dst:=some 50) 40 [34,39,25,33,38,10,24,32,37,7,9,23,31,35,36,5,6,8,22,30,4,16,21,29,3,15,20,28,2,14,19,26,27,0,1,11,13,17,18,12] [] 180 #[sv_ v49] K_ K_ K_ K_ K_ (fun ww=>by kernel_rfl) (Calls.mono h ?_)
        rintro _ w5 ⟨v50,rfl,h⟩
        refine⟨_,rfl,trivial,?_⟩
        refine Mf [.sure,.plain] [0,3,52] ?_
        exact⟨_,Sub.mk K_,(v50 != 0),rfl,h⟩
     ·refine Mn [.skip,.skip,.skip,.skip,.skip,.skip,.skip,.skip,.skip,.sure,.plain,.plain,.sure,.sure] ?_
      obtain⟨hp_54,h⟩:=h
      refine Mu 36 (fun pp=> .slice pp l_.len l_.cap) hp_54 ?_
      refine Mi 28 h fun h=> ?_
      refine Mn [.sure] ?_
      refine Ml 30 h fun v401 hc h=> ?_
      refine Mn [.sure,.sure,.plain,.plain,.plain,.plain] ?_
      refine Mspl 44 h (fun h=> ?_) fun h=> ?_
      ·refine Mf [.skip,.skip,.skip,.skip,.skip,.plain] [0,3,52] ?_
       exact⟨_,Sub.mk K_,true,rfl,h⟩
      ·obtain⟨hp_55,h⟩:=h
       refine Mu 45 (fun pp=> .slice pp l_.len l_.cap) hp_55 ?_
       refine Mi 37 h fun h=> ?_
       refine Mn [.sure] ?_
       refine Ml 39 h fun v491 hc h=> ?_
       refine zo (op:=(Op.call (Call.mk (Callee.value (Operand.func 180)) #[(Operand.tmp 49)] #[126]))) (ty:=25) (dst:=some 50) 40 [34,39,25,33,38,10,24,32,37,7,9,23,31,35,36,5,6,8,22,30,4,16,21,29,3,15,20,28,2,14,19,26,27,0,1,11,13,17,18,12] [] 180 #[sv_ v491] K_ K_ K_ K_ K_ (fun ww=>by kernel_rfl) (Calls.mono h ?_)
       rintro _ w6 ⟨v501,rfl,h⟩
       refine⟨_,rfl,trivial,?_⟩
       refine Mf [.sure,.plain] [0,3,52] ?_
       exact⟨_,Sub.mk K_,(v501 != 0),rfl,h⟩
   ·rintro _ w2 ⟨t52,rfl,h⟩
    unfold F_a at h
    refine Yc h (fun h=> ?_) fun h=> ?_
    ·refine Yp P1 [2] ?_
     exact YS ⟨false,rfl,h⟩
    ·refine zg (Yr (Yf P3 [0,3] ?_))
     have hb_:=again__h _ _ h
     exact⟨_,hb_.2,_,Sub.mk K_,(IntKind.i64.wrap (i+1)),rfl,hb_.1,rfl⟩
  ·refine zM 0 (Yp P1 [2] ?_)
   exact YS ⟨true,rfl,h⟩
end
end Go.Proofs.YtjlfdepkphibgaaGreatDoor
