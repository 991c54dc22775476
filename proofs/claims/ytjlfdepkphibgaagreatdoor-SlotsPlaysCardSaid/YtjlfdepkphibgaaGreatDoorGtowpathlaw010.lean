/- WRITTEN BY PROGRAM (dec.py): for each Go function the clean formula F, the call's contract C, and the proof S that F gives C. -/
import Derived.Test.YtjlfdepkphibgaaGreatDoorRows
import Derived.Test.YtjlfdepkphibgaaGreatDoorGF
namespace Go.Proofs.YtjlfdepkphibgaaGreatDoor
open Go
set_option linter.unusedVariables false
set_option maxRecDepth 100000
set_option maxHeartbeats 4000000
noncomputable section

/-! ### (*towpath/towpathlaw01.Book).Apart (function 10) -/

theorem S_gb {b_:OA} {w:World} {R:Bool→WP} (h:F_hd b_ R w):C_h b_ w R:=by
 unfold F_hd at h
 refine Yh Tryz.func10 ?_
 ·refine Yp P1 [0] (Yt (Yn P1 ?_))
  refine Ym0 h fun w1 h=> ?_
  refine Yf [] [0] (Yt (Yn P1 ?_))
  refine Ym0 h fun w2 h=> ?_
  refine Yf [] [0] (Yt (Yn P1 ?_))
  refine Ym0 h fun w3 h=> ?_
  refine Yf [] [0] (Yt (Yn P1 ?_))
  refine Ym0 h fun w4 h=> ?_
  refine Yf [] [0] (Yt (Yn P1 ?_))
  refine Ym0 h fun w5 h=> ?_
  refine Yf [] [0] (Yt (Yn P1 ?_))
  refine Ym0 h fun w6 h=> ?_
  refine Yf [] [0] (Yt (Yn P1 ?_))
  refine Ym0 h fun w7 h=> ?_
  refine Yf [] [0] (Yt (Yn P1 ?_))
  refine Ym0 h fun w8 h=> ?_
  refine Yf [] [0] (Yt (Yn P1 ?_))
  refine Ym0 h fun w9 h=> ?_
  refine Yf [] [0] (Yt (Yn P1 ?_))
  refine Ym0 h fun w10 h=> ?_
  refine Yf [] [0] (Yt (Yn P1 ?_))
  refine Ym0 h fun w11 h=> ?_
  refine Yf [] [0] (Yt (Yn P1 ?_))
  refine Ym0 h fun w12 h=> ?_
  refine Yf [] [0] (Yt (Yn P1 ?_))
  refine Ym0 h fun w13 h=> ?_
  refine Yf [] [0] (Yt (Yn P1 ?_))
  refine Ym0 h fun w14 h=> ?_
  refine Yf [] [0] (Yt (Yn P1 ?_))
  refine Ym0 h fun w15 h=> ?_
  refine Yf [] [0] (Yt (Yn P1 ?_))
  refine Ym0 h fun w16 h=> ?_
  refine Yf [] [0] (Yt (Yn P1 ?_))
  refine Ym0 h fun w17 h=> ?_
  refine Yf [] [0] (Yt (Yn P1 ?_))
  refine Ym0 h fun w18 h=> ?_
  refine Yf [] [0] (Yt (Yn P1 ?_))
  refine Ym0 h fun w19 h=> ?_
  refine Yf [] [0] (Yt (Yn P1 ?_))
  refine Ym0 h fun w20 h=> ?_
  refine Yf [] [0] (Yt (Yn P1 ?_))
  refine Ym0 h fun w21 h=> ?_
  refine Yf [] [0] (Yt (Yn P1 ?_))
  refine Ym0 h fun w22 h=> ?_
  refine Yf [] [0] (Yt (Yn P1 ?_))
  refine Ym1 h fun v48 w23 h=> ?_
  refine Yn P2 ?_
  refine Yspl 49 h (fun h=> ?_) fun h=> ?_
  ·refine Ym1 h fun v51 w24 h=> ?_
   refine Yn P3 ?_
   refine Yspl 53 h (fun h=> ?_) fun h=> ?_
   ·refine Ym1 h fun v55 w25 h=> ?_
    refine Yn P3 ?_
    refine Yspl 57 h (fun h=> ?_) fun h=> ?_
    ·refine Ym1 h fun v59 w26 h=> ?_
     refine Yn P3 ?_
     refine Yspl 61 h (fun h=> ?_) fun h=> ?_
     ·refine Ym1 h fun v63 w27 h=> ?_
      refine Yn P3 ?_
      refine Yspl 65 h (fun h=> ?_) fun h=> ?_
      ·refine Ym1 h fun v67 w28 h=> ?_
       refine Yn P3 ?_
       refine Yspl 69 h (fun h=> ?_) fun h=> ?_
       ·refine Ym1 h fun v71 w29 h=> ?_
        refine Yn P3 ?_
        refine Yspl 73 h (fun h=> ?_) fun h=> ?_
        ·refine Ym1 h fun v75 w30 h=> ?_
         refine Yn P3 ?_
         refine Yspl 77 h (fun h=> ?_) fun h=> ?_
         ·refine Ym1 h fun v79 w31 h=> ?_
          refine Yn P3 ?_
          refine Yspl 81 h (fun h=> ?_) fun h=> ?_
          ·refine Ym1 h fun v83 w32 h=> ?_
           refine Yn P3 ?_
           refine Yspl 85 h (fun h=> ?_) fun h=> ?_
           ·refine Ym1 h fun v87 w33 h=> ?_
            refine Yf P2 [2] ?_
            exact YS ⟨v87,rfl,h⟩
           ·refine Yf [.skip,.plain,.plain] [2] ?_
            exact YS ⟨false,rfl,h⟩
          ·refine Yf [.skip,.plain,.plain,.skip,.skip,.plain,.plain] [2] ?_
           exact YS ⟨false,rfl,h⟩
         ·refine Yf [.skip,.plain,.plain,.skip,.skip,.plain,.plain,.skip,.skip,.plain,.plain] [2] ?_
          exact YS ⟨false,rfl,h⟩
        ·refine Yf [.skip,.plain,.plain,.skip,.skip,.plain,.plain,.skip,.skip,.plain,.plain,.skip,.skip,.plain,.plain] [2] ?_
         exact YS ⟨false,rfl,h⟩
       ·refine Yf [.skip,.plain,.plain,.skip,.skip,.plain,.plain,.skip,.skip,.plain,.plain,.skip,.skip,.plain,.plain,.skip,.skip,.plain,.plain] [2] ?_
        exact YS ⟨false,rfl,h⟩
      ·refine Yf [.skip,.plain,.plain,.skip,.skip,.plain,.plain,.skip,.skip,.plain,.plain,.skip,.skip,.plain,.plain,.skip,.skip,.plain,.plain,.skip,.skip,.plain,.plain] [2] ?_
       exact YS ⟨false,rfl,h⟩
     ·refine Yf [.skip,.plain,.plain,.skip,.skip,.plain,.plain,.skip,.skip,.plain,.plain,.skip,.skip,.plain,.plain,.skip,.skip,.plain,.plain,.skip,.skip,.plain,.plain,.skip,.skip,.plain,.plain] [2] ?_
      exact YS ⟨false,rfl,h⟩
    ·refine Yf [.skip,.plain,.plain,.skip,.skip,.plain,.plain,.skip,.skip,.plain,.plain,.skip,.skip,.plain,.plain,.skip,.skip,.plain,.plain,.skip,.skip,.plain,.plain,.skip,.skip,.plain,.plain,.skip,.skip,.plain,.plain] [2] ?_
     exact YS ⟨false,rfl,h⟩
   ·refine Yf [.skip,.plain,.plain,.skip,.skip,.plain,.plain,.skip,.skip,.plain,.plain,.skip,.skip,.plain,.plain,.skip,.skip,.plain,.plain,.skip,.skip,.plain,.plain,.skip,.skip,.plain,.plain,.skip,.skip,.plain,.plain,.skip,.skip,.plain,.plain] [2] ?_
    exact YS ⟨false,rfl,h⟩
  ·refine Yf [.skip,.plain,.plain,.skip,.skip,.plain,.plain,.skip,.skip,.plain,.plain,.skip,.skip,.plain,.plain,.skip,.skip,.plain,.plain,.skip,.skip,.plain,.plain,.skip,.skip,.plain,.plain,.skip,.skip,.plain,.plain,.skip,.skip,.plain,.plain,.skip,.skip,.plain,.plain] [2] ?_
   exact YS ⟨false,rfl,h⟩

/-! ### towpath/towpathlaw01.SavedSize (function 13) -/
def zSt:=cb_ Tryz.f13
def zTt:=cr_ zSt
def zUt:=cl_ zTt
def zVt:=co_ zUt

theorem S_rb {s:T_b} {w:World} {R:Int→WP} (h:F_rd s R w):C_Lb s w R:=by
 unfold F_rd at h
 refine Yh Tryz.func13 ?_
 ·refine Yt ?_
  refine Yw pv_ h fun b_ w1 h=> ?_
  refine Yf P1 [1] (Ys ?_)
  refine zO (id:=1) (ops:=zVt) K_ K_ K_ ?_
  refine Qn P1 ?_
  refine Ql h fun v4 h=> ?_
  refine Qn P2 ?_
  refine Ql h fun v7 h=> ?_
  obtain⟨v8,hq,h⟩:=h
  refine zLb (op:=(Op.call (Call.mk (Callee.value (Operand.func 72)) #[(Operand.tmp 7)] #[57]))) (ty:=3) (dst:=some 8) 72 #[sv_ v7] (Vi v8) K_ (fun ww=>by kernel_rfl) (fun w' he=>Calls.mono (hq w' he) (by rintro _ w'' ⟨_,rfl,rfl,hE⟩; exact⟨rfl,hE⟩)) ?_
  clear hq
  refine Qf P2 [2] h fun w3 h=> ?_
  exact YS ⟨(IntKind.i64.wrap (((v4.len:Nat):Int)+v8)),rfl,h⟩

/-! ### towpath/towpathlaw01.TwinSaved (function 14) -/
def zWt:=cb_ Tryz.f14
def zXt:=cr_ zWt
def zYt:=cl_ zXt
def zZt:=co_ zYt
def zyc:List Nat:=[0,1,2,3,5,6,4,7,8,9]

theorem S_sb {x:T_b} {w:World} {R:T_b→WP} (h:F_sd x R w):C_Mb x w R:=by
 unfold F_sd at h
 refine Yh Tryz.func14 ?_
 ·refine Yt ?_
  refine Yw pv_ h fun b_ w1 h=> ?_
  refine Yw pv_ h fun b_1 w2 h=> ?_
  refine Yf [] [1,2] (Ys ?_)
  refine zm (id:=1) (ops:=zZt) zyc K_ K_ K_ K_ (fun w3 hw=> ?_)
  replace h:=h w3 hw
  clear hw
  refine Mn P1 ?_
  refine Ml 1 h fun v4 hc h=> ?_
  refine Mn P1 ?_
  refine Ml 3 h fun v6 hc h=> ?_
  refine Mn P1 ?_
  refine Ml 6 h fun v9 hc h=> ?_
  refine zo (op:=(Op.call (Call.mk (Callee.value (Operand.func 73)) #[(Operand.tmp 6)] #[56]))) (ty:=56) (dst:=some 7) 4 [3,2] [(6,fun w'=>w'.cell? ⟨b_,2,none⟩=some (sv_ v9)),(1,fun w'=>w'.cell? ⟨b_,0,none⟩=some (Vi v4))] 73 #[sv_ v6] K_ K_ K_ K_ K_ (fun ww=>by kernel_rfl) (Calls.mono h ?_)
  rintro _ w4 ⟨v7,rfl,h⟩
  obtain⟨hk0,hk1,h⟩:=h
  refine⟨_,rfl,⟨hk0,hk1,trivial⟩,?_⟩
  refine zo (op:=(Op.call (Call.mk (Callee.value (Operand.func 74)) #[(Operand.tmp 9)] #[57]))) (ty:=57) (dst:=some 10) 7 [4,6,3,5,2] [(1,fun w'=>w'.cell? ⟨b_,0,none⟩=some (Vi v4))] 74 #[sv_ v9] K_ K_ K_ K_ K_ (fun ww=>by kernel_rfl) (Calls.mono h ?_)
  rintro _ w5 ⟨v10,rfl,h⟩
  obtain⟨hk0,h⟩:=h
  refine⟨_,rfl,⟨hk0,trivial⟩,?_⟩
  refine Mn P1 ?_
  refine zoc 9 [0,1,2,3,4,5,6,7,8] [] h fun w6 h=> ?_
  refine⟨trivial,?_⟩
  refine Mf [] [2] ?_
  obtain⟨res,hc_res,h⟩:=h
  exact YSg (rs:=[(ResultVar.cell 2 59)]) (v:=Value.agg #[Vi res.Mark,sv_ res.Beyond,sv_ res.Held]) (⟨b_1,0,[Vi res.Mark,sv_ res.Beyond,sv_ res.Held],K_,hc_res,(zx (k:=3) K_ K_),.inl ⟨K_,rfl⟩,trivial⟩) ⟨res,rfl,h⟩

/-! ### towpath/towpathlaw01.LeftSaved (function 17) -/

theorem S_tb {t_:T_b} {x:T_b} {w:World} {R:Bool→WP} (h:F_td t_ x R w):C_Nb t_ x w R:=by
 unfold F_td at h
 refine Yh Tryz.func17 ?_
 ·refine Yt ?_
  refine Yw pv_ h fun b_ w1 h=> ?_
  refine Yw pv_ h fun b_1 w2 h=> ?_
  refine Yf P1 [2,3] (Yt (Yn P1 ?_))
  refine Yl h fun v6 h=> ?_
  refine Yn P1 ?_
  refine Yl h fun v8 h=> ?_
  refine Yn P3 ?_
  refine Yspl 10 h (fun h=> ?_) fun h=> ?_
  ·refine Yl h fun v12 h=> ?_
   refine Yn [.sure] ?_
   refine Yl h fun v14 h=> ?_
   refine Ym1 h fun v15 w3 h=> ?_
   refine Yn P3 ?_
   refine Yspl 17 h (fun h=> ?_) fun h=> ?_
   ·refine Yl h fun v19 h=> ?_
    refine Yn [.sure] ?_
    refine Yl h fun v21 h=> ?_
    refine Ym1 h fun v22 w4 h=> ?_
    refine Yf P2 [4] ?_
    exact YS ⟨v22,rfl,h⟩
   ·refine Yf [.skip,.skip,.skip,.skip,.plain,.plain] [4] ?_
    exact YS ⟨false,rfl,h⟩
  ·refine Yf [.skip,.skip,.skip,.skip,.plain,.plain,.skip,.skip,.skip,.skip,.skip,.plain,.plain] [4] ?_
   exact YS ⟨false,rfl,h⟩

/-! ### (*towpath/towpathlaw01.Book).Saved (function 18) -/

theorem S_hb {b_:OA} {s:T_b} {w:World} {R:WP} (h:F_id b_ s R w):C_n b_ s w R:=by
 unfold F_id at h
 refine Yh Tryz.func18 ?_
 ·refine Yt ?_
  refine Yw pv_ h fun b_1 w1 h=> ?_
  refine Yf [] [0,3] (Yt (Yn P2 ?_))
  refine Yl h fun v6 h=> ?_
  refine Ym0 h fun w2 h=> ?_
  refine Yf [] [0,3] (Yr (Yn P2 ?_))
  refine Yl h fun v10 h=> ?_
  refine Ym0 h fun w3 h=> ?_
  refine Yf [] [] ?_
  repeat (first | refine zK ?_ | refine zA ?_ | refine zL ?_ | refine zB ?_ | refine zv K_ ?_)
  refine zw ?_
  repeat (first | refine zC ?_ | refine zp ?_ | refine zu ?_ | refine zE ?_)
  exact retT (rs:=[]) (vs:=[]) K_ (trivial) K_ ⟨rfl,h⟩

/-! ### towpath/towpathlaw01.SameSaved (function 30) -/

theorem S_ub {a_:T_b} {b_:T_b} {w:World} {R:Bool→WP} (h:F_ud a_ b_ R w):C_Pb a_ b_ w R:=by
 unfold F_ud at h
 refine Yh Tryz.func30 ?_
 ·refine Yt ?_
  refine Yw pv_ h fun b_1 w1 h=> ?_
  refine Yw pv_ h fun b_2 w2 h=> ?_
  refine Yf P1 [2,3] (Yt (Yn P1 ?_))
  refine Yl h fun v6 h=> ?_
  refine Yn P1 ?_
  refine Yl h fun v8 h=> ?_
  refine Yn P3 ?_
  refine Yspl 10 h (fun h=> ?_) fun h=> ?_
  ·refine Yl h fun v12 h=> ?_
   refine Yn [.sure] ?_
   refine Yl h fun v14 h=> ?_
   refine Ym1 h fun v15 w3 h=> ?_
   refine Yn P3 ?_
   refine Yspl 17 h (fun h=> ?_) fun h=> ?_
   ·refine Yl h fun v19 h=> ?_
    refine Yn [.sure] ?_
    refine Yl h fun v21 h=> ?_
    refine Ym1 h fun v22 w4 h=> ?_
    refine Yf P2 [4] ?_
    exact YS ⟨v22,rfl,h⟩
   ·refine Yf [.skip,.skip,.skip,.skip,.plain,.plain] [4] ?_
    exact YS ⟨false,rfl,h⟩
  ·refine Yf [.skip,.skip,.skip,.skip,.plain,.plain,.skip,.skip,.skip,.skip,.skip,.plain,.plain] [4] ?_
   exact YS ⟨false,rfl,h⟩

/-! ### towpath/towpathlaw01.SameBytes (function 38) -/
def z0t:=cb_ Tryz.f38
def z1t:=cr_ z0t
def zkp:=cr_ z1t
def zlp:=cl_ zkp
def zmp:=cr_ zlp
def znp:=cl_ zmp
def zop:=cl_ znp
def zpp:=cr_ zop
def zqp:=cl_ zpp
def zrp:=cl_ zqp
def zsp:=cl_ zrp
def ztp:=co_ zsp

theorem S_vb {a_:Slc} {b_:Slc} {w:World} {R:Bool→WP} (h:F_vd a_ b_ R w):C_Rb a_ b_ w R:=by
 unfold F_vd at h
 refine Yh Tryz.func38 ?_
 ·refine Yp P1 [0,1] (Ys (Yp (Pl 5) [0,1,10] ?_))
  refine Yc h (fun h=> ?_) fun h=> ?_
  ·refine Yp P1 [4] ?_
   exact YS ⟨false,rfl,h⟩
  ·refine zg (Ys (Yp P1 [0,1,5] (Yd 0 ?_)))
   obtain⟨I,μ,h0,hr⟩:=h
   refine zN (fun m l w=>∃(i:Int),l=[(0,sv_ a_),(1,sv_ b_),(5,Vi i)]∧I i w∧μ i w=m) ⟨0,rfl,h0,rfl⟩ ?_
   rintro _ _ w1 ⟨i,rfl,hI,rfl⟩
   obtain⟨again_,again__h,h⟩:∃ again_:Int→WP,(∀ i' w',again_ i' w'→I i' w'∧μ i' w'<μ i w1)∧F_Mb a_ b_ R again_ i w1:=⟨_,fun _ _ h=>h,hr i w1 hI⟩
   clear h0 hI
   unfold F_Mb at h
   refine Ys (Yp P4 [0,1,5,14] ?_)
   refine Yc h (fun h=> ?_) fun h=> ?_
   ·refine zg (Ys (Yd 1 (Ys ?_)))
    refine zO (id:=6) (ops:=ztp) K_ K_ K_ ?_
    refine Qn P2 ?_
    obtain⟨hp_14,h⟩:=h
    refine Qu 17 (fun pp=> .slice pp a_.len a_.cap) hp_14 ?_
    refine Qi1 h fun h=> ?_
    refine Ql h fun v20 h=> ?_
    refine Qn P2 ?_
    obtain⟨hp_15,h⟩:=h
    refine Qu 21 (fun pp=> .slice pp b_.len b_.cap) hp_15 ?_
    refine Qi1 h fun h=> ?_
    refine Ql h fun v24 h=> ?_
    refine Qf P1 [0,1,5,25] h fun w2 h=> ?_
    refine Yc h (fun h=> ?_) fun h=> ?_
    ·refine Yp P1 [4] ?_
     exact YS ⟨false,rfl,h⟩
    ·refine zg (Yr (Yf P3 [0,1,5] ?_))
     have hb_:=again__h _ _ h
     exact⟨_,hb_.2,_,Sub.mk K_,(IntKind.i64.wrap (i+1)),rfl,hb_.1,rfl⟩
   ·refine zM 0 (Yp P1 [4] ?_)
    exact YS ⟨true,rfl,h⟩

/-! ### (*towpath/towpathlaw01.Book).fillByte (function 39) -/

theorem S_J {b_:OA} {w:World} {R:WP} (h:F_Cc b_ R w):C_bb b_ w R:=by
 unfold F_Cc at h
 refine Yh Tryz.func39 ?_
 ·refine Yp P1 [0,2] (Yd 0 ?_)
  obtain⟨I,μ,h0,hr⟩:=h
  refine zN (fun m l w=>∃(i:Int),l=[(0,Vp b_),(2,Vi i)]∧I i w∧μ i w=m) ⟨0,rfl,h0,rfl⟩ ?_
  rintro _ _ w1 ⟨i,rfl,hI,rfl⟩
  obtain⟨again_,again__h,h⟩:∃ again_:Int→WP,(∀ i' w',again_ i' w'→I i' w'∧μ i' w'<μ i w1)∧F_7 b_ R again_ i w1:=⟨_,fun _ _ h=>h,hr i w1 hI⟩
  clear h0 hI
  unfold F_7 at h
  refine Ys (Yt (Yn P2 ?_))
  refine Yv 6 h fun hp_3 h=> ?_
  refine Yn P1 (Yn P1 ?_)
  refine Yl h fun v9 h=> ?_
  refine Yf P2 [0,2,11] ?_
  refine Yc h (fun h=> ?_) fun h=> ?_
  ·exact h.elim
  ·refine zM 0 ?_
   repeat (first | refine zK ?_ | refine zA ?_ | refine zL ?_ | refine zB ?_ | refine zv K_ ?_)
   refine zw ?_
   repeat (first | refine zC ?_ | refine zp ?_ | refine zu ?_ | refine zE ?_)
   exact retT (rs:=[]) (vs:=[]) K_ (trivial) K_ ⟨rfl,h⟩

/-! ### (*towpath/towpathlaw01.Book).fillInt (function 40) -/
def z2t:=cb_ Tryz.f40
def z3t:=cr_ z2t
def z4t:=cl_ z3t
def z5t:=cl_ z4t
def zup:=cr_ z5t
def zvp:=cl_ zup
def zwp:=cl_ zvp
def zxp:=cr_ zwp
def zyp:=cr_ zxp
def zzp:=cl_ zyp
def zAp:=cl_ zzp
def zBp:=cr_ zAp
def zCp:=cl_ zBp
def zDp:=cl_ zCp
def zEp:=co_ zDp
def z7b:List Nat:=[0,1,2,3,4,5,6,7]

theorem S_V {b_:OA} {w:World} {R:WP} (h:F_Tc b_ R w):C_qb b_ w R:=by
 unfold F_Tc at h
 refine Yh Tryz.func40 ?_
 ·refine Yp P1 [0,2] (Yd 0 ?_)
  obtain⟨I,μ,h0,hr⟩:=h
  refine zN (fun m l w=>∃(i:Int),l=[(0,Vp b_),(2,Vi i)]∧I i w∧μ i w=m) ⟨0,rfl,h0,rfl⟩ ?_
  rintro _ _ w1 ⟨i,rfl,hI,rfl⟩
  obtain⟨again_,again__h,h⟩:∃ again_:Int→WP,(∀ i' w',again_ i' w'→I i' w'∧μ i' w'<μ i w1)∧F_mb b_ R again_ i w1:=⟨_,fun _ _ h=>h,hr i w1 hI⟩
  clear h0 hI
  unfold F_mb at h
  refine Ys (Yt (Yn P2 ?_))
  refine Yv 6 h fun hp_3 h=> ?_
  refine Yn P1 (Yn P1 ?_)
  refine Yl h fun v9 h=> ?_
  refine Yf P2 [0,2,11] ?_
  refine Yc h (fun h=> ?_) fun h=> ?_
  ·refine zg (Ys (Yd 1 (Yt (Yn P1 ?_))))
   refine Yv 14 h fun hp_12 h=> ?_
   refine Yn P1 (Yn P1 ?_)
   refine Yl h fun v17 h=> ?_
   refine Yn P1 ?_
   obtain⟨hp_13,h⟩:=h
   refine Yu 17 (fun pp=> .slice pp v17.len v17.cap) hp_13 ?_
   refine Yi h fun h=> ?_
   refine YL h fun v20 h=> ?_
   refine Yw pv_ h fun b_1 w2 h=> ?_
   refine Yo h fun w3 h=> ?_
   refine Yf [] [0,2,3] (Yp P1 [0,2,3,4] (Yd 2 ?_))
   obtain⟨I,μ,h0,hr⟩:=h
   refine zN (fun m l w=>∃(k_:Int),l=[(0,Vp b_),(2,Vi i),(3,pv_ b_1),(4,Vi k_)]∧I k_ w∧μ k_ w=m) ⟨0,rfl,h0,rfl⟩ ?_
   rintro _ _ w4 ⟨k_,rfl,hI,rfl⟩
   obtain⟨again_1,again_1_h,h⟩:∃ again_1:Int→WP,(∀ k_' w',again_1 k_' w'→I k_' w'∧μ k_' w'<μ k_ w4)∧F_lb i again_ b_1 again_1 k_ w4:=⟨_,fun _ _ h=>h,hr k_ w4 hI⟩
   clear h0 hI
   unfold F_lb at h
   refine Ys (Yt (Yn P2 ?_))
   refine Yl h fun v23 h=> ?_
   refine Yf P2 [0,2,3,4,25] ?_
   refine Yc h (fun h=> ?_) fun h=> ?_
   ·refine zg (Ys (Yd 3 ?_))
    refine zm (id:=7) (ops:=zEp) z7b K_ K_ K_ K_ (fun w5 hw=> ?_)
    replace h:=h w5 hw
    clear hw
    refine Mn P1 ?_
    refine Ml 1 h fun v29 hc h=> ?_
    refine Mn P2 ?_
    refine Ml 4 h fun v32 hc h=> ?_
    refine zo (op:=(Op.call (Call.mk (Callee.value (Operand.func 95)) #[(Operand.tmp 32)] #[3]))) (ty:=3) (dst:=some 33) 5 [4,3] [(1,fun w'=>w'.cell? ⟨b_1,0,none⟩=some (sv_ v29))] 95 #[Vi v32] K_ K_ K_ K_ K_ (fun ww=>by kernel_rfl) (Calls.mono h ?_)
    rintro _ w6 ⟨v33,rfl,h⟩
    obtain⟨hk0,h⟩:=h
    refine⟨_,rfl,⟨hk0,trivial⟩,?_⟩
    obtain⟨hp_15,h⟩:=h
    refine Mu 29 (fun pp=> .slice pp v29.len v29.cap) hp_15 ?_
    refine Mi1 6 h fun h=> ?_
    refine zoc 7 [0,1,2,3,4,5,6] [] h fun w7 h=> ?_
    refine⟨trivial,?_⟩
    refine Mf [] [0,2,3,4] ?_
    refine Yr (Yf P3 [0,2,3,4] ?_)
    have hb_:=again_1_h _ _ h
    exact⟨_,hb_.2,_,Sub.mk K_,(IntKind.i64.wrap (k_+1)),rfl,hb_.1,rfl⟩
   ·refine zM 2 (Yr (Yf P3 [0,2] ?_))
    have hb_:=again__h _ _ h
    exact⟨_,hb_.2,_,Sub.mk K_,(IntKind.i64.wrap (i+1)),rfl,hb_.1,rfl⟩
  ·refine zM 0 ?_
   repeat (first | refine zK ?_ | refine zA ?_ | refine zL ?_ | refine zB ?_ | refine zv K_ ?_)
   refine zw ?_
   repeat (first | refine zC ?_ | refine zp ?_ | refine zu ?_ | refine zE ?_)
   exact retT (rs:=[]) (vs:=[]) K_ (trivial) K_ ⟨rfl,h⟩

/-! ### (*towpath/towpathlaw01.Book).fillText (function 41) -/

theorem S_K {b_:OA} {w:World} {R:WP} (h:F_Dc b_ R w):C_cb b_ w R:=by
 unfold F_Dc at h
 refine Yh Tryz.func41 ?_
 ·refine Yp P1 [0,2] (Yd 0 ?_)
  obtain⟨I,μ,h0,hr⟩:=h
  refine zN (fun m l w=>∃(i:Int),l=[(0,Vp b_),(2,Vi i)]∧I i w∧μ i w=m) ⟨0,rfl,h0,rfl⟩ ?_
  rintro _ _ w1 ⟨i,rfl,hI,rfl⟩
  obtain⟨again_,again__h,h⟩:∃ again_:Int→WP,(∀ i' w',again_ i' w'→I i' w'∧μ i' w'<μ i w1)∧F_8 b_ R again_ i w1:=⟨_,fun _ _ h=>h,hr i w1 hI⟩
  clear h0 hI
  unfold F_8 at h
  refine Ys (Yt (Yn P2 ?_))
  refine Yv 6 h fun hp_3 h=> ?_
  refine Yn P1 (Yn P1 ?_)
  refine Yl h fun v9 h=> ?_
  refine Yf P2 [0,2,11] ?_
  refine Yc h (fun h=> ?_) fun h=> ?_
  ·exact h.elim
  ·refine zM 0 ?_
   repeat (first | refine zK ?_ | refine zA ?_ | refine zL ?_ | refine zB ?_ | refine zv K_ ?_)
   refine zw ?_
   repeat (first | refine zC ?_ | refine zp ?_ | refine zu ?_ | refine zE ?_)
   exact retT (rs:=[]) (vs:=[]) K_ (trivial) K_ ⟨rfl,h⟩

/-! ### (*towpath/towpathlaw01.Book).fillWrite (function 42) -/

theorem S_A {b_:OA} {w:World} {R:WP} (h:F_lc b_ R w):C_V b_ w R:=by
 unfold F_lc at h
 refine Yh Tryz.func42 ?_
 ·refine Yp P1 [0,2] (Yd 0 ?_)
  obtain⟨I,μ,h0,hr⟩:=h
  refine zN (fun m l w=>∃(i:Int),l=[(0,Vp b_),(2,Vi i)]∧I i w∧μ i w=m) ⟨0,rfl,h0,rfl⟩ ?_
  rintro _ _ w1 ⟨i,rfl,hI,rfl⟩
  obtain⟨again_,again__h,h⟩:∃ again_:Int→WP,(∀ i' w',again_ i' w'→I i' w'∧μ i' w'<μ i w1)∧F_W b_ R again_ i w1:=⟨_,fun _ _ h=>h,hr i w1 hI⟩
  clear h0 hI
  unfold F_W at h
  refine Ys (Yt (Yn P2 ?_))
  refine Yv 6 h fun hp_3 h=> ?_
  refine Yn P1 (Yn P1 ?_)
  refine Yl h fun v9 h=> ?_
  refine Yf P2 [0,2,11] ?_
  refine Yc h (fun h=> ?_) fun h=> ?_
  ·exact h.elim
  ·refine zM 0 ?_
   repeat (first | refine zK ?_ | refine zA ?_ | refine zL ?_ | refine zB ?_ | refine zv K_ ?_)
   refine zw ?_
   repeat (first | refine zC ?_ | refine zp ?_ | refine zu ?_ | refine zE ?_)
   exact retT (rs:=[]) (vs:=[]) K_ (trivial) K_ ⟨rfl,h⟩
end
end Go.Proofs.YtjlfdepkphibgaaGreatDoor
