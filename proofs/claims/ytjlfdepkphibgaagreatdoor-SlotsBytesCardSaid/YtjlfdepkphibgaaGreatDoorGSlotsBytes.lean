/- WRITTEN BY PROGRAM (dec.py): for each Go function the clean formula F, the call's contract C, and the proof S that F gives C. -/
import Derived.Test.YtjlfdepkphibgaaGreatDoorRows
import Derived.Test.YtjlfdepkphibgaaGreatDoorGF
namespace Go.Proofs.YtjlfdepkphibgaaGreatDoor
open Go
set_option linter.unusedVariables false
set_option maxRecDepth 100000
set_option maxHeartbeats 4000000
noncomputable section

/-! ### towpath/towpathlaw19.SlotsBytes (function 4) -/

theorem S_ob {a_:Slc} {b_:Slc} {w:World} {R:Bool→WP} (h:F_9c a_ b_ R w):C_ic a_ b_ w R:=by
 unfold F_9c at h
 refine Yh Tryz.func4 ?_
 ·refine Yp P1 [0,1] (Ys (Yp [.plain,.plain,.plain,.plain,.plain,.plain,.plain,.pick] [0,1,21] ?_))
  refine Yc h (fun h=> ?_) fun h=> ?_
  ·refine Yp P1 [4] ?_
   exact YS ⟨true,rfl,h⟩
  ·refine zg (Yt ?_)
   refine Ym2 h fun d e w1 h=> ?_
   refine Yf (Pl 5) [0,1,5,6] (Yt ?_)
   refine Ym2 h fun r f w2 h=> ?_
   refine Yf (Pl 5) [0,1,5,6,7,8] (Ys (Yp [.plain,.plain,.plain,.plain,.plain,.pick] [0,1,5,7,35] ?_))
   refine Yc h (fun h=> ?_) fun h=> ?_
   ·refine Yp P1 [4] ?_
    exact YS ⟨false,rfl,h⟩
   ·refine zg (Yt (Yn P3 ?_))
    refine Yw pv_ h fun b_1 w3 h=> ?_
    refine Yf P1 [0,1,9] (Ys (Yp P1 [0,1,9,10] (Yd 0 ?_)))
    obtain⟨I,μ,h0,hr⟩:=h
    refine zM (fun m l w=>∃(n_:Int),l=[(0,sv_ a_),(1,sv_ b_),(9,pv_ b_1),(10,Vi n_)]∧I n_ w∧μ n_ w=m) ⟨0,rfl,h0,rfl⟩ ?_
    rintro _ _ w4 ⟨n_,rfl,hI,rfl⟩
    obtain⟨again_,again__h,h⟩:∃ again_:Int→WP,(∀ n_' w',again_ n_' w'→I n_' w'∧μ n_' w'<μ n_ w4)∧F_Fb a_ b_ R b_1 again_ n_ w4:=⟨_,fun _ _ h=>h,hr n_ w4 hI⟩
    clear h0 hI
    unfold F_Fb at h
    refine Ys (Yp P2 [0,1,9,10,41] ?_)
    refine Yc h (fun h=> ?_) fun h=> ?_
    ·refine zg (Ys (Yd 1 (Yp P2 [0,1,9,10,11] ?_)))
     refine Ycut (fun l w=>∃(x:Slc),l=[(0,sv_ a_),(1,sv_ b_),(9,pv_ b_1),(10,Vi n_),(11,sv_ x)]∧F_i R b_1 n_ again_ x w) ?_ ?_
     ·refine Yp P2 [0,1,9,10,11,46] ?_
      refine Yc h (fun h=> ?_) fun h=> ?_
      ·refine Yr (Yf P2 [0,1,9,10,11] ?_)
       exact⟨_,Sub.mk K_,b_,rfl,h⟩
      ·refine zg ?_
       exact⟨_,Sub.mk K_,a_,rfl,h⟩
     ·rintro _ w5 ⟨x,rfl,h⟩
      unfold F_i at h
      refine Yp P1 [0,1,9,10,11,12] (Yd 2 ?_)
      obtain⟨I,μ,h0,hr⟩:=h
      refine zM (fun m l w=>∃(at_:Int),l=[(0,sv_ a_),(1,sv_ b_),(9,pv_ b_1),(10,Vi n_),(11,sv_ x),(12,Vi at_)]∧I at_ w∧μ at_ w=m) ⟨0,rfl,h0,rfl⟩ ?_
      rintro _ _ w6 ⟨at_,rfl,hI,rfl⟩
      obtain⟨again_1,again_1_h,h⟩:∃ again_1:Int→WP,(∀ at_' w',again_1 at_' w'→I at_' w'∧μ at_' w'<μ at_ w6)∧F_Eb R b_1 n_ again_ x again_1 at_ w6:=⟨_,fun _ _ h=>h,hr at_ w6 hI⟩
      clear h0 hI
      unfold F_Eb at h
      refine Ys (Yp P4 [0,1,9,10,11,12,51] ?_)
      refine Yc h (fun h=> ?_) fun h=> ?_
      ·refine zg (Ys (Yd 3 (Yt (Yn (Pl 10) ?_))))
       obtain⟨hc,h⟩:=h
       refine zvd (t:=38) (e:=5) (x:=(Operand.tmp 57)) (lo:=(Operand.tmp 58)) (hi:=(Operand.tmp 63)) (s:=x) (sz:=1) (k:= .i64) (a:=at_) (k':= .i64) (b:=(if((x.len:Nat):Int)<(IntKind.i64.wrap (at_+64)) then((x.len:Nat):Int) else(IntKind.i64.wrap (at_+64)))) (ty:=38) (dst:=some 64) K_ K_ K_ K_ K_ K_ hc (fun s hs=> ?_)
       replace h:=h s hs
       clear hs
       refine Yn P1 ?_
       refine Ym1 h fun v66 w7 h=> ?_
       refine Yf P1 [0,1,9,10,11,12,67] ?_
       refine Yc h (fun h=> ?_) fun h=> ?_
       ·refine Yp P1 [4] ?_
        exact YS ⟨false,rfl,h⟩
       ·refine zg (Yr (Yf P3 [0,1,9,10,11,12] ?_))
        have hb_:=again_1_h _ _ h
        exact⟨_,hb_.2,_,Sub.mk K_,(IntKind.i64.wrap (at_+64)),rfl,hb_.1,rfl⟩
      ·refine zL 2 (Yr (Yf P3 [0,1,9,10] ?_))
       have hb_:=again__h _ _ h
       exact⟨_,hb_.2,_,Sub.mk K_,(IntKind.i64.wrap (n_+1)),rfl,hb_.1,rfl⟩
    ·refine zL 0 (Yt (Yn P1 ?_))
     refine Yw pv_ h fun b_2 w8 h=> ?_
     refine Yf P1 [9,13] (Yt (Yn P2 ?_))
     refine Ym1 h fun v72 w9 h=> ?_
     refine Yn P2 ?_
     refine Yspl 73 h (fun h=> ?_) fun h=> ?_
     ·refine Ym1 h fun v75 w10 h=> ?_
      refine Yn (Pl 5) ?_
      refine Yspl 77 h (fun h=> ?_) fun h=> ?_
      ·refine Ym1 h fun v81 w11 h=> ?_
       refine Yn P4 ?_
       refine Yspl 83 h (fun h=> ?_) fun h=> ?_
       ·refine Ym1 h fun v86 w12 h=> ?_
        refine Yn P4 ?_
        refine Yspl 88 h (fun h=> ?_) fun h=> ?_
        ·refine Ym1 h fun v91 w13 h=> ?_
         refine Yn P4 ?_
         refine Yspl 93 h (fun h=> ?_) fun h=> ?_
         ·refine Ym1 h fun v96 w14 h=> ?_
          refine Yf P2 [4] ?_
          exact YS ⟨v96,rfl,h⟩
         ·refine Yf [.skip,.plain,.plain] [4] ?_
          exact YS ⟨false,rfl,h⟩
        ·refine Yf [.skip,.plain,.plain,.skip,.skip,.skip,.plain,.plain] [4] ?_
         exact YS ⟨false,rfl,h⟩
       ·refine Yf [.skip,.plain,.plain,.skip,.skip,.skip,.plain,.plain,.skip,.skip,.skip,.plain,.plain] [4] ?_
        exact YS ⟨false,rfl,h⟩
      ·refine Yf [.skip,.plain,.plain,.skip,.skip,.skip,.plain,.plain,.skip,.skip,.skip,.plain,.plain,.skip,.skip,.skip,.plain,.plain] [4] ?_
       exact YS ⟨false,rfl,h⟩
     ·refine Yf [.skip,.plain,.plain,.skip,.skip,.skip,.skip,.plain,.plain,.skip,.skip,.skip,.plain,.plain,.skip,.skip,.skip,.plain,.plain,.skip,.skip,.skip,.plain,.plain] [4] ?_
      exact YS ⟨false,rfl,h⟩
end
end Go.Proofs.YtjlfdepkphibgaaGreatDoor
