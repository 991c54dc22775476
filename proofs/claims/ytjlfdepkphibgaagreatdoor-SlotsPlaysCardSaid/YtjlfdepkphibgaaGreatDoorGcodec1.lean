/- WRITTEN BY PROGRAM (dec.py): for each Go function the clean formula F, the call's contract C, and the proof S that F gives C. -/
import Derived.Test.YtjlfdepkphibgaaGreatDoorRows
import Derived.Test.YtjlfdepkphibgaaGreatDoorGF
namespace Go.Proofs.YtjlfdepkphibgaaGreatDoor
open Go
set_option linter.unusedVariables false
set_option maxRecDepth 100000
set_option maxHeartbeats 4000000
noncomputable section

/-! ### (*towpath/codec.Reader).Fixed$1 (function 184) -/
def z0r:=cb_ Tryz.f184
def z1r:=cr_ z0r
def z0m:=cr_ z1r
def z1m:=cl_ z0m
def z2m:=cr_ z1m
def z3m:=cl_ z2m
def z4m:=cl_ z3m
def z5m:=cr_ z4m
def z6m:=cl_ z5m
def z7m:=cl_ z6m
def z8m:=co_ z7m

theorem S_Rb {b_:Slc} {t1:OA} {t2:OA} {w:World} {R:Int→Int→WP} (h:F_Qd b_ t1 t2 R w):C_Nc b_ t1 t2 w R:=by
 unfold F_Qd at h
 refine Yh Tryz.func184 ?_
 ·refine Yp P2 [0,1,2] (Ys (Yd 0 ?_))
  refine Ycut (fun l w=>∃(t7:Bool),l=[(0,sv_ b_),(1,Vp t1),(2,Vp t2),(7,Vo t7)]∧F_l b_ t1 t2 R t7 w) ?_ ?_
  ·refine Yr ?_
   refine Yv 1 h fun hp_20 h=> ?_
   refine Yl h fun v8 h=> ?_
   refine Yn P2 ?_
   refine Yspl 10 h (fun h=> ?_) fun h=> ?_
   ·refine Yn [.skip,.skip,.plain,.plain] (Yu 1 (fun pp=> .pointer pp) hp_20.symm ?_)
    refine Yf [] [0,1,2,7] ?_
    exact⟨_,Sub.mk K_,true,rfl,h⟩
   ·refine Yl h fun v11 h=> ?_
    refine Yn [.sure,.plain,.plain] (Yu 1 (fun pp=> .pointer pp) hp_20.symm ?_)
    refine Yf [] [0,1,2,7] ?_
    exact⟨_,Sub.mk K_,(decide (v11>8)),rfl,h⟩
  ·rintro _ w1 ⟨t7,rfl,h⟩
   unfold F_l at h
   refine Yc h (fun h=> ?_) fun h=> ?_
   ·refine Yp P2 [4,5] ?_
    exact YT2 ⟨0,1,rfl,h⟩
   ·refine Yt ?_
    refine Yv 1 h fun hp_6 h=> ?_
    refine Yl h fun v15 h=> ?_
    refine Yn P4 (Yu 1 (fun pp=> .pointer pp) hp_6.symm ?_)
    refine Yf [] [0,1,2,14] ?_
    refine Yc h (fun h=> ?_) fun h=> ?_
    ·refine Yp P2 [4,5] ?_
     exact YT2 ⟨0,5,rfl,h⟩
    ·refine zg (Ys (Yt ?_))
     refine Yv 1 h fun hp_14 h=> ?_
     refine Yl h fun v19 h=> ?_
     refine Yn P2 (Yu 1 (fun pp=> .pointer pp) hp_14.symm ?_)
     refine Yf [] [0,1,2,6] (Yd 1 ?_)
     obtain⟨I,μ,h0,hr⟩:=h
     refine zN (fun m l w=>∃(i:Int),l=[(0,sv_ b_),(1,Vp t1),(2,Vp t2),(6,Vi i)]∧I i w∧μ i w=m) ⟨(IntKind.i64.wrap (v19 - 1)),rfl,h0,rfl⟩ ?_
     rintro _ _ w2 ⟨i,rfl,hI,rfl⟩
     obtain⟨again_,again__h,h⟩:∃ again_:Int→WP,(∀ i' w',again_ i' w'→I i' w'∧μ i' w'<μ i w2)∧F_6b b_ t1 t2 R again_ i w2:=⟨_,fun _ _ h=>h,hr i w2 hI⟩
     clear h0 hI
     unfold F_6b at h
     refine Ys (Yp P2 [0,1,2,6,22] ?_)
     refine Yc h (fun h=> ?_) fun h=> ?_
     ·refine zg (Ys (Yd 2 ?_))
      refine zsb (id:=8) (ops:=z8m) K_ 8 K_ K_ (fun w3 hw=> ?_)
      replace h:=h w3 hw
      clear hw
      refine Qv 2 h fun hp_17 h=> ?_
      refine Ql h fun v25 h=> ?_
      refine Qn P3 ?_
      obtain⟨hp_18,h⟩:=h
      refine Qu 27 (fun pp=> .slice pp b_.len b_.cap) hp_18 ?_
      refine Qi1 h fun h=> ?_
      refine Ql h fun v30 h=> ?_
      refine Qn P2 ?_
      refine zRc K_ ?_
      refine Yo h fun w4 h=> ?_
      refine Yu 2 (fun pp=> .pointer pp) hp_17.symm ?_
      refine Yf [] [0,1,2,6] (Yr (Yf P3 [0,1,2,6] ?_))
      have hb_:=again__h _ _ h
      exact⟨_,hb_.2,_,Sub.mk K_,(IntKind.i64.wrap (i - 1)),rfl,hb_.1,rfl⟩
     ·refine zM 1 (Yt ?_)
      refine Yv 1 h fun hp_19 h=> ?_
      refine Yl h fun v33 h=> ?_
      refine Yf P2 [4,5] ?_
      exact YT2 ⟨v33,0,rfl,h⟩

/-! ### (*towpath/codec.Reader).Text$1 (function 185) -/

theorem S_Tb {b_:Slc} {t1:OA} {t2:OA} {w:World} {R:Int→Int→WP} (h:F_Vd b_ t1 t2 R w):C_Pc b_ t1 t2 w R:=by
 unfold F_Vd at h
 refine Yh Tryz.func185 ?_
 ·refine Yp P2 [0,1,2] (Ys (Yt ?_))
  refine Yv 1 h fun hp_3 h=> ?_
  refine Yl h fun v9 h=> ?_
  refine Yn P1 (Yu 1 (fun pp=> .pointer pp) hp_3.symm ?_)
  refine Yf [] [0,1,2,10] ?_
  refine Yc h (fun h=> ?_) fun h=> ?_
  ·refine Yp P2 [4,5] ?_
   exact YT2 ⟨0,1,rfl,h⟩
  ·refine zg (Yt (Yn P1 ?_))
   refine Ym3 h fun n_ size e w1 h=> ?_
   refine Yf (Pl 7) [0,1,2,6,7,8] (Ys (Yd 0 (Yp P3 [0,1,2,6,7,8,17] ?_)))
   refine Yc h (fun h=> ?_) fun h=> ?_
   ·refine Yp P3 [4,5] ?_
    exact YT2 ⟨0,e,rfl,h⟩
   ·refine Yt (Yn P1 ?_)
    refine Yv 1 h fun hp_7 h=> ?_
    refine Yl h fun v23 h=> ?_
    refine Yf P3 [0,2,6,7,21] ?_
    refine Yc h (fun h=> ?_) fun h=> ?_
    ·refine Yp P2 [4,5] ?_
     exact YT2 ⟨0,3,rfl,h⟩
    ·refine Yp (Pl 8) [0,2,6,7,26] ?_
     refine Yc h (fun h=> ?_) fun h=> ?_
     ·refine Yp P2 [4,5] ?_
      exact YT2 ⟨0,5,rfl,h⟩
     ·refine zg (Yt (Yn (Pl 6) ?_))
      obtain⟨hc,h⟩:=h
      refine zte (t:=38) (e:=5) (x:=(Operand.tmp 34)) (lo:=(Operand.tmp 35)) (hi:=(Operand.tmp 39)) (s:=b_) (sz:=1) (k:= .i64) (a:=size) (k':= .i64) (b:=(IntKind.i64.wrap (size+(IntKind.i64.wrap n_)))) (ty:=38) (dst:=some 40) K_ K_ K_ K_ K_ K_ hc (fun s hs=> ?_)
      replace h:=h s hs
      clear hs
      obtain⟨str,hs,h⟩:=h
      refine zCe (t:=38) (d:=9) (e:=5) (x:=(Operand.tmp 40)) (s:=s) (ty:=9) (dst:=some 41) K_ K_ K_ K_ K_ hs ?_
      refine Yv 2 h fun hp_9 h=> ?_
      refine Yo h fun w2 h=> ?_
      refine Yf [] [6,7] (Yp (Pl 6) [4,5] ?_)
      exact YT2 ⟨(IntKind.i64.wrap (size+(IntKind.i64.wrap n_))),0,rfl,h⟩
end
end Go.Proofs.YtjlfdepkphibgaaGreatDoor
