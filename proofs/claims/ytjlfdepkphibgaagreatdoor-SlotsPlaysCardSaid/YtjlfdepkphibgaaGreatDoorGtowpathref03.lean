/- WRITTEN BY PROGRAM (dec.py): for each Go function the clean formula F, the call's contract C, and the proof S that F gives C. -/
import Derived.Test.YtjlfdepkphibgaaGreatDoorRows
import Derived.Test.YtjlfdepkphibgaaGreatDoorGF
namespace Go.Proofs.YtjlfdepkphibgaaGreatDoor
open Go
set_option linter.unusedVariables false
set_option maxRecDepth 100000
set_option maxHeartbeats 4000000
noncomputable section

/-! ### towpath/towpathref03.More (function 130) -/

theorem S_ic {sum:Int} {b_:Slc} {w:World} {R:Int→WP} (h:F_ie sum b_ R w):C_7 sum b_ w R:=by
 unfold F_ie at h
 refine Yh Tryz.func130 ?_
 ·refine Yp P1 [0,1] (Yp P3 [1,5] (Ys (Yp P1 [1,5,6] (Yd 0 ?_))))
  obtain⟨I,μ,h0,hr⟩:=h
  refine zN (fun m l w=>∃(c:Int) (i:Int),l=[(1,sv_ b_),(5,Value.int .u32 c),(6,Vi i)]∧I c i w∧μ c i w=m) ⟨(IntKind.u32.wrap (4294967295 - sum)),0,rfl,h0,rfl⟩ ?_
  rintro _ _ w1 ⟨c,i,rfl,hI,rfl⟩
  obtain⟨again_,again__h,h⟩:∃ again_:Int→Int→WP,(∀ c' i' w',again_ c' i' w'→I c' i' w'∧μ c' i' w'<μ c i w1)∧F_Qc b_ R again_ c i w1:=⟨_,fun _ _ _ h=>h,hr c i w1 hI⟩
  clear h0 hI
  unfold F_Qc at h
  refine Ys (Yp P4 [1,5,6,14] ?_)
  refine Yc h (fun h=> ?_) fun h=> ?_
  ·refine zg (Ys (Yd 1 (Yt (Yn P3 ?_))))
   obtain⟨hp_7,h⟩:=h
   refine Yu 18 (fun pp=> .slice pp b_.len b_.cap) hp_7 ?_
   refine Yi1 h fun h=> ?_
   refine Yl h fun v21 h=> ?_
   refine Yf P3 [1,5,6] (Yp P1 [1,5,6,7] (Yd 2 ?_))
   obtain⟨I,μ,h0,hr⟩:=h
   refine zN (fun m l w=>∃(c1:Int) (k_:Int),l=[(1,sv_ b_),(5,Value.int .u32 c1),(6,Vi i),(7,Vi k_)]∧I c1 k_ w∧μ c1 k_ w=m) ⟨(bxor .u32 c (IntKind.u32.wrap v21)),0,rfl,h0,rfl⟩ ?_
   rintro _ _ w2 ⟨c1,k_,rfl,hI,rfl⟩
   obtain⟨again_1,again_1_h,h⟩:∃ again_1:Int→Int→WP,(∀ c1' k_' w',again_1 c1' k_' w'→I c1' k_' w'∧μ c1' k_' w'<μ c1 k_ w2)∧F_Pc i again_ again_1 c1 k_ w2:=⟨_,fun _ _ _ h=>h,hr c1 k_ w2 hI⟩
   clear h0 hI
   unfold F_Pc at h
   refine Ys (Yp P2 [1,5,6,7,25] ?_)
   refine Yc h (fun h=> ?_) fun h=> ?_
   ·refine zg ?_
    refine Ycut (fun l w=>∃(c2:Int),l=[(1,sv_ b_),(5,Value.int .u32 c2),(6,Vi i),(7,Vi k_)]∧F_jb k_ again_1 c2 w) ?_ ?_
    ·refine Yd 3 (Yp P4 [1,5,6,7,8] (Yp P3 [1,5,6,7,8] (Yp P1 [1,5,6,7,33] ?_)))
     refine Yc h (fun h=> ?_) fun h=> ?_
     ·refine Yr (Yf P3 [1,5,6,7] ?_)
      exact⟨_,Sub.mk K_,(bxor .u32 (IntKind.u32.wrap (Int.tdiv c1 2)) 2197175160),rfl,h⟩
     ·refine zg ?_
      exact⟨_,Sub.mk K_,(IntKind.u32.wrap (Int.tdiv c1 2)),rfl,h⟩
    ·rintro _ w3 ⟨c2,rfl,h⟩
     unfold F_jb at h
     refine Yr (Yf P3 [1,5,6,7] ?_)
     have hb_:=again_1_h _ _ _ h
     exact⟨_,hb_.2,_,Sub.mk K_,c2,(IntKind.i64.wrap (k_+1)),rfl,hb_.1,rfl⟩
   ·refine zM 2 (Yr (Yf P3 [1,5,6] ?_))
    have hb_:=again__h _ _ _ h
    exact⟨_,hb_.2,_,Sub.mk K_,c1,(IntKind.i64.wrap (i+1)),rfl,hb_.1,rfl⟩
  ·refine zM 0 (Yp P3 [4] ?_)
   exact YS ⟨(IntKind.u32.wrap (4294967295 - c)),rfl,h⟩

/-! ### towpath/towpathref03.CRC (function 131) -/

theorem S_tc {b_:Slc} {w:World} {R:Int→WP} (h:F_te b_ R w):C_7b b_ w R:=by
 unfold F_te at h
 refine Yh Tryz.func131 ?_
 ·refine Yp P1 [0] (Yt (Yn P1 ?_))
  refine Ym1 h fun v4 w1 h=> ?_
  refine Yf P1 [2] ?_
  exact YS ⟨v4,rfl,h⟩
end
end Go.Proofs.YtjlfdepkphibgaaGreatDoor
