/- WRITTEN BY PROGRAM (dec.py): for each Go function the clean formula F, the call's contract C, and the proof S that F gives C. -/
import Derived.Test.YtpdegdnigcnjiaaRows
import Derived.Test.YtpdegdnigcnjiaaGF
namespace Go.Proofs.Ytpdegdnigcnjiaa
open Go
set_option linter.unusedVariables false
set_option maxRecDepth 100000
set_option maxHeartbeats 4000000
noncomputable section

/-! ### towpath/towpathlaw18.alive (function 9) -/

theorem S_towpathlaw18_alive {w : World} {R : Bool → World → Prop} (h : F_towpathlaw18_alive R w) : C_towpathlaw18_alive w R := by
 unfold F_towpathlaw18_alive at h
 refine Yh Try.func9 ?_
 · refine Yp P1 [] ?_
   refine Yt ?_
   refine Ym1 h fun v6 w1 h => ?_
   refine Ym2 h fun b_ e w2 h => ?_
   refine Yf (Pl 5) [1, 2] ?_
   refine Yt ?_
   refine Yw (sl_ 2 2) h fun b_1 w3 h => ?_
   refine Ym2 h fun v12 f w4 h => ?_
   refine Yn P3 ?_
   refine Yw pv_ h fun b_2 w5 h => ?_
   refine Yo h fun w6 h => ?_
   refine Yf P1 [1, 2, 4] ?_
   refine Yt ?_
   refine Yn [.plain, .plain, .plain, .plain, .plain, .pick, .plain] ?_
   refine Yspl 21 h (fun h => ?_) fun h => ?_
   · refine Yw (sl_ 1 1) h fun b_3 w7 h => ?_
     refine Yn [.sure] ?_
     refine Ym1 h fun v24 w8 h => ?_
     refine Yn [.sure, .plain, .plain, .plain] ?_
     refine Yspl 27 h (fun h => ?_) fun h => ?_
     · refine Yw (sl_ 19 19) h fun b_4 w9 h => ?_
       refine Ym1 h fun v30 w10 h => ?_
       refine Yf P2 [0] ?_
       exact YS ⟨v30, rfl, h⟩
     · refine Yf [.skip, .skip, .plain, .plain] [0] ?_
       exact YS ⟨false, rfl, h⟩
   · refine Yf [.skip, .skip, .skip, .skip, .plain, .plain, .skip, .skip, .skip, .plain, .plain] [0] ?_
     exact YS ⟨false, rfl, h⟩

/-! ### towpath/towpathlaw18.sample (function 36) -/

theorem S_towpathlaw18_sample {w : World} {R : T_api_Saved → World → Prop} (h : F_towpathlaw18_sample R w) : C_towpathlaw18_sample w R := by
 unfold F_towpathlaw18_sample at h
 refine Yh Try.func36 ?_
 · refine Yt ?_
   refine Yw pv_ h fun b_ w1 h => ?_
   refine Yf [] [0] ?_
   refine Yt ?_
   refine Yw (sl_ 1 1) h fun b_1 w2 h => ?_
   refine Yn P2 ?_
   refine Yw (sl_ 2 2) h fun b_2 w3 h => ?_
   refine Yn P2 ?_
   refine Yw (sl_ 1 1) h fun b_3 w4 h => ?_
   refine Yn P1 ?_
   refine Yw (sl_ 2 2) h fun b_4 w5 h => ?_
   refine Yn P1 ?_
   refine Yo h fun w6 h => ?_
   refine Yf [] [0] ?_
   obtain ⟨res, hc_res, h⟩ := h
   exact YSg (rs := [(ResultVar.cell 0 28)]) (v := Value.agg #[Value.int .i64 res.Mark, sv_ res.Beyond, sv_ res.Held]) (⟨b_, 0, [Value.int .i64 res.Mark, sv_ res.Beyond, sv_ res.Held], by kernel_rfl, hc_res, (sizeP_of (k := 3) (by kernel_rfl) (by kernel_rfl)), .inl ⟨by kernel_rfl, rfl⟩, trivial⟩) ⟨res, rfl, h⟩
end
end Go.Proofs.Ytpdegdnigcnjiaa
