/- WRITTEN BY PROGRAM (dec.py): for each Go function the clean formula F, the call's contract C, and the proof S that F gives C. -/
import Derived.Test.YtofjmclceflgiaaGreatRows
import Derived.Test.YtofjmclceflgiaaGreatGF
namespace Go.Proofs.YtofjmclceflgiaaGreat
open Go
set_option linter.unusedVariables false
set_option maxRecDepth 100000
set_option maxHeartbeats 4000000
noncomputable section

/-! ### maps.Keys[map[string]string,string,string] (function 49) -/

theorem S_d {m_:Option Nat} {w:World} {R:Value→WP} (h:F_Z m_ R w):C_f m_ w R:=by
 unfold F_Z at h
 refine Yh Tryz.func49 ?_
 ·refine Yt ?_
  refine Yw pv_ h fun b_ w1 h=> ?_
  refine Yf P1 [1] (Yp P2 [2] ?_)
  exact YS ⟨(Value.func (.func 76) #[] #[pv_ b_]),rfl,h⟩

/-! ### maps.Keys[map[string][]towpath/api.Version,string,[]towpath/api.Version] (function 138) -/

theorem S_c {m_:Option Nat} {w:World} {R:Value→WP} (h:F_v m_ R w):C_d m_ w R:=by
 unfold F_v at h
 refine Yh Tryz.func138 ?_
 ·refine Yt ?_
  refine Yw pv_ h fun b_ w1 h=> ?_
  refine Yf P1 [1] (Yp P2 [2] ?_)
  exact YS ⟨(Value.func (.func 154) #[] #[pv_ b_]),rfl,h⟩
end
end Go.Proofs.YtofjmclceflgiaaGreat
