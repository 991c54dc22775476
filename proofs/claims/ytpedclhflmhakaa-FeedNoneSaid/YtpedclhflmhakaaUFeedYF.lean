/- Chapter 16: Fed. -/
import Derived.Test.YtpedclhflmhakaaUFeed
namespace Go.Proofs.Ytpedclhflmhakaa
open Go
set_option linter.unusedVariables false
set_option linter.unusedSimpArgs false

section
variable {w0 : Base} {w : World} {fr cs : List Chunk} {sp f : Option Addr} {m : Option FdM}
theorem sp_fd_Fed {R : Int → World → Prop} (o : FdO w0 sp m f cs) (st : St w0 (cs ++ fr) w) (k : R (fedM m) w) : C_feed_Feed_Fed f w R := by
  apply S_feed_Feed_Fed
  unfold F_feed_Feed_Fed
  refine sp_fd_there o st ⟨fun h => ?_, fun h => ?_⟩
  · cases m with
    | none => exact k
    | some m => cases h
  cases m with
  | none => cases h
  | some m =>
    obtain ⟨b, sb, rfl, rfl, mb, hp, hcs, scs, ok, rfl, hm, hs, hh⟩ := o
    exact ⟨rfl, _, st.cell 0 rfl rfl, k⟩

end
end Go.Proofs.Ytpedclhflmhakaa
