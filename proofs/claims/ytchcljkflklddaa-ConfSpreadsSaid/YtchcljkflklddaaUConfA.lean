/- Chapter 13: the fixed answers. -/
import Derived.Test.YtchcljkflklddaaUConfT
import Derived.Test.YtchcljkflklddaaGtowpathlaw13
namespace Go.Proofs.Ytchcljkflklddaa
open Go
set_option linter.unusedVariables false

theorem str_eq (a b : ByteArray) : (a.toList == b.toList) = (a.data.toList == b.data.toList) := by rw [toList_size, toList_size]

set_option maxRecDepth 100000 in
theorem fnv_foobar : fnvF 2166136261 (ByteArray.mk #[102, 111, 111, 98, 97, 114]).data.toList = 3214735720 := by decide +kernel

theorem sp_towpathlaw13_alive {w : World} {R : Bool → World → Prop} (h : ∀ w', Ext w w' → R true w') : C_towpathlaw13_alive w R := by
  apply S_towpathlaw13_alive
  unfold F_towpathlaw13_alive
  intro b w1 hb hw
  have k := Blk.new hb hw
  have e1 : Ext w w1 := Ext.new hw
  refine ⟨k.writable (by simp), fun w2 hw2 => ?_⟩
  have k2 := k.puts (cfgV ⟨2, 3, 4, 1⟩) (o := 0)
  have e2 : Ext w w2 := hw2 ▸ Below_puts _ e1 (by omega)
  rw [← hw2] at k2
  have k2 : Blk w2 b (cfgV ⟨2, 3, 4, 1⟩) := k2
  have ck : checkF ⟨2, 3, 4, 1⟩ = 0 := by decide
  refine ⟨⟨2, 3, 4, 1⟩, k2.all, sp_conf_Tasks fun w3 e3 => ?_⟩
  have k3 := k2.ext e3
  refine ⟨⟨2, 3, 4, 1⟩, k3.all, sp_conf_Name fun w4 e4 => ?_⟩
  have k4 := k3.ext e4
  refine ⟨⟨2, 3, 4, 1⟩, k4.all, sp_conf_Shard (by decide) fun w5 e5 => ?_⟩
  have k5 := k4.ext e5
  refine ⟨⟨2, 3, 4, 1⟩, k5.all, sp_conf_Check fun w6 e6 => ⟨fun _ => ?_, fun hn => ?_⟩⟩
  · refine sp_conf_Check fun w7 e7 => ?_
    have hf := h _ (((((e2.trans e3).trans e4).trans e5).trans e6).trans e7)
    have h1 : tasksF ⟨2, 3, 4, 1⟩ = (7, 0) := by decide
    have h2 : nameF ⟨2, 3, 4, 1⟩ 5 = (sOwner, 2, 0) := by unfold nameF; rw [ck]; simp
    have h3 : shardF ⟨2, 3, 4, 1⟩ (ByteArray.mk #[102, 111, 111, 98, 97, 114]) = (1, 0) := by
      unfold shardF
      rw [ck, if_neg (by omega), if_neg (by decide), fnv_foobar]
      decide
    have h4 : checkF ⟨0, 0, 0, 0⟩ = 7 := by decide
    simp only [h1, h2, h3, h4]
    simpa using hf
  · rw [ck] at hn
    cases hn

theorem check_range {c : Cfg} : checkF c = 0 ∨ checkF c = 7 := by unfold checkF; split <;> simp

end Go.Proofs.Ytchcljkflklddaa
