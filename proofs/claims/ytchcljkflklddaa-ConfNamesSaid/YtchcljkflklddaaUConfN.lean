/- Chapter 13: every task has a name of its own; a key's shard depends on its hash alone. -/
import Derived.Test.YtchcljkflklddaaUConfT
import Derived.Test.YtchcljkflklddaaGtowpathlaw13
import Derived.Test.YtchcljkflklddaaGConfNames
import Derived.Test.YtchcljkflklddaaGConfSpreads
namespace Go.Proofs.Ytchcljkflklddaa
open Go
set_option linter.unusedVariables false

theorem str_eq (a b : ByteArray) : (a.toList == b.toList) = (a.data.toList == b.data.toList) := by rw [toList_size, toList_size]

set_option maxRecDepth 100000 in
theorem fnv_foobar : fnvF 2166136261 (ByteArray.mk #[102, 111, 111, 98, 97, 114]).data.toList = 3214735720 := by decide +kernel

theorem sp_towpathlaw13_alive {w : World} {R : Bool → World → Prop} (h : ∀ w', Ext w w' → R true w') : C_towpathlaw13_alive w R := by
  apply S_towpathlaw13_alive
  unfold F_towpathlaw13_alive
  intro b w1 hb hw
  have k := Blk.new hb hw
  have e1 : Ext w w1 := Ext.new hw
  refine ⟨k.writable (by simp), fun w2 hw2 => ?_⟩
  have k2 := k.puts (cfgV ⟨2, 3, 4, 1⟩) (o := 0)
  have e2 : Ext w w2 := hw2 ▸ Below_puts _ e1 (by omega)
  rw [← hw2] at k2
  have k2 : Blk w2 b (cfgV ⟨2, 3, 4, 1⟩) := k2
  have ck : checkF ⟨2, 3, 4, 1⟩ = 0 := by decide
  refine ⟨⟨2, 3, 4, 1⟩, k2.all, sp_conf_Tasks fun w3 e3 => ?_⟩
  have k3 := k2.ext e3
  refine ⟨⟨2, 3, 4, 1⟩, k3.all, sp_conf_Name fun w4 e4 => ?_⟩
  have k4 := k3.ext e4
  refine ⟨⟨2, 3, 4, 1⟩, k4.all, sp_conf_Shard (by decide) fun w5 e5 => ?_⟩
  have k5 := k4.ext e5
  refine ⟨⟨2, 3, 4, 1⟩, k5.all, sp_conf_Check fun w6 e6 => ⟨fun _ => ?_, fun hn => ?_⟩⟩
  · refine sp_conf_Check fun w7 e7 => ?_
    have hf := h _ (((((e2.trans e3).trans e4).trans e5).trans e6).trans e7)
    have h1 : tasksF ⟨2, 3, 4, 1⟩ = (7, 0) := by decide
    have h2 : nameF ⟨2, 3, 4, 1⟩ 5 = (sOwner, 2, 0) := by unfold nameF; rw [ck]; simp
    have h3 : shardF ⟨2, 3, 4, 1⟩ (ByteArray.mk #[102, 111, 111, 98, 97, 114]) = (1, 0) := by
      unfold shardF
      rw [ck, if_neg (by omega), if_neg (by decide), fnv_foobar]
      decide
    have h4 : checkF ⟨0, 0, 0, 0⟩ = 7 := by decide
    simp only [h1, h2, h3, h4]
    simpa using hf
  · rw [ck] at hn
    cases hn

theorem check_range {c : Cfg} : checkF c = 0 ∨ checkF c = 7 := by unfold checkF; split <;> simp

set_option maxHeartbeats 4000000 in
theorem law_ConfNames (x0 : Cfg) (w : World) (_ : Ok_T_api_Config w x0) : C_towpathlaw13_ConfNames x0 w (fun b w' => b = true ∧ RowKit.Below w.heap.size w w') := by
  apply S_towpathlaw13_ConfNames
  unfold F_towpathlaw13_ConfNames
  intro b w1 hb hw
  have k : Blk w1 b (cfgV x0) := Blk.new hb hw
  have e1 : Ext w w1 := Ext.new hw
  refine ⟨x0, k.all, sp_conf_Tasks fun w2 e2 => sp_towpathlaw13_alive fun w3 e3 => ?_⟩
  have k3 := k.ext (e2.trans e3)
  have e3 := (e1.trans e2).trans e3
  by_cases hc : checkF x0 = 0
  · rw [tasks_ok hc]
    have ok := check_zero hc
    unfold okCfg at ok
    refine ⟨fun hn => by simp at hn, fun _ => ?_⟩
    refine ⟨fun lanes owners others i w' => Ext w3 w' ∧ 0 ≤ i ∧ i ≤ x0.Lanes + x0.Shards + 2 ∧
      ((i = 0 ∧ lanes = 0 ∧ owners = 0 ∧ others = 0) ∨ (1 ≤ i ∧ i ≤ x0.Lanes + 1 ∧ lanes = i - 1 ∧ owners = 0 ∧ others = 1) ∨
        (x0.Lanes + 1 < i ∧ i ≤ x0.Lanes + x0.Shards + 1 ∧ lanes = x0.Lanes ∧ owners = i - 1 - x0.Lanes ∧ others = 1) ∨ (i = x0.Lanes + x0.Shards + 2 ∧ lanes = x0.Lanes ∧ owners = x0.Shards ∧ others = 2)),
      fun _ _ _ i _ => (x0.Lanes + x0.Shards + 2 - i).toNat, ⟨Ext.refl _, by omega, by omega, .inl ⟨rfl, rfl, rfl, rfl⟩⟩, ?_⟩
    rintro lanes owners others i w6 ⟨e6, h0, h1, hI⟩
    have k6 := k3.ext e6
    unfold F_towpathlaw13_ConfNames_L0
    refine ⟨fun hi => ?_, fun hi => ?_⟩
    · have hi : i < x0.Lanes + x0.Shards + 2 := of_decide_eq_true hi
      have wi : IntKind.i64.wrap (i + 1) = i + 1 := i64_in _ (by omega) (by omega)
      have wl : IntKind.i64.wrap (lanes + 1) = lanes + 1 := i64_in _ (by omega) (by omega)
      have wo : IntKind.i64.wrap (owners + 1) = owners + 1 := i64_in _ (by omega) (by omega)
      have wt : IntKind.i64.wrap (others + 1) = others + 1 := i64_in _ (by omega) (by omega)
      refine ⟨x0, k6.all, sp_conf_Name fun w8 e8 => ?_⟩
      have e8 := e6.trans e8
      have hge : ¬ i ≥ x0.Lanes + x0.Shards + 2 := by omega
      have hlt : ¬ i < 0 := by omega
      by_cases c1 : i = 0
      · have hn : nameF x0 i = (sDispatcher, 0, 0) := by unfold nameF; rw [if_neg (by omega), if_neg hge, if_neg hlt, if_pos c1]
        simp only [hn, str_eq, wl, wo, wt]
        refine ⟨fun hh => by simp at hh, fun _ => ⟨fun hh => absurd hh (by decide), fun _ => ⟨fun hh => absurd hh (by decide), fun _ => ⟨fun hh => ?_, fun _ => ?_⟩⟩⟩⟩
        · subst c1; exact absurd hh (by decide)
        · unfold F_towpathlaw13_ConfNames_k1
          simp only [wi]
          exact ⟨⟨e8, by omega, by omega, by omega⟩, by omega⟩
      by_cases c2 : i ≤ x0.Lanes
      · have hn : nameF x0 i = (sLane, i, 0) := by unfold nameF; rw [if_neg (by omega), if_neg hge, if_neg hlt, if_neg c1, if_pos c2]
        simp only [hn, str_eq, wl, wo, wt]
        refine ⟨fun hh => by simp at hh, fun _ => ⟨fun _ => ⟨fun hh => ?_, fun _ => ?_⟩, fun hh => absurd hh (by decide)⟩⟩
        · have : i ≠ lanes + 1 := by simpa using hh
          omega
        · unfold F_towpathlaw13_ConfNames_k1
          simp only [wi]
          exact ⟨⟨e8, by omega, by omega, by omega⟩, by omega⟩
      by_cases c3 : i ≤ x0.Lanes + x0.Shards
      · have hn : nameF x0 i = (sOwner, i - x0.Lanes - 1, 0) := by unfold nameF; rw [if_neg (by omega), if_neg hge, if_neg hlt, if_neg c1, if_neg c2, if_pos c3]
        simp only [hn, str_eq, wl, wo, wt]
        refine ⟨fun hh => by simp at hh, fun _ => ⟨fun hh => absurd hh (by decide), fun _ => ⟨fun _ => ⟨fun hh => ?_, fun _ => ?_⟩, fun hh => absurd hh (by decide)⟩⟩⟩
        · have : i - x0.Lanes - 1 ≠ owners := by simpa using hh
          omega
        · unfold F_towpathlaw13_ConfNames_k1
          simp only [wi]
          exact ⟨⟨e8, by omega, by omega, by omega⟩, by omega⟩
      · have hn : nameF x0 i = (sGate, 0, 0) := by unfold nameF; rw [if_neg (by omega), if_neg hge, if_neg hlt, if_neg c1, if_neg c2, if_neg c3]
        simp only [hn, str_eq, wl, wo, wt]
        refine ⟨fun hh => by simp at hh, fun _ => ⟨fun hh => absurd hh (by decide), fun _ => ⟨fun hh => absurd hh (by decide), fun _ => ⟨fun hh => ?_, fun _ => ?_⟩⟩⟩⟩
        · have c1' : (i == 0) = false := by simpa using c1
          rw [c1'] at hh
          simp at hh
        · unfold F_towpathlaw13_ConfNames_k1
          simp only [wi]
          exact ⟨⟨e8, by omega, by omega, by omega⟩, by omega⟩
    · have hi : ¬ i < x0.Lanes + x0.Shards + 2 := of_decide_eq_false hi
      refine ⟨x0, k6.all, sp_conf_Name fun w9 e9 => ?_⟩
      have k9 := k6.ext e9
      have hn : nameF x0 (x0.Lanes + x0.Shards + 2) = (ByteArray.empty, 0, 1) := by unfold nameF; rw [if_neg (by omega), if_pos (by omega)]
      simp only [hn]
      refine ⟨x0.Lanes, k9.cell rfl, fun _ => ?_, fun hh => ?_⟩
      · refine ⟨x0.Shards, k9.cell rfl, fun _ => ?_, fun hh => ?_⟩
        · refine ⟨x0.Lanes, k9.cell rfl, x0.Shards, k9.cell rfl, ?_, (e3.trans e6).trans e9⟩
          rw [sum_wrap (check_zero hc)]; simp
        · have h1 : owners = x0.Shards := by omega
          have h2 : others = 2 := by omega
          rw [h1, h2] at hh
          simp at hh
      · have h1 : lanes = x0.Lanes := by omega
        rw [h1] at hh
        simp at hh
  · rw [tasks_no hc]
    have h7 : checkF x0 = 7 := check_range.resolve_left hc
    refine ⟨fun _ => sp_towpathlaw13_alive fun w4 e4 => ⟨fun _ => ?_, fun hh => ?_⟩, fun hn => ?_⟩
    · refine ⟨x0, (k3.ext e4).all, sp_conf_Check fun w5 e5 => ⟨by simp [h7], (e3.trans e4).trans e5⟩⟩
    · rw [h7] at hh; exact absurd hh (by decide)
    · rw [h7] at hn; exact absurd hn (by decide)

end Go.Proofs.Ytchcljkflklddaa
