/- Chapter 13: tasks and their names. -/
import Derived.Test.YtchcljkflklddaaUConf
import Derived.Test.YtchcljkflklddaaGConfTasks
namespace Go.Proofs.Ytchcljkflklddaa
open Go
set_option linter.unusedVariables false

def tasksF (c : Cfg) : Int × Int := if checkF c ≠ 0 then (0, checkF c) else (c.Lanes + c.Shards + 2, 0)

theorem sum_wrap {c : Cfg} (ok : okCfg c) : IntKind.i64.wrap (IntKind.i64.wrap (c.Lanes + c.Shards) + 2) = c.Lanes + c.Shards + 2 := by
  unfold okCfg at ok
  rw [i64_in (c.Lanes + c.Shards) (by omega) (by omega), i64_in _ (by omega) (by omega)]

theorem sp_conf_Tasks {c : Cfg} {w : World} {R : Int → Int → World → Prop} (h : ∀ w', Ext w w' → R (tasksF c).1 (tasksF c).2 w') : C_conf_Tasks c w R := by
  apply S_conf_Tasks
  unfold F_conf_Tasks
  intro b w1 hb hw
  have k : Blk w1 b (cfgV c) := Blk.new hb hw
  have e1 : Ext w w1 := Ext.new hw
  refine ⟨c, k.all, sp_conf_Check fun w2 e2 => ⟨fun hn => ?_, fun hn => ?_⟩⟩
  · have h := h _ (e1.trans e2)
    unfold tasksF at h
    rw [if_pos (by simpa using hn)] at h
    exact h
  · have hc : checkF c = 0 := by simpa using hn
    have h := h _ (e1.trans e2)
    unfold tasksF at h
    rw [if_neg (by omega), ← sum_wrap (check_zero hc)] at h
    exact ⟨c.Lanes, (k.ext e2).cell rfl, c.Shards, (k.ext e2).cell rfl, h⟩

theorem sp_towpathref13_Tasks {c : Cfg} {w : World} {R : Int → Int → World → Prop} (h : ∀ w', Ext w w' → R (tasksF c).1 (tasksF c).2 w') : C_towpathref13_Tasks c w R := by
  apply S_towpathref13_Tasks
  unfold F_towpathref13_Tasks
  intro b w1 hb hw
  have k : Blk w1 b (cfgV c) := Blk.new hb hw
  have e1 : Ext w w1 := Ext.new hw
  refine ⟨c, k.all, sp_towpathref13_Check fun w2 e2 => ⟨fun hn => ?_, fun hn => ?_⟩⟩
  · have h := h _ (e1.trans e2)
    unfold tasksF at h
    rw [if_pos (by simpa using hn)] at h
    exact h
  · have hc : checkF c = 0 := by simpa using hn
    have h := h _ (e1.trans e2)
    unfold tasksF at h
    rw [if_neg (by omega), ← sum_wrap (check_zero hc)] at h
    exact ⟨c.Lanes, (k.ext e2).cell rfl, c.Shards, (k.ext e2).cell rfl, h⟩

abbrev sDispatcher : ByteArray := ByteArray.mk #[100, 105, 115, 112, 97, 116, 99, 104, 101, 114]
abbrev sLane : ByteArray := ByteArray.mk #[108, 97, 110, 101]
abbrev sOwner : ByteArray := ByteArray.mk #[111, 119, 110, 101, 114]
abbrev sGate : ByteArray := ByteArray.mk #[103, 97, 116, 101]
abbrev sCall : ByteArray := ByteArray.mk #[99, 97, 108, 108]
/-- What a task is. -/
def nameF (c : Cfg) (task : Int) : ByteArray × Int × Int :=
  if checkF c ≠ 0 then (ByteArray.empty, 0, checkF c)
  else if task ≥ c.Lanes + c.Shards + 2 then (ByteArray.empty, 0, 1)
  else if task < 0 then (sCall, task, 0)
  else if task = 0 then (sDispatcher, 0, 0)
  else if task ≤ c.Lanes then (sLane, task, 0)
  else if task ≤ c.Lanes + c.Shards then (sOwner, task - c.Lanes - 1, 0)
  else (sGate, 0, 0)

theorem sp_conf_name {kind : Int} {w : World} {R : ByteArray → World → Prop} {s : ByteArray} (h0 : 0 ≤ kind) (h1 : kind < 5)
    (hs : ([sDispatcher, sLane, sOwner, sGate, sCall] : List ByteArray).getD kind.toNat ByteArray.empty = s) (h : R s w) : C_conf_name kind w R := by
  apply S_conf_name
  unfold F_conf_name
  subst hs
  exact ⟨h0, h1, h⟩

theorem tasks_ok {c : Cfg} (hc : checkF c = 0) : tasksF c = (c.Lanes + c.Shards + 2, 0) := by
  unfold tasksF; rw [if_neg (by omega)]
theorem tasks_no {c : Cfg} (hc : checkF c ≠ 0) : tasksF c = (0, checkF c) := by
  unfold tasksF; rw [if_pos hc]

theorem sp_conf_Name {c : Cfg} {task : Int} {w : World} {R : ByteArray → Int → Int → World → Prop} (h : ∀ w', Ext w w' → R (nameF c task).1 (nameF c task).2.1 (nameF c task).2.2 w') : C_conf_Name c task w R := by
  apply S_conf_Name
  unfold F_conf_Name
  intro b w1 hb hw
  have k : Blk w1 b (cfgV c) := Blk.new hb hw
  have e1 : Ext w w1 := Ext.new hw
  refine ⟨c, k.all, sp_conf_Tasks fun w2 e2 => ?_⟩
  have k2 := k.ext e2
  have e2 := e1.trans e2
  by_cases hc : checkF c = 0
  · rw [tasks_ok hc]
    have ok := check_zero hc
    unfold okCfg at ok
    have hw1 : IntKind.i64.wrap (c.Lanes + c.Shards + 2 - 1) = c.Lanes + c.Shards + 1 := by rw [i64_in _ (by omega) (by omega)]; omega
    unfold nameF at h
    rw [if_neg (by omega)] at h
    refine ⟨fun hn => by simp at hn, fun _ => ⟨fun h1 => ?_, fun h1 => ?_⟩⟩
    · have h1 := of_decide_eq_true h1
      rw [if_pos h1] at h
      exact h _ e2
    have h1 := of_decide_eq_false h1
    rw [if_neg h1] at h
    refine ⟨fun h2 => ?_, fun h2 => ?_⟩
    · rw [if_pos (of_decide_eq_true h2)] at h
      unfold F_conf_Name_k0
      exact sp_conf_name (by omega) (by omega) rfl (h _ e2)
    have h2 := of_decide_eq_false h2
    rw [if_neg h2] at h
    refine ⟨fun h3 => ?_, fun h3 => ?_⟩
    · rw [if_pos (by simpa using h3)] at h
      unfold F_conf_Name_k0
      exact sp_conf_name (by omega) (by omega) rfl (h _ e2)
    have h3 : task ≠ 0 := by simpa using h3
    rw [if_neg h3] at h
    refine ⟨c.Lanes, k2.cell rfl, fun h4 => ?_, fun h4 => ?_⟩
    · rw [if_pos (of_decide_eq_true h4)] at h
      unfold F_conf_Name_k0
      exact sp_conf_name (by omega) (by omega) rfl (h _ e2)
    have h4 := of_decide_eq_false h4
    rw [if_neg h4] at h
    refine ⟨fun h5 => ?_, fun h5 => ?_⟩
    · have h5 := of_decide_eq_true h5
      simp only [hw1] at h5
      rw [if_pos (by omega)] at h
      refine ⟨c.Lanes, k2.cell rfl, fun w6 e6 => ?_⟩
      rw [i64_in (task - c.Lanes) (by omega) (by omega), i64_in _ (by omega) (by omega)]
      unfold F_conf_Name_k1 F_conf_Name_k0
      exact sp_conf_name (by omega) (by omega) rfl (h _ (e2.trans e6))
    · have h5 := of_decide_eq_false h5
      simp only [hw1] at h5
      rw [if_neg (by omega)] at h
      unfold F_conf_Name_k1 F_conf_Name_k0
      exact sp_conf_name (by omega) (by omega) rfl (h _ e2)
  · rw [tasks_no hc]
    refine ⟨fun _ => ?_, fun hn => absurd (by simpa using hn) hc⟩
    have h := h _ e2
    unfold nameF at h
    rw [if_pos hc] at h
    exact h

theorem sp_towpathref13_Name {c : Cfg} {task : Int} {w : World} {R : ByteArray → Int → Int → World → Prop} (h : ∀ w', Ext w w' → R (nameF c task).1 (nameF c task).2.1 (nameF c task).2.2 w') : C_towpathref13_Name c task w R := by
  apply S_towpathref13_Name
  unfold F_towpathref13_Name
  intro b w1 hb hw
  have k : Blk w1 b (cfgV c) := Blk.new hb hw
  have e1 : Ext w w1 := Ext.new hw
  refine ⟨c, k.all, sp_towpathref13_Tasks fun w2 e2 => ?_⟩
  have k2 := k.ext e2
  have e2 := e1.trans e2
  by_cases hc : checkF c = 0
  · rw [tasks_ok hc]
    have ok := check_zero hc
    unfold okCfg at ok
    unfold nameF at h
    rw [if_neg (by omega)] at h
    refine ⟨fun hn => by simp at hn, fun _ => ⟨fun h1 => ?_, fun h1 => ?_⟩⟩
    · rw [if_pos (of_decide_eq_true h1)] at h
      exact h _ e2
    have h1 := of_decide_eq_false h1
    rw [if_neg h1] at h
    refine ⟨fun h2 => ?_, fun h2 => ?_⟩
    · rw [if_pos (of_decide_eq_true h2)] at h
      exact h _ e2
    have h2 := of_decide_eq_false h2
    rw [if_neg h2] at h
    refine ⟨fun h3 => ?_, fun h3 => ?_⟩
    · rw [if_pos (by simpa using h3)] at h
      exact h _ e2
    have h3 : task ≠ 0 := by simpa using h3
    rw [if_neg h3] at h
    refine ⟨c.Lanes, k2.cell rfl, fun h4 => ?_, fun h4 => ?_⟩
    · rw [if_pos (of_decide_eq_true h4)] at h
      exact h _ e2
    have h4 := of_decide_eq_false h4
    rw [if_neg h4] at h
    have hw1 : IntKind.i64.wrap (c.Lanes + c.Shards) = c.Lanes + c.Shards := i64_in _ (by omega) (by omega)
    refine ⟨c.Lanes, k2.cell rfl, c.Shards, k2.cell rfl, fun h5 => ?_, fun h5 => ?_⟩
    · have h5 := of_decide_eq_true h5
      simp only [hw1] at h5
      rw [if_pos (by omega)] at h
      refine ⟨c.Lanes, k2.cell rfl, fun w6 e6 => ?_⟩
      rw [i64_in (task - c.Lanes) (by omega) (by omega), i64_in _ (by omega) (by omega)]
      exact h _ (e2.trans e6)
    · have h5 := of_decide_eq_false h5
      simp only [hw1] at h5
      rw [if_neg (by omega)] at h
      exact h _ e2
  · rw [tasks_no hc]
    refine ⟨fun _ => ?_, fun hn => absurd (by simpa using hn) hc⟩
    have h := h _ e2
    unfold nameF at h
    rw [if_pos hc] at h
    exact h

theorem law_ConfTasks (x0 : Cfg) (x1 : Int) (w : World) (_ : Ok_T_api_Config w x0) (_ : -9223372036854775808 ≤ x1 ∧ x1 ≤ 9223372036854775807) :
    C_towpathlaw13_ConfTasks x0 x1 w (fun b w' => b = true ∧ RowKit.Below w.heap.size w w') := by
  apply S_towpathlaw13_ConfTasks
  unfold F_towpathlaw13_ConfTasks
  intro b w1 hb hw
  have k : Blk w1 b (cfgV x0) := Blk.new hb hw
  have e1 : Ext w w1 := Ext.new hw
  refine ⟨x0, k.all, sp_conf_Tasks fun w2 e2 => ⟨x0, (k.ext e2).all, sp_towpathref13_Tasks fun w3 e3 => ?_⟩⟩
  have k3 := k.ext (e2.trans e3)
  refine ⟨x0, k3.all, sp_conf_Name fun w4 e4 => ⟨x0, (k3.ext e4).all, sp_towpathref13_Name fun w5 e5 => ⟨by simp, ?_⟩⟩⟩
  exact (((e1.trans e2).trans e3).trans e4).trans e5

end Go.Proofs.Ytchcljkflklddaa
