/- Chapter 13: configurations. -/
import Derived.Test.YtfmkemmgakdddaaUSumF
import Derived.Laws.Strings
import Derived.Test.YtfmkemmgakdddaaGconf
namespace Go.Proofs.Ytfmkemmgakdddaa
open Go
set_option linter.unusedVariables false

abbrev Cfg := T_api_Config
abbrev cfgV (c : Cfg) : List Value := [Value.int .i64 c.Lanes, Value.int .i64 c.Shards, Value.int .i64 c.Window, Value.int .i64 c.Queue]
def pairs (c : Cfg) : List (Int × Int) := [(c.Lanes, 16), (c.Shards, 16), (c.Window, 64), (c.Queue, 16)]
def chk : List (Int × Int) → Int
  | [] => 0
  | (x, m) :: r => if x < 1 ∨ x > m then 7 else chk r
def okCfg (c : Cfg) : Prop := (1 ≤ c.Lanes ∧ c.Lanes ≤ 16) ∧ (1 ≤ c.Shards ∧ c.Shards ≤ 16) ∧ (1 ≤ c.Window ∧ c.Window ≤ 64) ∧ (1 ≤ c.Queue ∧ c.Queue ≤ 16)
instance (c : Cfg) : Decidable (okCfg c) := by unfold okCfg; exact inferInstance
def checkF (c : Cfg) : Int := if okCfg c then 0 else 7
theorem chk_pairs (c : Cfg) : chk (pairs c) = checkF c := by
  unfold pairs checkF okCfg
  simp only [chk]
  repeat' split
  all_goals first | rfl | omega

theorem pair_cells {w : World} {b : Nat} {c : Cfg} (h : Blk w b [Value.int .i64 c.Lanes, Value.int .i64 16, Value.int .i64 c.Shards, Value.int .i64 16, Value.int .i64 c.Window, Value.int .i64 64, Value.int .i64 c.Queue, Value.int .i64 16])
    {t : Int} (h0 : 0 ≤ t) (h1 : t < 4) : ∃ x m, (pairs c).drop t.toNat = (x, m) :: (pairs c).drop (t.toNat + 1) ∧ CellsAt w b (0 + t.toNat * 2) [Value.int .i64 x, Value.int .i64 m] := by
  have : t = 0 ∨ t = 1 ∨ t = 2 ∨ t = 3 := by omega
  rcases this with rfl | rfl | rfl | rfl
  · exact ⟨_, _, rfl, h.cell rfl, h.cell rfl, trivial⟩
  · exact ⟨_, _, rfl, h.cell rfl, h.cell rfl, trivial⟩
  · exact ⟨_, _, rfl, h.cell rfl, h.cell rfl, trivial⟩
  · exact ⟨_, _, rfl, h.cell rfl, h.cell rfl, trivial⟩

theorem sp_conf_Check {c : Cfg} {w : World} {R : Int → World → Prop} (h : ∀ w', Ext w w' → R (checkF c) w') : C_conf_Check c w R := by
  apply S_conf_Check
  unfold F_conf_Check
  intro b w1 hb hw
  have k : Blk w1 b (cfgV c) := Blk.new hb hw
  have e1 : Ext w w1 := Ext.new hw
  refine ⟨c.Lanes, k.cell rfl, c.Shards, k.cell rfl, c.Window, k.cell rfl, c.Queue, k.cell rfl, fun b1 w2 hb1 hw2 => ?_⟩
  have k2 := Blk.new hb1 hw2
  have e2 : Ext w w2 := e1.trans (Ext.new hw2)
  have hlt := k2.lt
  refine ⟨fun t w' => 0 ≤ t ∧ t ≤ 4 ∧ Ext w2 w' ∧ chk ((pairs c).drop t.toNat) = chk (pairs c), fun t w' => 4 - t.toNat, ⟨by omega, by omega, Ext.refl _, rfl⟩, ?_⟩
  rintro t w3 ⟨h0, h1, e3, hc⟩
  have k3 := k2.ext e3
  unfold F_conf_Check_L0
  refine ⟨fun hi => ?_, fun hi => ?_⟩
  · have hi : t < 4 := of_decide_eq_true hi
    have hw' : IntKind.i64.wrap (t + 1) = t + 1 := i64_in _ (by omega) (by omega)
    obtain ⟨x, m, hd, hcl⟩ := pair_cells k3 h0 hi
    rw [hd, chk] at hc
    refine ⟨h0, hi, ⟨x, m⟩, hcl, fun b2 w4 hb2 hw4 => ?_⟩
    have k4 := Blk.new hb2 hw4
    have e4 : Ext w3 w4 := Ext.new hw4
    refine ⟨k4.writable (by simp), fun w5 hw5 => ?_⟩
    have k5 := k4.puts [Value.int .i64 x, Value.int .i64 m] (o := 0)
    rw [← hw5] at k5
    have k5 : Blk w5 b2 [Value.int .i64 x, Value.int .i64 m] := k5
    have hb2' : w3.heap.size ≤ b2 := by omega
    have e5 : Ext w3 w5 := hw5 ▸ Below_puts _ e4 hb2'
    have bad : (x < 1 ∨ x > m) → R 7 w5 := fun hx => by
      rw [if_pos hx, chk_pairs] at hc
      rw [hc]
      exact h _ ((e2.trans e3).trans e5)
    refine ⟨by omega, by omega, x, k5.cell rfl, fun hx => ?_, fun hx => ?_⟩
    · exact ⟨fun _ => bad (.inl (of_decide_eq_true hx)), fun hh => by cases hh⟩
    · have hx := of_decide_eq_false hx
      refine ⟨by omega, by omega, x, k5.cell rfl, by omega, by omega, m, k5.cell rfl, fun hh => bad (.inr (of_decide_eq_true hh)), fun hh => ?_⟩
      have hh := of_decide_eq_false hh
      rw [if_neg (by omega)] at hc
      refine ⟨⟨by omega, by omega, e3.trans e5, by rw [hw', toNat_next h0]; exact hc⟩, by simp only [hw']; omega⟩
  · have hi : ¬ t < 4 := of_decide_eq_false hi
    rw [show t.toNat = 4 from by omega, chk_pairs] at hc
    have hc : (0 : Int) = checkF c := hc
    rw [hc]
    exact h _ (e2.trans e3)

/-- A key's shard. -/
def shardF (c : Cfg) (key : ByteArray) : Int × Int :=
  if checkF c ≠ 0 then (0, checkF c) else if key.size = 0 ∨ key.size > 64 then (0, 1) else (Int.tmod (fnvF 2166136261 key.data.toList) c.Shards, 0)

theorem check_zero {c : Cfg} (h : checkF c = 0) : okCfg c := by
  unfold checkF at h
  split at h
  · assumption
  · cases h
theorem toList_size (s : ByteArray) : s.toList = s.data.toList := ByteArray.toList_eq s
theorem empty_iff (s : ByteArray) : (s.toList == ByteArray.empty.toList) = decide (s.size = 0) := by
  rw [toList_size, toList_size]
  have : s.data.toList.length = s.size := by simp
  cases h : s.data.toList with
  | nil => rw [h] at this; simp only [List.length_nil] at this; rw [← this]; rfl
  | cons a l => rw [h] at this; simp only [List.length_cons] at this; rw [← this]; simp

theorem fnv_u32 : ∀ (l : List UInt8) (h : Int), 0 ≤ h ∧ h ≤ 4294967295 → 0 ≤ fnvF h l ∧ fnvF h l ≤ 4294967295
  | [], _, h => h
  | x :: r, h, _ => by
    rw [fnvF]
    exact fnv_u32 r _ (by rw [wrap_u32]; omega)

theorem sp_conf_Shard {c : Cfg} {key : ByteArray} {w : World} {R : Int → Int → World → Prop} (hk : key.size ≤ 140737488351232) (h : ∀ w', Ext w w' → R (shardF c key).1 (shardF c key).2 w') : C_conf_Shard c key w R := by
  apply S_conf_Shard
  unfold F_conf_Shard
  intro b w1 hb hw
  have k : Blk w1 b (cfgV c) := Blk.new hb hw
  have e1 : Ext w w1 := Ext.new hw
  refine ⟨c, k.all, sp_conf_Check fun w2 e2 => ⟨fun hn => ?_, fun hn => ?_⟩⟩
  · have h := h _ (e1.trans e2)
    unfold shardF at h
    rw [if_pos (by simpa using hn)] at h
    exact h
  · have hc : checkF c = 0 := by simpa using hn
    have ok := check_zero hc
    refine ⟨fun hs => ?_, fun hs => ?_⟩
    · have h := h _ (e1.trans e2)
      unfold shardF at h
      rw [empty_iff] at hs
      simp only [Bool.or_eq_true, decide_eq_true_eq] at hs
      rw [if_neg (by omega), if_pos (by omega)] at h
      exact h
    · rw [empty_iff] at hs
      simp only [Bool.or_eq_false_iff, decide_eq_false_iff_not] at hs
      have hm := (fnv_u32 key.data.toList 2166136261 (by omega))
      unfold okCfg at ok
      have hsw : IntKind.u32.wrap c.Shards = c.Shards := u32_in _ (by omega) (by omega)
      refine ⟨fnvF 2166136261 key.data.toList, fun w' e' => sp_sum_Hash hk ⟨rfl, Ext.refl _⟩, c.Shards, (k.ext e2).cell rfl, by rw [hsw]; omega, fun w4 e4 => ?_⟩
      have h := h _ ((e1.trans e2).trans e4)
      unfold shardF at h
      rw [if_neg (by omega), if_neg (by omega)] at h
      rw [hsw]
      have h3 := Int.tmod_lt_of_pos (fnvF 2166136261 key.data.toList) (show 0 < c.Shards by omega)
      have h4 := Int.tmod_nonneg c.Shards hm.1
      rw [i64_in _ (by omega) (by omega)]
      exact h
end Go.Proofs.Ytfmkemmgakdddaa
