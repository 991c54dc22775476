/- Chapter 13: a key's shard depends on its hash and the number of shards alone. -/
import Derived.Test.YtchcljkflklddaaUConfA
import Derived.Test.YtchcljkflklddaaGConfSpreads
namespace Go.Proofs.Ytchcljkflklddaa
open Go
set_option linter.unusedVariables false


theorem law_ConfSpreads (x0 x1 : Cfg) (x2 : ByteArray) (w : World) (_ : Ok_T_api_Config w x0) (_ : Ok_T_api_Config w x1) (h2 : x2.size ≤ 140737488351232) :
    C_towpathlaw13_ConfSpreads x0 x1 x2 w (fun b w' => b = true ∧ RowKit.Below w.heap.size w w') := by
  apply S_towpathlaw13_ConfSpreads
  unfold F_towpathlaw13_ConfSpreads
  intro b w1 hb hw b1 w2 hb1 hw2
  have k : Blk w2 b (cfgV x0) := (Blk.new hb hw).ext (Ext.new hw2)
  have k1 : Blk w2 b1 (cfgV x1) := Blk.new hb1 hw2
  have hne : b ≠ b1 := by have := (Blk.new hb hw).lt; omega
  have hB : w.heap.size ≤ b1 := by have := (Ext.new hw).size; omega
  have e2 : Ext w w2 := (Ext.new hw).trans (Ext.new hw2)
  refine sp_towpathlaw13_alive fun w14 e14 => ⟨fun hh => absurd hh (by decide), fun _ => ?_⟩
  intro b2 w15 hb2 hw15
  have e15 : Ext w14 w15 := Ext.new hw15
  have k := k.ext (e14.trans e15)
  have k1 := k1.ext (e14.trans e15)
  have e15 := (e2.trans e14).trans e15
  refine beyond1 hb2 hw15 h2 ?_
  unfold F_towpathlaw13_ConfSpreads_k0
  refine ⟨fun _ => sp_towpathlaw13_alive fun w4 e4 => ⟨rfl, e15.trans e4⟩, fun _ => ?_⟩
  refine ⟨x0, k.all, sp_conf_Shard h2 fun w5 e5 => ?_⟩
  have k := k.ext e5
  have k1 := k1.ext e5
  have e5 := e15.trans e5
  by_cases hc : checkF x0 = 0
  · by_cases hs : x2.size = 0 ∨ x2.size > 64
    · have hn : shardF x0 x2 = (0, 1) := by unfold shardF; rw [if_neg (by omega), if_pos hs]
      rw [hn]
      refine ⟨fun _ => ⟨?_, e5⟩, fun hh => absurd hh (by decide)⟩
      simp only [beq_self_eq_true, Bool.true_and, Bool.or_eq_true, beq_iff_eq, decide_eq_true_eq]
      omega
    · have ok := check_zero hc
      unfold okCfg at ok
      have hn : shardF x0 x2 = (Int.tmod (fnvF 2166136261 x2.data.toList) x0.Shards, 0) := by unfold shardF; rw [if_neg (by omega), if_neg hs]
      rw [hn]
      have hm := (fnv_u32 x2.data.toList 2166136261 (by omega))
      have hsw : IntKind.u32.wrap x0.Shards = x0.Shards := u32_in _ (by omega) (by omega)
      have m0 := Int.tmod_nonneg x0.Shards hm.1
      have m1 := Int.tmod_lt_of_pos (fnvF 2166136261 x2.data.toList) (show 0 < x0.Shards by omega)
      refine ⟨fun hh => by simp at hh, fun _ => ⟨x0.Shards, k.cell rfl, k1.writable (by simp), fun w6 hw6 => ?_⟩⟩
      have p1 := k1.puts [Value.int .i64 x0.Shards] (o := 1)
      have p0 := k.puts_ne (vs := [Value.int .i64 x0.Shards]) (o := 1) hne
      have e6 : RowKit.Below w.heap.size w w6 := hw6 ▸ Below_puts _ e5 hB
      rw [← hw6] at p1 p0
      have p1 : Blk w6 b1 (cfgV { x1 with Shards := x0.Shards }) := p1
      refine ⟨{ x1 with Shards := x0.Shards }, p1.all, sp_conf_Shard h2 fun w7 e7 => ?_⟩
      have p1 := p1.ext e7
      have p0 := p0.ext e7
      have e7 : RowKit.Below w.heap.size w w7 := Ext.trans e6 e7
      refine ⟨p1.writable (by simp), fun w8 hw8 => ?_⟩
      have q1 := p1.puts [Value.int .i64 1] (o := 1)
      have q0 := p0.puts_ne (vs := [Value.int .i64 1]) (o := 1) hne
      have e8 : RowKit.Below w.heap.size w w8 := hw8 ▸ Below_puts _ e7 hB
      rw [← hw8] at q1 q0
      have q1 : Blk w8 b1 (cfgV { x1 with Shards := 1 }) := q1
      refine ⟨{ x1 with Shards := 1 }, q1.all, sp_conf_Shard h2 fun w9 e9 => ?_⟩
      have q0 := q0.ext e9
      have e9 : RowKit.Below w.heap.size w w9 := Ext.trans e8 e9
      refine ⟨fun _ => ⟨x0.Shards, q0.cell rfl, fun _ => ?_, fun hh => absurd (of_decide_eq_false hh) (by omega)⟩, fun hh => absurd (of_decide_eq_false hh) (by omega)⟩
      refine ⟨fnvF 2166136261 x2.data.toList, fun w' e' => sp_sum_Hash h2 ⟨rfl, Ext.refl _⟩, x0.Shards, q0.cell rfl, by rw [hsw]; omega, fun w11 e11 => ⟨?_, Ext.trans e9 e11⟩⟩
      rw [hsw, i64_in _ (by omega) (by omega)]
      have a1 : (((shardF { x1 with Shards := x0.Shards } x2).2 == 7) || (((shardF { x1 with Shards := x0.Shards } x2).2 == 0) && ((shardF { x1 with Shards := x0.Shards } x2).1 == Int.tmod (fnvF 2166136261 x2.data.toList) x0.Shards))) = true := by
        unfold shardF
        rcases check_range (c := { x1 with Shards := x0.Shards }) with h | h
        · rw [if_neg (by omega), if_neg hs]; simp
        · rw [if_pos (by omega), h]; simp
      have a2 : (((shardF { x1 with Shards := 1 } x2).2 == 7) || (((shardF { x1 with Shards := 1 } x2).2 == 0) && ((shardF { x1 with Shards := 1 } x2).1 == 0))) = true := by
        unfold shardF
        rcases check_range (c := { x1 with Shards := 1 }) with h | h
        · rw [if_neg (by omega), if_neg hs]; simp
        · rw [if_pos (by omega), h]; simp
      rw [a1, a2]; simp
  · have h7 : checkF x0 = 7 := check_range.resolve_left hc
    have hn : shardF x0 x2 = (0, 7) := by unfold shardF; rw [if_pos hc, h7]
    rw [hn]
    exact ⟨fun _ => ⟨by simp, e5⟩, fun hh => absurd hh (by decide)⟩

end Go.Proofs.Ytchcljkflklddaa
