/- Chapter 10: the fixed answers; elements come out in the order in which they went in. -/
import Derived.Test.YtchcljkflklddaaURing
import Derived.Test.YtchcljkflklddaaGtowpathlaw10
import Derived.Test.YtchcljkflklddaaGRingOrders
namespace Go.Proofs.Ytchcljkflklddaa
open Go
set_option linter.unusedVariables false

theorem sp_towpathlaw10_alive {w0 w : World} {l : List Chunk} {R : Bool → World → Prop} (st : St w0 l w) (k : ∀ w', St w0 l w' → R true w') : C_towpathlaw10_alive w R := by
  apply S_towpathlaw10_alive
  unfold F_towpathlaw10_alive
  refine sp_ring_New st (fun h => by omega) fun _ _ r bs w1 o st => sp_ring_New st (fun _ => ?_) fun h => by omega
  refine ⟨fun h => by simp at h, fun _ => ?_⟩
  refine sp_ring_Put st o (fun h => by simp [RM.room] at h) fun _ bs w2 o st => ⟨fun h => by simp at h, fun _ => ?_⟩
  refine sp_ring_Put st o (fun h => by simp [RM.room] at h) fun _ bs w3 o st => ⟨fun h => by simp at h, fun _ => ?_⟩
  refine sp_ring_Put st o (fun _ w4 st => ⟨fun h => by simp at h, fun _ => ?_⟩) fun h => absurd (by simp [RM.room]) h
  refine sp_ring_Len st o ⟨fun h => by simp at h, fun _ => ?_⟩
  refine sp_ring_Room st o fun w5 st => ?_
  unfold F_towpathlaw10_alive_k0
  refine ⟨fun h => by simp [RM.room] at h, fun _ => ?_⟩
  refine sp_ring_Take st o (fun h => by simp at h) fun x q' hq bs w6 o st => ?_
  simp only [List.nil_append, List.cons_append, List.cons.injEq] at hq
  obtain ⟨rfl, rfl⟩ := hq
  refine sp_ring_Close st o fun bs w7 o st => ⟨fun _ => ?_, fun h => by simp at h⟩
  refine sp_ring_Put st o (fun _ w8 st => ⟨fun _ => ?_, fun h => by simp at h⟩) fun h => absurd (by simp [RM.room]) h
  refine sp_ring_Over st o ⟨fun _ => ?_, fun h => by simp at h⟩
  exact sp_ring_Len st o (by simpa using k _ st.drop)

def seq (t n : Nat) : List Int := (List.range' t n).map fun (k : Nat) => (k : Int)
theorem seq_len (t n : Nat) : (seq t n).length = n := by simp [seq]
theorem seq_push (t n : Nat) : seq t n ++ [((t + n : Nat) : Int)] = seq t (n + 1) := by
  unfold seq
  rw [List.range'_concat]; simp
theorem seq_cons {t n : Nat} {x : Int} {q : List Int} (h : seq t n = x :: q) : ∃ n', n = n' + 1 ∧ x = (t : Int) ∧ q = seq (t + 1) n' := by
  cases n with
  | zero => simp [seq] at h
  | succ n' =>
    unfold seq at h
    rw [List.range'_succ, List.map_cons, List.cons.injEq] at h
    exact ⟨n', rfl, h.1.symm, h.2.symm⟩
theorem seq_nil {t n : Nat} (h : seq t n = []) : n = 0 := by
  have := congrArg List.length h
  rw [seq_len] at this; exact this

set_option maxHeartbeats 4000000 in
theorem law_RingOrders (x0 : Int) (x1 : Slc) (w : World) (h0 : 0 ≤ x0 ∧ x0 ≤ 255) (h1 : OkSl w x1 1 1 (fun es => ∃ e_ : Int, es = [Value.int .u8 e_] ∧ (0 ≤ e_ ∧ e_ ≤ 255))) :
    C_towpathlaw10_RingOrders x0 x1 w (fun b w' => b = true ∧ RowKit.Below w.heap.size w w') := by
  apply S_towpathlaw10_RingOrders
  unfold F_towpathlaw10_RingOrders
  obtain ⟨l, hs, hcl, hcap, hl⟩ := ok_bytes h1
  have st := St.start w
  refine sp_towpathlaw10_alive st fun w1 st => ⟨fun _ => sp_towpathlaw10_alive st fun w2 st => ⟨rfl, st.below⟩, fun hlen => ?_⟩
  have hlen : x1.len ≤ 3000 := by
    have : ((x1.len : Nat) : Int) ≤ 3000 := by simpa using hlen
    omega
  have hm0 : 0 ≤ Int.tmod x0 40 := Int.tmod_nonneg _ h0.1
  have hm1 : Int.tmod x0 40 < 40 := Int.tmod_lt_of_pos _ (by omega)
  have hmost : IntKind.i64.wrap (1 + IntKind.i64.wrap (Int.tmod x0 40)) = 1 + Int.tmod x0 40 := by rw [i64_in (Int.tmod x0 40) (by omega) (by omega), i64_in _ (by omega) (by omega)]
  obtain ⟨M, hM⟩ : ∃ M : Nat, 1 + Int.tmod x0 40 = (M : Int) := toN (by omega)
  rw [hmost, hM]
  refine sp_ring_New st (fun h => by omega) fun _ _ r bs w3 o st => ⟨fun h => by simp at h, fun _ => ?_⟩
  rw [Int.toNat_natCast] at o
  refine ⟨fun put took i w' => ∃ (t n : Nat) (bs : List Chunk), 0 ≤ i ∧ i ≤ x1.len ∧ took = (t : Int) ∧ put = ((t + n : Nat) : Int) ∧ ((t + n : Nat) : Int) ≤ 50 * i ∧ RingO r ⟨seq t n, M, false⟩ bs ∧ St w (bs ++ []) w',
    fun _ _ i _ => x1.len - i.toNat, ⟨0, 0, bs, by omega, by omega, rfl, rfl, by omega, o, st⟩, ?_⟩
  rintro put took i w4 ⟨t, n, bs, hi0, hi1, rfl, rfl, hb, o, st⟩
  unfold F_towpathlaw10_RingOrders_L0
  refine ⟨fun hi => ?_, fun hi => ?_⟩
  · have hi := of_decide_eq_true hi
    have wi : IntKind.i64.wrap (i + 1) = i + 1 := wrap_next hi0 hi (by omega)
    obtain ⟨x, hx⟩ : ∃ x, l[i.toNat]? = some x := ⟨_, List.getElem?_eq_getElem (by have := hs.len_eq; omega)⟩
    have hxb := x.toNat_lt
    have rd : ∀ {w' : World} {bs' : List Chunk}, St w bs' w' → IsAt x1.ptr ∧ w'.cell? ⟨pblk x1.ptr, poff x1.ptr + i.toNat, none⟩ = some (Value.int .u8 (x.toNat : Int)) := fun st' => by
      obtain ⟨a, y, hy, hc⟩ := (st'.ext.src hs).get hi0 hi
      rw [hx] at hy
      obtain rfl := Option.some.inj hy
      exact ⟨a, hc⟩
    have hA0 : 0 ≤ Int.tmod (x.toNat : Int) 50 := Int.tmod_nonneg _ (by omega)
    have hA1 : Int.tmod (x.toNat : Int) 50 < 50 := Int.tmod_lt_of_pos _ (by omega)
    have hAw : IntKind.i64.wrap (Int.tmod (x.toNat : Int) 50) = Int.tmod (x.toNat : Int) 50 := i64_in _ (by omega) (by omega)
    refine ⟨fun put k w' => ∃ (n' : Nat) (bs : List Chunk), 0 ≤ k ∧ k ≤ Int.tmod (x.toNat : Int) 50 ∧ put = ((t + n' : Nat) : Int) ∧ ((t + n' : Nat) : Int) ≤ 50 * i + k ∧ RingO r ⟨seq t n', M, false⟩ bs ∧ St w (bs ++ []) w',
      fun _ k _ => 50 - k.toNat, ⟨n, bs, by omega, by omega, rfl, by omega, o, st⟩, ?_⟩
    rintro put k w5 ⟨n, bs, hk0, hk1, rfl, hb, o, st⟩
    unfold F_towpathlaw10_RingOrders_L1
    have hnM : n ≤ M := by
      obtain ⟨_, _, _, _, _, _, _, _, _, _, hq, _⟩ := o
      rw [seq_len] at hq; exact hq
    refine ⟨(rd st).1, hi0, hi, _, (rd st).2, ?_⟩
    rw [hAw]
    have hsub : IntKind.i64.wrap (((t + n : Nat) : Int) - (t : Int)) = (n : Int) := by rw [i64_in _ (by omega) (by omega)]; omega
    refine ⟨fun hk => ?_, fun hk => ?_⟩
    · have hk := of_decide_eq_true hk
      have wk : IntKind.i64.wrap (k + 1) = k + 1 := i64_in _ (by omega) (by omega)
      rw [hsub]
      unfold F_towpathlaw10_RingOrders_k2
      simp only [wk]
      refine sp_ring_Put st o (fun hr w6 st => ?_) fun hr bs w6 o st => ?_
      · have hr : (M : Int) - n = 0 := by simpa [RM.room, seq_len] using hr
        refine ⟨fun hh => ?_, fun _ => ⟨fun hh => (by cases hh), fun _ => ⟨⟨n, bs, by omega, by omega, rfl, by omega, o, st⟩, by first | omega | (show _ - _ < _ - _; omega)⟩⟩⟩
        rw [decide_eq_false (by omega)] at hh; cases hh
      · have hr : (M : Int) - n ≠ 0 := by simpa [RM.room, seq_len] using hr
        have wp : IntKind.i64.wrap (((t + n : Nat) : Int) + 1) = ((t + (n + 1) : Nat) : Int) := by rw [i64_in _ (by omega) (by omega)]; omega
        rw [wp]
        simp only [seq_push] at o
        refine ⟨fun hh => ?_, fun _ => ⟨fun _ => ⟨⟨n + 1, bs, by omega, by omega, rfl, by omega, o, st⟩, by first | omega | (show _ - _ < _ - _; omega)⟩, fun hh => (by cases hh)⟩⟩
        rw [decide_eq_true (by omega)] at hh; cases hh
    · have hk := of_decide_eq_false hk
      have hk2 : ((t + n : Nat) : Int) ≤ 50 * i + 50 := by omega
      clear hb
      have hB1 : Int.tdiv (x.toNat : Int) 5 = ((x.toNat / 5 : Nat) : Int) := tdiv_nat x.toNat 5
      have hBw : IntKind.i64.wrap (IntKind.u8.wrap (Int.tdiv (x.toNat : Int) 5)) = ((x.toNat / 5 : Nat) : Int) := by
        rw [hB1, u8_in _ (by omega) (by omega), i64_in _ (by omega) (by omega)]
      refine ⟨fun took k w' => ∃ (t' n' : Nat) (bs : List Chunk), 0 ≤ k ∧ took = (t' : Int) ∧ t' + n' = t + n ∧ RingO r ⟨seq t' n', M, false⟩ bs ∧ St w (bs ++ []) w',
        fun _ k _ => 100 - k.toNat, ⟨t, n, bs, by omega, rfl, rfl, o, st⟩, ?_⟩
      rintro took k1 w8 ⟨t', n', bs, hk0', rfl, htn, o, st⟩
      unfold F_towpathlaw10_RingOrders_L3
      refine ⟨(rd st).1, hi0, hi, _, (rd st).2, ?_⟩
      rw [hBw]
      refine ⟨fun hk => ?_, fun hk => ?_⟩
      · have hk := of_decide_eq_true hk
        have wk : IntKind.i64.wrap (k1 + 1) = k1 + 1 := i64_in _ (by omega) (by omega)
        have hx5 : x.toNat / 5 ≤ 51 := by omega
        unfold F_towpathlaw10_RingOrders_k4
        simp only [wk]
        refine sp_ring_Take st o (fun hq w9 st => ?_) fun y q' hq bs w9 o st => ?_
        · have hn := seq_nil hq
          refine ⟨fun hh => ?_, fun _ => ⟨fun hh => (by cases hh), fun _ => ⟨⟨t', n', bs, by omega, rfl, htn, o, st⟩, by first | omega | (show _ - _ < _ - _; omega)⟩⟩⟩
          rw [decide_eq_false (by omega)] at hh; simp at hh
        · obtain ⟨n2, rfl, rfl, rfl⟩ := seq_cons hq
          have wp : IntKind.i64.wrap ((t' : Int) + 1) = ((t' + 1 : Nat) : Int) := by rw [i64_in _ (by omega) (by omega)]; omega
          rw [wp]
          refine ⟨fun hh => ?_, fun _ => ⟨fun _ => ⟨⟨t' + 1, n2, bs, by omega, rfl, by omega, o, st⟩, by first | omega | (show _ - _ < _ - _; omega)⟩, fun hh => (by cases hh)⟩⟩
          rw [decide_eq_true (by omega)] at hh; simp at hh
      · have hsub : IntKind.i64.wrap (((t + n : Nat) : Int) - (t' : Int)) = (n' : Int) := by rw [i64_in _ (by omega) (by omega)]; omega
        have hnM : n' ≤ M := by
          obtain ⟨_, _, _, _, _, _, _, _, _, _, hq, _⟩ := o
          rw [seq_len] at hq; exact hq
        rw [hsub]
        unfold F_towpathlaw10_RingOrders_k5
        refine sp_ring_Len st o ⟨fun hh => ?_, fun _ => ?_⟩
        · rw [seq_len] at hh; simp at hh
        · refine sp_ring_Len st o (sp_ring_Room st o fun w10 st => ⟨fun hh => ?_, fun _ => ?_⟩)
          · rw [hmost, hM] at hh
            simp only [seq_len, RM.room] at hh
            rw [if_neg (by decide), i64_in _ (by omega) (by omega)] at hh
            have : ((n' : Int) + ((M : Int) - (n' : Int)) != (M : Int)) = false := by simp; omega
            rw [this] at hh; cases hh
          · rw [wi]
            exact ⟨⟨t', n', bs, by omega, by omega, rfl, by rw [htn], by omega, o, st⟩, by first | omega | (show _ - _ < _ - _; omega)⟩
  · have hi := of_decide_eq_false hi
    refine sp_ring_Close st o fun bs w15 o st => ?_
    refine ⟨fun took w' => ∃ (t' n' : Nat) (bs : List Chunk), took = (t' : Int) ∧ t' + n' = t + n ∧ RingO r ⟨seq t' n', M, true⟩ bs ∧ St w (bs ++ []) w', fun took _ => t + n - took.toNat, ⟨t, n, bs, rfl, rfl, o, st⟩, ?_⟩
    rintro took w16 ⟨t', n', bs, rfl, htn, o, st⟩
    unfold F_towpathlaw10_RingOrders_L6 F_towpathlaw10_RingOrders_k7
    refine ⟨fun hk => ?_, fun hk => ?_⟩
    · have hk := of_decide_eq_true hk
      have wp : IntKind.i64.wrap ((t' : Int) + 1) = ((t' + 1 : Nat) : Int) := by rw [i64_in _ (by omega) (by omega)]; omega
      refine sp_ring_Take st o (fun hq => by have := seq_nil hq; omega) fun y q' hq bs w17 o st => ?_
      obtain ⟨n2, rfl, rfl, rfl⟩ := seq_cons hq
      refine ⟨fun hh => by simp at hh, fun _ => sp_ring_Room st o fun w18 st => ⟨fun hh => by simp [RM.room] at hh, fun _ => ?_⟩⟩
      rw [wp]
      exact ⟨⟨t' + 1, n2, bs, rfl, by omega, o, st⟩, by first | omega | (show _ - _ < _ - _; omega)⟩
    · have hk := of_decide_eq_false hk
      refine sp_ring_Take st o (fun hq w20 st => ⟨fun _ => ?_, fun hh => by simp at hh⟩) fun y q' hq => by obtain ⟨n2, rfl, rfl, rfl⟩ := seq_cons hq; omega
      refine sp_ring_Over st o ⟨?_, st.below⟩
      simp only [seq_len]
      have := seq_nil hq
      rw [decide_eq_true this]; rfl

end Go.Proofs.Ytchcljkflklddaa
