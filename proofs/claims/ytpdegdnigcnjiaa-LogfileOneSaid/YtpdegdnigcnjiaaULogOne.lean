/- Chapter 06: law: whatever is read is a log, of which the part that was read is the one encoding. -/
import Derived.Test.YtpdegdnigcnjiaaULogA
import Derived.Test.YtpdegdnigcnjiaaUBeyA
import Derived.Test.YtpdegdnigcnjiaaGLogfileOne
namespace Go.Proofs.Ytpdegdnigcnjiaa
open Go
set_option linter.unusedVariables false
set_option linter.unusedSimpArgs false

theorem beq_of_iff {p q : Prop} [Decidable p] [Decidable q] (h : p ↔ q) : ((decide p) == (decide q)) = true := by
  by_cases hp : p
  · rw [decide_eq_true hp, decide_eq_true (h.1 hp)]; rfl
  · rw [decide_eq_false hp, decide_eq_false (fun hq => hp (h.2 hq))]; rfl
theorem beq_int (a b : Int) : (a == b) = decide (a = b) := by
  by_cases h : a = b
  · subst h; simp
  · rw [decide_eq_false h]; simpa using h

theorem law_LogfileOne (x0 : Slc) (w : World) (h0 : OkSl w x0 1 1 (fun es => ∃ e_ : Int, es = [Value.int .u8 e_] ∧ (0 ≤ e_ ∧ e_ ≤ 255))) :
    C_towpathlaw06_LogfileOne x0 w (fun b w' => b = true ∧ RowKit.Below w.heap.size w w') := by
  apply S_towpathlaw06_LogfileOne
  unfold F_towpathlaw06_LogfileOne
  obtain ⟨xs, hs, hcl, hcap, hl⟩ := ok_bytes h0
  have st := St.start w
  refine sp_towpathlaw06_alive st fun w1 st => ⟨fun h => by simp at h, fun _ => fun b w2 hb hw => ?_⟩
  have st := st.alloc hb hw
  refine sp_BeyondAny hb hw fun v => ?_
  unfold F_towpathlaw06_LogfileOne_k0
  refine ⟨fun _ => sp_towpathlaw06_alive st fun w3 st => ⟨rfl, st.below⟩, fun _ => ?_⟩
  refine sp_lf_Read (xs := xs) st (fun B l w' hB st' => by have e := st'.ext; rw [hB] at e; exact e.src hs) (by omega) fun ts rem e sl sls cs w3 hrd hlo hcp st => ?_
  obtain ⟨hc, hx, he⟩ := rd_sound hrd
  have htl := chkL_len hc
  have hsl := (hlo st).slen
  refine sp_lf_Encode (sl := sl) (ts := ts) (sls := sls) st (fun l w' st' => hlo (fr := l ++ [(b, [Value.int .i64 ((x0.len : Nat) : Int)])]) (st'.perm (perm_of_sum fun f_ => by simp only [List.map_append, List.map_cons, List.map_nil, List.sum_append, List.sum_cons, List.sum_nil, List.append_nil]; omega))) (by omega) (fun h => absurd hc h) fun _ s rb w4 ro st4 hs4 => ?_
  have hxl : xs.length = (encL ts).length + rem.length := by rw [hx, List.length_append]
  have hgood : ((xs.length - rem.length : Nat) : Int) = (((encL ts).length : Nat) : Int) := by omega
  rw [hgood]
  have hif : (e = 0) ↔ ((((encL ts).length : Nat) : Int) = ((x0.len : Nat) : Int)) := by
    rw [he]
    refine ⟨fun h => ?_, fun h => ?_⟩
    · rw [h] at hxl
      rw [List.length_nil] at hxl
      omega
    · exact List.eq_nil_of_length_eq_zero (by omega)
  have hcond : (((((0 : Int) != 0) || decide ((((encL ts).length : Nat) : Int) < 0)) || decide ((((encL ts).length : Nat) : Int) > ((x0.len : Nat) : Int))) || (!((e == 0) == ((((encL ts).length : Nat) : Int) == ((x0.len : Nat) : Int))))) = false := by
    rw [beq_int e, beq_int, beq_of_iff hif, decide_eq_false (by omega), decide_eq_false (by omega)]; rfl
  rw [hcond]
  refine ⟨fun h => by simp at h, fun _ => ⟨by omega, by omega, ?_⟩⟩
  rw [Int.toNat_natCast]
  have hp := (st4.ext.src hs).pre (k := (encL ts).length) (by omega)
  rw [Nat.mul_one, ← List.map_take] at hp
  have htk : xs.take (encL ts).length = encL ts := by rw [hx, List.take_left]
  rw [htk] at hp
  refine sp_SameBytes (ro.src st4) hp (by omega) fun w5 e5 => ?_
  rw [decide_eq_true (show encL ts = encL ts from rfl)]
  unfold F_towpathlaw06_LogfileOne_k1
  refine ⟨fun h => by simp at h, fun _ => ?_⟩
  have st5 := st4.keep e5
  refine ⟨fun i w' => ∃ p : Nat, i = (p : Int) ∧ p ≤ sl.len ∧ St ⟨w, []⟩ (rb ++ (cs ++ [(b, [Value.int .i64 ((x0.len : Nat) : Int)])])) w', fun i _ => sl.len - i.toNat, ⟨0, rfl, by omega, st5⟩, ?_⟩
  clear st5 e5 hp st4
  rintro i w6 ⟨p, rfl, hp, st6⟩
  unfold F_towpathlaw06_LogfileOne_L2
  refine ⟨fun hi => ?_, fun hi => ⟨rfl, st6.below⟩⟩
  have hi := of_decide_eq_true hi
  have hla := hlo (fr := rb ++ [(b, [Value.int .i64 ((x0.len : Nat) : Int)])]) (st6.perm (perm_of_sum fun f_ => by simp only [List.map_append, List.map_cons, List.map_nil, List.sum_append, List.sum_cons, List.sum_nil, List.append_nil]; omega))
  obtain ⟨a, t, s', ht, hss, hct, hsr, hcp1, hcp2⟩ := hla.get (p := p) (by omega)
  obtain ⟨hok, hnum⟩ := chkL_zero hc ht
  have wp : IntKind.i64.wrap ((p : Int) + 1) = ((p + 1 : Nat) : Int) := by rw [i64_in _ (by omega) (by omega)]; omega
  have hnum : t.1 = ((p + 1 : Nat) : Int) := by omega
  refine ⟨a, by omega, hi, t.1, by rw [Int.toNat_natCast]; exact hct.1, fun h => ?_, fun _ => ⟨a, by omega, hi, ⟨t.1, s'⟩, by rw [Int.toNat_natCast]; exact hct, sp_Check (t := ⟨t.1, s'⟩) hsr (by show s'.len ≤ _; omega) fun w8 e8 => ?_⟩⟩
  · rw [wp] at h
    exact absurd hnum (bne_iff_ne.1 h)
  · have hok' : okT (⟨t.1, s'⟩ : T_api_Txn).Number t.2 := hok
    rw [if_pos hok']
    unfold F_towpathlaw06_LogfileOne_k3
    refine ⟨fun h => by simp at h, fun _ => ?_⟩
    rw [wp]
    exact ⟨⟨p + 1, rfl, by omega, st6.keep e8⟩, by show _ - _ < _ - _; omega⟩
end Go.Proofs.Ytpdegdnigcnjiaa
