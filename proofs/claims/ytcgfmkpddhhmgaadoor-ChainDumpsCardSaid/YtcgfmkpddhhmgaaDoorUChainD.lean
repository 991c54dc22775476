/- Chapter 08: what a checkpoint keeps. -/
import Derived.Test.YtcgfmkpddhhmgaaDoorUChainP
namespace Go.Proofs.YtcgfmkpddhhmgaaDoor
open Go
set_option linter.unusedVariables false

/-- The newest at the mark, if it is no drop. -/
def headV (at_ : Int) (vs : List Ver) : List Ver := match atV at_ vs with
  | some v => if v.Drop then [] else [v]
  | none => []
def dumpV (at_ : Int) (ys : List Int) (vs : List Ver) : List Ver := headV at_ vs ++ (vs.drop (upF at_ vs)).filter fun v => decide (v.Number ∈ ys)

section
variable {w0 w : World} {fr : List Chunk}
theorem sp_Contains {s : Slc} {ys : List Int} {n : Int} {R : Bool → World → Prop} (hs : SrcAt w s 1 (ys.map iV)) (hl : s.len ≤ 4398046511104) (k : R (decide (n ∈ ys)) w) : C_slices_Contains_int_int s n w R := by
  apply S_slices_Contains_int_int
  unfold F_slices_Contains_int_int
  apply S_slices_Index_int_int
  have hsl := hs.len_eq
  refine ⟨fun i w' => ∃ p : Nat, i = (p : Int) ∧ p ≤ s.len ∧ (n ∈ ys ↔ n ∈ ys.drop p) ∧ w' = w, fun i _ => s.len - i.toNat, ⟨0, rfl, by omega, by simp, rfl⟩, ?_⟩
  rintro i w1 ⟨p, rfl, hp, hd, rfl⟩
  unfold F_slices_Index_int_int_L0
  refine ⟨fun hi => ?_, fun hi => ?_⟩
  · have hi := of_decide_eq_true hi
    obtain ⟨a, x, hx, hc⟩ := hs.get (i := (p : Int)) (by omega) hi
    rw [Int.toNat_natCast] at hx
    have hpl := (List.getElem?_eq_some_iff.1 hx).1
    have hdc : ys.drop p = x :: ys.drop (p + 1) := by
      rw [List.drop_eq_getElem_cons hpl]
      rw [List.getElem?_eq_getElem hpl] at hx
      rw [Option.some.inj hx]
    refine ⟨a, by omega, hi, x, hc, fun he => ?_, fun he => ?_⟩
    · have he : n = x := by simpa using he
      show R (decide ((p : Int) ≥ 0)) w1
      rw [decide_eq_true (show (p : Int) ≥ 0 by omega)]
      rw [decide_eq_true (show n ∈ ys from he ▸ List.mem_of_getElem? hx)] at k
      exact k
    · have he : n ≠ x := by simpa using he
      have wp : IntKind.i64.wrap ((p : Int) + 1) = ((p + 1 : Nat) : Int) := by rw [i64_in _ (by omega) (by omega)]; omega
      rw [wp]
      refine ⟨⟨p + 1, rfl, by omega, ?_, rfl⟩, by show _ - _ < _ - _; omega⟩
      rw [hd, hdc, List.mem_cons]
      constructor
      · rintro (e | e)
        · exact absurd e he
        · exact e
      · exact .inr
  · have hi := of_decide_eq_false hi
    rw [List.drop_eq_nil_of_le (by omega)] at hd
    show R (decide ((-1 : Int) ≥ 0)) w1
    rw [decide_eq_false (show ¬ (-1 : Int) ≥ 0 by omega)]
    rw [decide_eq_false (fun h => by have := hd.1 h; cases this)] at k
    exact k

theorem dump_loop {l bey : Slc} {at_ : Int} {vs out0 : List Ver} {ys : List Int} {out : Slc} {ob : List Chunk} {R : Slc → Int → World → Prop} (ro : RowC 3 out (out0.flatMap verC) ob) (st : St w0 (ob ++ fr) w) (hU : upF at_ vs ≤ vs.length) (hlen : l.len = vs.length) (hlc : l.len ≤ l.cap) (hl : l.len ≤ 1099511627776) (hbl : bey.len ≤ 1099511627776) (hol : out.len ≤ 1)
    (hs : ∀ {l' : List Chunk} {w' : World}, St w0 (l' ++ fr) w' → SrcAt w' l 3 (vs.flatMap verC)) (hb : ∀ {l' : List Chunk} {w' : World}, St w0 (l' ++ fr) w' → SrcAt w' bey 1 (ys.map iV))
    (k : ∀ s rb w', RowC 3 s ((out0 ++ (vs.drop (upF at_ vs)).filter fun v => decide (v.Number ∈ ys)).flatMap verC) rb → St w0 (rb ++ fr) w' → s.len ≤ vs.length + 1 → R s 0 w') : F_chain_Dump_k0 l bey R (upF at_ vs : Int) out w := by
  unfold F_chain_Dump_k0
  refine ⟨⟨by omega, by omega, by omega, by omega⟩, fun s hsc => ?_⟩
  have hsl : s.len = vs.length - upF at_ vs := by rw [hsc, Slc.cut_len (by omega) (by omega)]; simp; omega
  have hsrc : ∀ {l' : List Chunk} {w' : World}, St w0 (l' ++ fr) w' → SrcAt w' s 3 ((vs.drop (upF at_ vs)).flatMap verC) := fun st => by
    have hc := (hs st).cut (lo := ((upF at_ vs : Nat) : Int)) (hi := ((l.len : Nat) : Int)) (mx := ((l.cap : Nat) : Int)) (by omega) (by omega) (by omega) (by omega)
    rw [← hsc, Int.toNat_natCast, Int.toNat_natCast] at hc
    have e1 : ((vs.flatMap verC).drop (upF at_ vs * 3)).take ((l.len - upF at_ vs) * 3) = (vs.drop (upF at_ vs)).flatMap verC := by
      conv => lhs; rw [← List.take_append_drop (upF at_ vs) vs, List.flatMap_append]
      rw [List.drop_left' (by rw [flatMap_len verC_len, List.take_append_drop, List.length_take, Nat.min_eq_left hU]), List.take_append_drop, List.take_of_length_le (by rw [flatMap_len verC_len, List.length_drop]; omega)]
    rw [e1] at hc
    exact hc
  refine ⟨fun out i w' => ∃ (p : Nat) (ob : List Chunk), i = (p : Int) ∧ p ≤ s.len ∧ out.len ≤ 1 + p ∧ RowC 3 out ((out0 ++ ((vs.drop (upF at_ vs)).take p).filter fun v => decide (v.Number ∈ ys)).flatMap verC) ob ∧ St w0 (ob ++ fr) w', fun _ i _ => s.len - i.toNat, ⟨0, ob, rfl, by omega, by omega, by simpa using ro, st⟩, ?_⟩
  clear st ro
  rintro out1 i w1 ⟨p, ob, rfl, hp, hol, ro, st⟩
  unfold F_chain_Dump_L1
  refine ⟨fun hi => ?_, fun hi => ?_⟩
  · have hi := of_decide_eq_true hi
    obtain ⟨a, v, hv, hc⟩ := ver_at (hsrc st) (i := p) (by omega)
    have wp : IntKind.i64.wrap ((p : Int) + 1) = ((p + 1 : Nat) : Int) := by rw [i64_in _ (by omega) (by omega)]; omega
    have htk : (vs.drop (upF at_ vs)).take (p + 1) = (vs.drop (upF at_ vs)).take p ++ [v] := by rw [List.take_add_one, hv]; rfl
    refine ⟨a, by omega, hi, v, by rw [Int.toNat_natCast]; exact hc, fun b w6 hb6 hw6 => ?_⟩
    have st := st.alloc hb6 hw6
    refine ⟨st.writable 0 rfl (by simp), fun w7 hw7 => ?_⟩
    have st : St w0 ([(b, verC v)] ++ (ob ++ fr)) w7 := st.put0 hw7
    refine ⟨v.Number, st.cell 0 rfl rfl, sp_Contains (hb (l' := [(b, verC v)] ++ ob) (by rw [List.append_assoc]; exact st)) (by omega) ⟨fun hh => ?_, fun hh => ?_⟩⟩
    · refine ⟨v, (st.get 0 rfl).all, fun b1 w9 hb1 hw9 => ⟨_, srcAt_newN hb1 hw9 rfl, ?_⟩⟩
      have st : St w0 (ob ++ fr) w9 := (st.drop).keep (Ext.new hw9)
      refine ro.append st rfl rfl rfl (by omega) fun out2 ob2 w10 ro2 st hl2 => ?_
      unfold F_chain_Dump_k2
      rw [wp]
      refine ⟨⟨p + 1, ob2, rfl, by omega, by omega, ?_, st⟩, by show _ - _ < _ - _; omega⟩
      rw [htk, List.filter_append, List.filter_cons, if_pos hh, List.filter_nil, ← List.append_assoc, List.flatMap_append (xs := out0 ++ _), flatMap_1]
      exact ro2
    · unfold F_chain_Dump_k2
      rw [wp]
      refine ⟨⟨p + 1, ob, rfl, by omega, by omega, ?_, st.drop⟩, by show _ - _ < _ - _; omega⟩
      rw [htk, List.filter_append, List.filter_cons, if_neg (by rw [hh]; decide), List.filter_nil, List.append_nil]
      exact ro
  · have hi := of_decide_eq_false hi
    rw [List.take_of_length_le (by rw [List.length_drop]; omega)] at ro
    exact k out1 ob w1 ro st (by omega)

theorem sp_chain_Dump {l bey : Slc} {at_ : Int} {vs : List Ver} {ys : List Int} {R : Slc → Int → World → Prop} (st : St w0 fr w) (hlc : l.len ≤ l.cap) (hl : l.len ≤ 1099511627776) (hbl : bey.len ≤ 1099511627776)
    (hs : ∀ {l' : List Chunk} {w' : World}, St w0 (l' ++ fr) w' → SrcAt w' l 3 (vs.flatMap verC)) (hb : ∀ {l' : List Chunk} {w' : World}, St w0 (l' ++ fr) w' → SrcAt w' bey 1 (ys.map iV))
    (k0 : okC 0 vs = false → ∀ w', St w0 fr w' → R ⟨none, 0, 0⟩ 1 w')
    (k1 : okC 0 vs = true → ∀ s rb w', RowC 3 s ((dumpV at_ ys vs).flatMap verC) rb → St w0 (rb ++ fr) w' → s.len ≤ vs.length + 1 → R s 0 w') : C_chain_Dump l at_ bey w R := by
  apply S_chain_Dump
  unfold F_chain_Dump
  have hsl := ver_len (hs (l' := []) st)
  refine sp_chain_Check (hs (l' := []) st) (by omega) fun w2 e2 => ?_
  have st := st.keep e2
  cases hok : okC 0 vs with
  | false => exact ⟨fun _ => k0 hok w2 st, fun h => by simp at h⟩
  | true =>
    have hr := (okC_iff.1 hok).1
    have hu := upF_le at_ vs
    refine ⟨fun h => by simp at h, fun _ => sp_upto (hs (l' := []) st) (by omega) hr fun w4 e4 => ?_⟩
    have st := st.keep e4
    have k1 := k1 hok
    have empty : headV at_ vs = [] → F_chain_Dump_k3 l bey R (upF at_ vs : Int) false w4 := fun he => by
      unfold F_chain_Dump_k3
      refine ⟨fun h => (by cases h), fun _ => dump_loop (out0 := []) (ob := []) RowC.nil st hu (by omega) hlc hl hbl (by show 0 ≤ 1; omega) hs hb fun s rb w' ro st hl' => k1 s rb w' ?_ st hl'⟩
      unfold dumpV; rw [he]; exact ro
    refine ⟨fun h => ?_, fun h => ?_⟩
    · have h := of_decide_eq_true h
      have wm : IntKind.i64.wrap (((upF at_ vs : Nat) : Int) - 1) = ((upF at_ vs - 1 : Nat) : Int) := by rw [i64_in _ (by omega) (by omega)]; omega
      obtain ⟨a, u, hv, hc⟩ := ver_at (hs (l' := []) st) (i := upF at_ vs - 1) (by omega)
      have hat : atV at_ vs = some u := by unfold atV; rw [if_neg (by omega), hv]
      rw [wm]
      refine ⟨a, by omega, by omega, u.Drop, by rw [Int.toNat_natCast]; exact cellsAt_iff.1 hc 2 _ rfl, ?_⟩
      cases hd : u.Drop with
      | true => exact empty (by unfold headV; simp [hat, hd])
      | false =>
        unfold F_chain_Dump_k3
        refine ⟨fun _ => ?_, fun h => (by cases h)⟩
        rw [wm]
        refine ⟨a, by omega, by omega, u, by rw [Int.toNat_natCast]; exact hc, fun b2 w12 hb2 hw12 => ⟨_, srcAt_newN hb2 hw12 rfl, ?_⟩⟩
        have st : St w0 fr w12 := st.keep (Ext.new hw12)
        refine RowC.nil.append (l := fr) st rfl rfl rfl (by show (0 + 1) * 32 ≤ _; omega) fun out2 ob2 w10 ro2 st hl2 => ?_
        have hl2 : out2.len = 1 := hl2
        refine dump_loop (out0 := [u]) (by rw [flatMap_1]; exact ro2) st hu (by omega) hlc hl hbl (by omega) hs hb fun s rb w' ro st hl' => k1 s rb w' ?_ st hl'
        have : headV at_ vs = [u] := by unfold headV; simp [hat, hd]
        unfold dumpV; rw [this]; exact ro
    · have h := of_decide_eq_false h
      exact empty (by unfold headV atV; rw [if_pos (by omega)])
end
end Go.Proofs.YtcgfmkpddhhmgaaDoor
