/- Chapter 02: the document's writer. -/
import Derived.Test.YtfmkemmgakdddaaGreatDoorUCodecK
import Derived.Test.YtfmkemmgakdddaaGreatDoorGtowpathref02
namespace Go.Proofs.YtfmkemmgakdddaaGreatDoor
open Go
set_option linter.unusedVariables false
set_option linter.unusedSimpArgs false

theorem byteAt_get {s : ByteArray} {i : Int} (h0 : 0 ≤ i) (h1 : i < ((s.size : Nat) : Int)) : ∃ x, s.data.toList[i.toNat]? = some x ∧ byteAt s i = (x.toNat : Int) := by
  have hl : i.toNat < s.data.toList.length := by have : s.data.toList.length = s.size := by simp
                                                 omega
  refine ⟨s.data.toList[i.toNat], List.getElem?_eq_getElem hl, ?_⟩
  unfold byteAt
  rw [List.getD_eq_getElem?_getD, List.getElem?_eq_getElem hl]
  rfl


section
variable {w0 : Base} {w : World} {fr wb : List Chunk} {s : Slc} {xs : List UInt8}
theorem ref_push {x : UInt8} {v : Value} {T : TypeId} {w1 : World} {b2 : Nat} {K : Slc → World → Prop} (r : RowC 1 s (xs.map bV) wb) (st : St w0 (wb ++ fr) w) (hl : xs.length + 1 ≤ 140737488351232) (hv : v = bV x)
    (hb : b2 = w.heap.size) (hw : w1 = w.alloc (Obj.cells [v].toArray T (0, 0))) (k : ∀ s' wb' w', RowC 1 s' ((xs ++ [x]).map bV) wb' → St w0 (wb' ++ fr) w' → K s' w') :
    ∃ src, SrcAt w1 (Slc.mk (some ⟨b2, 0, none⟩) 1 1) 1 src ∧ AppendW 1 1 T [Value.int .u8 0] s src 1 w1 K := by
  subst hv
  have hsl := r.len
  rw [List.length_map] at hsl
  exact ⟨_, srcAt_new hb hw rfl, r.append (st.alloc hb hw).drop1 rfl rfl rfl (by omega) fun s' wb' w' r' st' _ => k s' wb' w' (by simpa using r') st'⟩

theorem sp_refW_Var {n : Nat} {R : Slc → World → Prop} (r : RowC 1 s (xs.map bV) wb) (st : St w0 (wb ++ fr) w) (hn : n < 2 ^ 64) (hl : xs.length + 20 ≤ 140737488351232)
    (k : ∀ s' wb' w', RowC 1 s' ((xs ++ varF n).map bV) wb' → St w0 (wb' ++ fr) w' → R s' w') : C_towpathref02_Var s (n : Int) w R := by
  apply S_towpathref02_Var
  refine ⟨fun s n1 w' => ∃ (m f : Nat) (pre : List UInt8) (wb : List Chunk), n1 = (m : Int) ∧ pre.length + f = 9 ∧ m < 128 ^ (f + 1) ∧ m < 2 ^ 64 ∧ pre ++ varB (f + 1) m = varF n ∧ RowC 1 s ((xs ++ pre).map bV) wb ∧ St w0 (wb ++ fr) w', fun _ n1 _ => n1.toNat,
    ⟨n, 9, [], wb, rfl, rfl, by have : (2 : Nat) ^ 64 ≤ 128 ^ (9 + 1) := by decide
                                omega, hn, rfl, by simpa using r, st⟩, ?_⟩
  rintro s1 n1 w1 ⟨m, f, pre, wb, rfl, hpf, hm, hm64, hpre, r, st⟩
  unfold F_towpathref02_Var_L0
  refine ⟨fun h => ?_, fun h => ?_⟩
  · have h := of_decide_eq_true h
    have hm128 : 128 ≤ m := by omega
    have ht : Int.tmod (m : Int) 128 = ((m % 128 : Nat) : Int) := tmod_nat m 128
    have hd : Int.tdiv (m : Int) 128 = ((m / 128 : Nat) : Int) := tdiv_nat m 128
    refine fun b2 w2 hb hw => ref_push (x := UInt8.ofNat (m % 128 + 128)) r st (by simp; omega) ?_ hb hw fun s' wb' w' r' st' => ?_
    · rw [bV_ofNat (by omega), ht, u64_in _ (by omega) (by omega), wrap_u8]
      congr 1; omega
    · rw [hd, u64_in _ (by omega) (by omega)]
      have hf0 : f ≠ 0 := fun e => by subst e; simp at hm; omega
      obtain ⟨f, rfl⟩ := Nat.exists_eq_succ_of_ne_zero hf0
      refine ⟨⟨m / 128, f, pre ++ [UInt8.ofNat (m % 128 + 128)], wb', rfl, by simp; omega, ?_, by omega, ?_, by simpa using r', st'⟩, by show m / 128 < m; omega⟩
      · rw [Nat.div_lt_iff_lt_mul (by decide), ← Nat.pow_succ]; exact hm
      · rw [← hpre]
        conv => rhs; rw [varB, if_neg (by omega)]
        simp
  · have h := of_decide_eq_false h
    refine fun b2 w2 hb hw => ref_push (x := UInt8.ofNat m) r st (by simp; omega) ?_ hb hw fun s' wb' w' r' st' => k s' wb' w' ?_ st'
    · rw [bV_ofNat (by omega), wrap_u8]
      congr 1; omega
    · rw [varB, if_pos (by omega)] at hpre
      rw [List.append_assoc, hpre] at r'
      exact r'
theorem sp_refW_Text {t : ByteArray} {R : Slc → World → Prop} (r : RowC 1 s (xs.map bV) wb) (st : St w0 (wb ++ fr) w) (hl : xs.length + t.size + 40 ≤ 140737488351232)
    (k : ∀ s' wb' w', RowC 1 s' ((xs ++ (varF t.size ++ t.data.toList)).map bV) wb' → St w0 (wb' ++ fr) w' → R s' w') : C_towpathref02_Text s t w R := by
  apply S_towpathref02_Text
  unfold F_towpathref02_Text
  rw [show IntKind.u64.wrap ((t.size : Nat) : Int) = ((t.size : Nat) : Int) from u64_in _ (by omega) (by omega)]
  have hv := varB_len 10 t.size
  refine sp_refW_Var r st (by omega) (by omega) fun s1 wb1 w1 r1 st1 => ?_
  have htl : t.data.toList.length = t.size := by simp
  refine ⟨fun s i w' => ∃ (p : Nat) (wb : List Chunk), i = (p : Int) ∧ p ≤ t.size ∧ RowC 1 s ((xs ++ (varF t.size ++ t.data.toList.take p)).map bV) wb ∧ St w0 (wb ++ fr) w', fun _ i _ => t.size - i.toNat, ⟨0, wb1, rfl, by omega, by simpa using r1, st1⟩, ?_⟩
  rintro s2 i w2 ⟨p, wb2, rfl, hp, r2, st2⟩
  unfold F_towpathref02_Text_L0
  refine ⟨fun h => ?_, fun h => ?_⟩
  · have h := of_decide_eq_true h
    obtain ⟨x, hx, hbx⟩ := byteAt_get (s := t) (i := (p : Int)) (by omega) h
    rw [Int.toNat_natCast] at hx
    refine ⟨by omega, h, fun b2 w3 hb hw => ref_push (x := x) r2 st2 ?_ (by rw [hbx]) hb hw fun s' wb' w' r' st' => ?_⟩
    · simp only [List.length_append, List.length_take]; unfold varF; omega
    · have wp : IntKind.i64.wrap ((p : Int) + 1) = ((p + 1 : Nat) : Int) := by rw [i64_in _ (by omega) (by omega)]; omega
      rw [wp]
      refine ⟨⟨p + 1, wb', rfl, by omega, ?_, st'⟩, by show _ - _ < _ - _; omega⟩
      rw [List.take_add_one, hx]
      simpa using r'
  · have h := of_decide_eq_false h
    rw [List.take_of_length_le (by omega)] at r2
    exact k s2 wb2 w2 r2 st2
end
end Go.Proofs.YtfmkemmgakdddaaGreatDoor
