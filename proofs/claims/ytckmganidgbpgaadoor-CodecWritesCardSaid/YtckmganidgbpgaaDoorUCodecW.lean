/- Chapter 02: the document's writer; the law CodecWrites. -/
import Derived.Test.YtckmganidgbpgaaDoorUCodecOp
import Derived.Test.YtckmganidgbpgaaDoorUZigW
import Derived.Test.YtckmganidgbpgaaDoorUBookByte
import Derived.Test.YtckmganidgbpgaaDoorGtowpathref02
import Derived.Test.YtckmganidgbpgaaDoorGCodecWrites
namespace Go.Proofs.YtckmganidgbpgaaDoor
open Go
set_option linter.unusedVariables false

theorem St.inner {w0 w : World} {a b c l : List Chunk} (h : St w0 (c ++ (a ++ (b ++ l))) w) : St w0 (c ++ (b ++ (a ++ l))) w := h.perm ((List.perm_append_comm_assoc a b l).append_left c)
theorem St.skip3 {w0 w : World} {a b c l : List Chunk} (h : St w0 (a ++ (b ++ (c ++ l))) w) : St w0 (a ++ (b ++ l)) w := h.sub (List.Sublist.append (List.Sublist.refl a) (List.Sublist.append (List.Sublist.refl b) (List.sublist_append_right c l)))
theorem St.rot {w0 w : World} {a l : List Chunk} (h : St w0 (a ++ l) w) : St w0 (l ++ a) w := h.perm List.perm_append_comm

theorem byteAt_get {s : ByteArray} {i : Int} (h0 : 0 ≤ i) (h1 : i < ((s.size : Nat) : Int)) : ∃ x, s.data.toList[i.toNat]? = some x ∧ byteAt s i = (x.toNat : Int) := by
  have hl : i.toNat < s.data.toList.length := by have : s.data.toList.length = s.size := by simp
                                                 omega
  refine ⟨s.data.toList[i.toNat], List.getElem?_eq_getElem hl, ?_⟩
  unfold byteAt
  rw [List.getD_eq_getElem?_getD, List.getElem?_eq_getElem hl]
  rfl


section
variable {w0 w : World} {fr wb : List Chunk} {s : Slc} {xs : List UInt8}
theorem ref_push {x : UInt8} {v : Value} {T : TypeId} {w1 : World} {b2 : Nat} {K : Slc → World → Prop} (r : RowC 1 s (xs.map bV) wb) (st : St w0 (wb ++ fr) w) (hl : xs.length + 1 ≤ 140737488351232) (hv : v = bV x)
    (hb : b2 = w.heap.size) (hw : w1 = w.alloc (Obj.cells [v].toArray T (0, 0))) (k : ∀ s' wb' w', RowC 1 s' ((xs ++ [x]).map bV) wb' → St w0 (wb' ++ fr) w' → K s' w') :
    ∃ src, SrcAt w1 (Slc.mk (some ⟨b2, 0, none⟩) 1 1) 1 src ∧ AppendW 1 1 T [Value.int .u8 0] s src 1 w1 K := by
  subst hv
  have hsl := r.len
  rw [List.length_map] at hsl
  exact ⟨_, srcAt_new hb hw rfl, r.append (st.alloc hb hw).drop1 rfl rfl rfl (by omega) fun s' wb' w' r' st' _ => k s' wb' w' (by simpa using r') st'⟩

theorem sp_refW_Var {n : Nat} {R : Slc → World → Prop} (r : RowC 1 s (xs.map bV) wb) (st : St w0 (wb ++ fr) w) (hn : n < 2 ^ 64) (hl : xs.length + 20 ≤ 140737488351232)
    (k : ∀ s' wb' w', RowC 1 s' ((xs ++ varF n).map bV) wb' → St w0 (wb' ++ fr) w' → R s' w') : C_towpathref02_Var s (n : Int) w R := by
  apply S_towpathref02_Var
  refine ⟨fun s n1 w' => ∃ (m f : Nat) (pre : List UInt8) (wb : List Chunk), n1 = (m : Int) ∧ pre.length + f = 9 ∧ m < 128 ^ (f + 1) ∧ m < 2 ^ 64 ∧ pre ++ varB (f + 1) m = varF n ∧ RowC 1 s ((xs ++ pre).map bV) wb ∧ St w0 (wb ++ fr) w', fun _ n1 _ => n1.toNat,
    ⟨n, 9, [], wb, rfl, rfl, by have : (2 : Nat) ^ 64 ≤ 128 ^ (9 + 1) := by decide
                                omega, hn, rfl, by simpa using r, st⟩, ?_⟩
  rintro s1 n1 w1 ⟨m, f, pre, wb, rfl, hpf, hm, hm64, hpre, r, st⟩
  unfold F_towpathref02_Var_L0
  refine ⟨fun h => ?_, fun h => ?_⟩
  · have h := of_decide_eq_true h
    have hm128 : 128 ≤ m := by omega
    have ht : Int.tmod (m : Int) 128 = ((m % 128 : Nat) : Int) := tmod_nat m 128
    have hd : Int.tdiv (m : Int) 128 = ((m / 128 : Nat) : Int) := tdiv_nat m 128
    refine fun b2 w2 hb hw => ref_push (x := UInt8.ofNat (m % 128 + 128)) r st (by simp; omega) ?_ hb hw fun s' wb' w' r' st' => ?_
    · rw [bV_ofNat (by omega), ht, u64_in _ (by omega) (by omega), wrap_u8]
      congr 1; omega
    · rw [hd, u64_in _ (by omega) (by omega)]
      have hf0 : f ≠ 0 := fun e => by subst e; simp at hm; omega
      obtain ⟨f, rfl⟩ := Nat.exists_eq_succ_of_ne_zero hf0
      refine ⟨⟨m / 128, f, pre ++ [UInt8.ofNat (m % 128 + 128)], wb', rfl, by simp; omega, ?_, by omega, ?_, by simpa using r', st'⟩, by show m / 128 < m; omega⟩
      · rw [Nat.div_lt_iff_lt_mul (by decide), ← Nat.pow_succ]; exact hm
      · rw [← hpre]
        conv => rhs; rw [varB, if_neg (by omega)]
        simp
  · have h := of_decide_eq_false h
    refine fun b2 w2 hb hw => ref_push (x := UInt8.ofNat m) r st (by simp; omega) ?_ hb hw fun s' wb' w' r' st' => k s' wb' w' ?_ st'
    · rw [bV_ofNat (by omega), wrap_u8]
      congr 1; omega
    · rw [varB, if_pos (by omega)] at hpre
      rw [List.append_assoc, hpre] at r'
      exact r'

theorem sp_power {n : Nat} {R : Int → World → Prop} (hn : n < 64) (k : R ((2 ^ n : Nat) : Int) w) : C_towpathref02_power (n : Int) w R := by
  apply S_towpathref02_power
  refine ⟨fun p i w' => ∃ j : Nat, i = (j : Int) ∧ j ≤ n ∧ p = ((2 ^ j : Nat) : Int) ∧ w' = w, fun _ i _ => n - i.toNat, ⟨0, rfl, by omega, rfl, rfl⟩, ?_⟩
  rintro p i w1 ⟨j, rfl, hj, rfl, rfl⟩
  unfold F_towpathref02_power_L0
  refine ⟨fun h => ?_, fun h => ?_⟩
  · have h := of_decide_eq_true h
    have hp : 2 ^ (j + 1) ≤ 2 ^ 63 := Nat.pow_le_pow_right (by omega) (by omega)
    have e : 2 * 2 ^ j = 2 ^ (j + 1) := by rw [Nat.pow_succ]; omega
    have wi : IntKind.i64.wrap ((j : Int) + 1) = ((j + 1 : Nat) : Int) := by rw [i64_in _ (by omega) (by omega)]; omega
    have wp : IntKind.u64.wrap (2 * ((2 ^ j : Nat) : Int)) = ((2 ^ (j + 1) : Nat) : Int) := by
      have : (2 : Int) * ((2 ^ j : Nat) : Int) = ((2 ^ (j + 1) : Nat) : Int) := by omega
      rw [this, u64_in _ (by omega) (by omega)]
    rw [wi, wp]
    exact ⟨⟨j + 1, rfl, by omega, rfl, rfl⟩, by show _ - _ < _ - _; omega⟩
  · have h := of_decide_eq_false h
    obtain rfl : j = n := by omega
    exact k

theorem refFixed_loop {n W : Nat} {R : Slc → Int → World → Prop} (r : RowC 1 s (xs.map bV) wb) (st : St w0 (wb ++ fr) w) (hn : n < 2 ^ 64) (hW : W ≤ 8) (hl : xs.length + 20 ≤ 140737488351232)
    (k : ∀ s' wb' w', RowC 1 s' ((xs ++ fixB W n).map bV) wb' → St w0 (wb' ++ fr) w' → R s' 0 w') : F_towpathref02_Fixed_k0 s (n : Int) (W : Int) R false w := by
  unfold F_towpathref02_Fixed_k0
  refine ⟨fun h => (by cases h), fun _ => ⟨fun s n1 t w' => ∃ (m j : Nat) (pre : List UInt8) (wb : List Chunk), n1 = (m : Int) ∧ t = ((W - j : Nat) : Int) ∧ j ≤ W ∧ m < 2 ^ 64 ∧ pre.length + j = W ∧ pre ++ fixB j m = fixB W n ∧ RowC 1 s ((xs ++ pre).map bV) wb ∧ St w0 (wb ++ fr) w', fun _ _ t _ => W - t.toNat,
    ⟨n, W, [], wb, rfl, by simp, Nat.le_refl _, hn, by simp, rfl, by simpa using r, st⟩, ?_⟩⟩
  rintro s1 n1 t w1 ⟨m, j, pre, wb, rfl, rfl, hj, hm, hpj, hpre, r, st⟩
  unfold F_towpathref02_Fixed_L1
  refine ⟨fun h => ?_, fun h => ?_⟩
  · have h := of_decide_eq_true h
    have hj0 : j ≠ 0 := fun e => by subst e; omega
    obtain ⟨j, rfl⟩ := Nat.exists_eq_succ_of_ne_zero hj0
    have ht : Int.tmod (m : Int) 256 = ((m % 256 : Nat) : Int) := tmod_nat m 256
    have hd : Int.tdiv (m : Int) 256 = ((m / 256 : Nat) : Int) := tdiv_nat m 256
    refine fun b2 w3 hb hw => ref_push (x := UInt8.ofNat (m % 256)) r st (by simp; omega) ?_ hb hw fun s' wb' w' r' st' => ?_
    · rw [bV_ofNat (by omega), ht, wrap_u8]
      congr 1; omega
    · have wt : IntKind.i64.wrap (((W - (j + 1) : Nat) : Int) + 1) = ((W - j : Nat) : Int) := by rw [i64_in _ (by omega) (by omega)]; omega
      rw [hd, u64_in _ (by omega) (by omega), wt]
      refine ⟨⟨m / 256, j, pre ++ [UInt8.ofNat (m % 256)], wb', rfl, rfl, by omega, by omega, by simp; omega, ?_, by simpa using r', st'⟩, by show _ - _ < _ - _; omega⟩
      rw [← hpre]
      conv => rhs; rw [fixB]
      simp
  · have h := of_decide_eq_false h
    obtain rfl : j = 0 := by omega
    rw [fixB, List.append_nil] at hpre
    rw [hpre] at r
    exact k _ _ _ r st

theorem sp_refW_Fixed {n : Nat} {width : Int} {R : Slc → Int → World → Prop} (r : RowC 1 s (xs.map bV) wb) (st : St w0 (wb ++ fr) w) (hn : n < 2 ^ 64) (hl : xs.length + 20 ≤ 140737488351232)
    (k1 : (width < 1 ∨ width > 8) → R s 1 w) (k3 : 1 ≤ width → width ≤ 8 → 256 ^ width.toNat ≤ n → R s 3 w)
    (k0 : 1 ≤ width → width ≤ 8 → n < 256 ^ width.toNat → ∀ s' wb' w', RowC 1 s' ((xs ++ fixB width.toNat n).map bV) wb' → St w0 (wb' ++ fr) w' → R s' 0 w') : C_towpathref02_Fixed s (n : Int) width w R := by
  apply S_towpathref02_Fixed
  unfold F_towpathref02_Fixed
  refine ⟨fun h => k1 (by simpa using h), fun h => ?_⟩
  simp only [Bool.or_eq_false_iff, decide_eq_false_iff_not] at h
  obtain ⟨W, rfl⟩ := toN (show 0 ≤ width by omega)
  rw [Int.toNat_natCast] at k3 k0
  have hp : (2 : Nat) ^ (8 * W) = 256 ^ W := by rw [Nat.pow_mul]
  refine ⟨fun h8 => ?_, fun h8 => ?_⟩
  · have h8 := of_decide_eq_true h8
    have w8 : IntKind.i64.wrap (8 * (W : Int)) = ((8 * W : Nat) : Int) := by rw [i64_in _ (by omega) (by omega)]; omega
    rw [w8]
    refine sp_power (by omega) ?_
    rw [hp]
    by_cases hge : 256 ^ W ≤ n
    · rw [decide_eq_true (show (n : Int) ≥ ((256 ^ W : Nat) : Int) by omega)]
      unfold F_towpathref02_Fixed_k0
      exact ⟨fun _ => k3 (by omega) (by omega) hge, fun h => (by cases h)⟩
    · rw [decide_eq_false (show ¬ (n : Int) ≥ ((256 ^ W : Nat) : Int) by omega)]
      exact refFixed_loop r st hn (by omega) hl (k0 (by omega) (by omega) (by omega))
  · have h8 := of_decide_eq_false h8
    obtain rfl : W = 8 := by omega
    refine refFixed_loop r st hn (by omega) hl (k0 (by omega) (by omega) ?_)
    have : (256 : Nat) ^ 8 = 2 ^ 64 := by decide
    omega

theorem sp_refW_Int {x : Int} {R : Slc → World → Prop} (r : RowC 1 s (xs.map bV) wb) (st : St w0 (wb ++ fr) w) (h0 : -9223372036854775808 ≤ x) (h1 : x ≤ 9223372036854775807) (hl : xs.length + 20 ≤ 140737488351232)
    (k : ∀ s' wb' w', RowC 1 s' ((xs ++ varF (zz x)).map bV) wb' → St w0 (wb' ++ fr) w' → R s' w') : C_towpathref02_Int s x w R := by
  apply S_towpathref02_Int
  unfold F_towpathref02_Int
  apply S_towpathref01_Zigzag
  unfold F_towpathref01_Zigzag
  have hz : zz x < 2 ^ 64 := zz_lt h0 h1
  refine ⟨fun h => ?_, fun h => ?_⟩
  · have h := of_decide_eq_true h
    have e : IntKind.u64.wrap (2 * (IntKind.u64.wrap x)) = ((zz x : Nat) : Int) := by
      rw [u64_in x (by omega) (by omega), u64_in _ (by omega) (by omega)]
      unfold zz; rw [if_pos (by omega)]; omega
    rw [e]
    exact sp_refW_Var r st hz hl k
  · have h := of_decide_eq_false h
    have e : IntKind.u64.wrap ((IntKind.u64.wrap (2 * (IntKind.u64.wrap (IntKind.i64.wrap ((-1) - x))))) + 1) = ((zz x : Nat) : Int) := by
      rw [i64_in _ (by omega) (by omega), u64_in ((-1) - x) (by omega) (by omega), u64_in (2 * ((-1) - x)) (by omega) (by omega), u64_in _ (by omega) (by omega)]
      unfold zz; rw [if_neg (by omega)]; omega
    rw [e]
    exact sp_refW_Var r st hz hl k

theorem sp_refW_Text {t : ByteArray} {R : Slc → World → Prop} (r : RowC 1 s (xs.map bV) wb) (st : St w0 (wb ++ fr) w) (hl : xs.length + t.size + 40 ≤ 140737488351232)
    (k : ∀ s' wb' w', RowC 1 s' ((xs ++ (varF t.size ++ t.data.toList)).map bV) wb' → St w0 (wb' ++ fr) w' → R s' w') : C_towpathref02_Text s t w R := by
  apply S_towpathref02_Text
  unfold F_towpathref02_Text
  rw [show IntKind.u64.wrap ((t.size : Nat) : Int) = ((t.size : Nat) : Int) from u64_in _ (by omega) (by omega)]
  have hv := varB_len 10 t.size
  refine sp_refW_Var r st (by omega) (by omega) fun s1 wb1 w1 r1 st1 => ?_
  have htl : t.data.toList.length = t.size := by simp
  refine ⟨fun s i w' => ∃ (p : Nat) (wb : List Chunk), i = (p : Int) ∧ p ≤ t.size ∧ RowC 1 s ((xs ++ (varF t.size ++ t.data.toList.take p)).map bV) wb ∧ St w0 (wb ++ fr) w', fun _ i _ => t.size - i.toNat, ⟨0, wb1, rfl, by omega, by simpa using r1, st1⟩, ?_⟩
  rintro s2 i w2 ⟨p, wb2, rfl, hp, r2, st2⟩
  unfold F_towpathref02_Text_L0
  refine ⟨fun h => ?_, fun h => ?_⟩
  · have h := of_decide_eq_true h
    obtain ⟨x, hx, hbx⟩ := byteAt_get (s := t) (i := (p : Int)) (by omega) h
    rw [Int.toNat_natCast] at hx
    refine ⟨by omega, h, fun b2 w3 hb hw => ref_push (x := x) r2 st2 ?_ (by rw [hbx]) hb hw fun s' wb' w' r' st' => ?_⟩
    · simp only [List.length_append, List.length_take]; unfold varF; omega
    · have wp : IntKind.i64.wrap ((p : Int) + 1) = ((p + 1 : Nat) : Int) := by rw [i64_in _ (by omega) (by omega)]; omega
      rw [wp]
      refine ⟨⟨p + 1, wb', rfl, by omega, ?_, st'⟩, by show _ - _ < _ - _; omega⟩
      rw [List.take_add_one, hx]
      simpa using r'
  · have h := of_decide_eq_false h
    rw [List.take_of_length_le (by omega)] at r2
    exact k s2 wb2 w2 r2 st2

theorem gone_none {R : Bool → World → Prop} (k : R true w) : C_codec_Writer_gone none w R := by
  apply S_codec_Writer_gone
  exact ⟨fun _ => k, fun h => (by cases h)⟩
abbrev zW : List Value := [Value.bool false, Value.slice none 0 0]
theorem gone_zero {b : Nat} {R : Bool → World → Prop} (hc : w.cell? ⟨b, 0, none⟩ = some (Value.bool false)) (k : R true w) : C_codec_Writer_gone (some ⟨b, 0, none⟩) w R := by
  apply S_codec_Writer_gone
  exact ⟨fun h => (by cases h), fun _ => ⟨rfl, false, hc, k⟩⟩
/-- A writer that is none, or that nobody made. -/
def DeadW (g : Option Addr) (w : World) : Prop := ∀ R : Bool → World → Prop, R true w → C_codec_Writer_gone g w R
theorem dead_none : DeadW none w := fun R k => gone_none k
theorem dead_zero {b : Nat} (hc : w.cell? ⟨b, 0, none⟩ = some (Value.bool false)) : DeadW (some ⟨b, 0, none⟩) w := fun R k => gone_zero hc k
theorem dead_Var {g : Option Addr} {n : Int} {R : World → Prop} (d : DeadW g w) (k : R w) : C_codec_Writer_Var g n w R := by
  apply S_codec_Writer_Var
  exact d _ ⟨fun _ => k, fun h => (by cases h)⟩
theorem dead_Fixed {g : Option Addr} {n width : Int} {R : Int → World → Prop} (d : DeadW g w) (k : R 2 w) : C_codec_Writer_Fixed g n width w R := by
  apply S_codec_Writer_Fixed
  exact d _ ⟨fun _ => k, fun h => (by cases h)⟩
theorem dead_Text {g : Option Addr} {t : ByteArray} {R : World → Prop} (d : DeadW g w) (k : R w) : C_codec_Writer_Text g t w R := by
  apply S_codec_Writer_Text
  exact d _ ⟨fun _ => k, fun h => (by cases h)⟩
theorem dead_Int {g : Option Addr} {x : Int} {R : World → Prop} (d : DeadW g w) (h0 : -9223372036854775808 ≤ x) (h1 : x ≤ 9223372036854775807) (k : R w) : C_codec_Writer_Int g x w R := by
  apply S_codec_Writer_Int
  exact sp_num_Zigzag h0 h1 (dead_Var d k)
theorem dead_Done {g : Option Addr} {R : Slc → World → Prop} (d : DeadW g w) (k : R ⟨none, 0, 0⟩ w) : C_codec_Writer_Done g w R := by
  apply S_codec_Writer_Done
  exact d _ ⟨fun _ => k, fun h => (by cases h)⟩
theorem sp_Writer_Int {wr : Option Addr} {bs : List Chunk} {x : Int} {R : World → Prop} (st : St w0 (bs ++ fr) w) (o : WrO wr xs bs) (h0 : -9223372036854775808 ≤ x) (h1 : x ≤ 9223372036854775807) (hl : xs.length + 20 ≤ 140737488351232)
    (k : ∀ bs' w', WrO wr (xs ++ varF (zz x)) bs' → St w0 (bs' ++ fr) w' → R w') : C_codec_Writer_Int wr x w R := by
  apply S_codec_Writer_Int
  exact sp_num_Zigzag h0 h1 (sp_Writer_Var st o (zz_lt h0 h1) hl k)
end

theorem cost_take (l : List Op2) (i : Nat) : cost (l.take i) ≤ cost l := by
  have : cost l = cost (l.take i) + cost (l.drop i) := by
    unfold cost
    rw [← List.sum_append, ← List.map_append, List.take_append_drop]
  omega
theorem cost_len : ∀ l : List Op2, 10 * l.length ≤ cost l
  | [] => by simp
  | x :: l => by
    have := cost_len l
    unfold cost at this ⊢
    rw [List.map_cons, List.sum_cons, List.length_cons]
    omega
theorem cost_next {l : List Op2} {i : Nat} {x : Op2} (h : l[i]? = some x) : cost (l.take (i + 1)) = cost (l.take i) + (10 + x.Text.size) := by
  unfold cost
  rw [List.take_add_one, h, List.map_append, List.sum_append]
  simp
theorem i64_rng (n : Int) : -9223372036854775808 ≤ IntKind.i64.wrap n ∧ IntKind.i64.wrap n ≤ 9223372036854775807 := by rw [wrap_i64]; omega

/-- The state of the law's loop. -/
def CwI (w : World) (v16 : Option Addr) (bz b1 : Nat) (ops : List Op2) (len : Nat) (want : Slc) (i : Int) (w' : World) : Prop :=
  ∃ (p : Nat) (xs : List UInt8) (ab wb kb : List Chunk) (n : Int) (t : Slc) (its : List Item), i = (p : Int) ∧ p ≤ len ∧ xs.length ≤ cost (ops.take p) ∧ WrO v16 xs ab ∧ RowC 1 want (xs.map bV) wb ∧ BookO b1 n t its Kept kb ∧ 0 ≤ n ∧ n ≤ p ∧ its.length ≤ p ∧
    St w (ab ++ (wb ++ ([(bz, zW)] ++ (kb ++ [])))) w'

theorem cw_next {w w10 : World} {v16 : Option Addr} {bz b1 b2 : Nat} {ops : List Op2} {len p : Nat} {want : Slc} {xs : List UInt8} {ab wb kb : List Chunk} {n : Int} {t : Slc} {its : List Item} {o : List Value} (hlen : len ≤ 1048576) (hp : p < len) (hx : xs.length ≤ cost (ops.take (p + 1))) (hc : cost (ops.take (p + 1)) ≤ 1048576)
    (oW : WrO v16 xs ab) (r : RowC 1 want (xs.map bV) wb) (ob : BookO b1 n t its Kept kb) (hn0 : 0 ≤ n) (hn1 : n ≤ p) (hil : its.length ≤ p) (st : St w (ab ++ (wb ++ ([(b2, o)] ++ ([(bz, zW)] ++ (kb ++ []))))) w10) :
    F_towpathlaw02_CodecWrites_k2 v16 b1 (p : Int) (fun want' i' w' => CwI w v16 bz b1 ops len want' i' w' ∧ len - i'.toNat < len - ((p : Int)).toNat) want w10 := by
  have st := st.skip3
  have wp : IntKind.i64.wrap ((p : Int) + 1) = ((p + 1 : Nat) : Int) := by rw [i64_in _ (by omega) (by omega)]; omega
  unfold F_towpathlaw02_CodecWrites_k2 F_towpathlaw02_CodecWrites_k1
  rw [wp]
  refine ⟨fun h => ?_, fun _ => ⟨⟨p + 1, xs, ab, wb, kb, n, t, its, rfl, by omega, hx, oW, r, ob, hn0, by omega, by omega, st⟩, by show _ - _ < _ - _; omega⟩⟩
  refine sp_Writer_Done st oW (by omega) fun s rb w11 rs st hsl => ?_
  have st : St w (kb ++ (rb ++ (ab ++ (wb ++ [(bz, zW)])))) w11 := by
    have h : St w ((rb ++ (ab ++ (wb ++ [(bz, zW)]))) ++ kb) w11 := by simpa using st
    exact h.rot
  refine sp_Bytes ob rs st ⟨hn0, by omega⟩ (by omega) (by omega) fun t' its' kb' w12 ob' hl' st => ?_
  refine ⟨⟨p + 1, xs, ab, wb, kb', n + 1, t', its', rfl, by omega, hx, oW, r, ob', by omega, by omega, by omega, ?_⟩, by show _ - _ < _ - _; omega⟩
  have h := st.rot
  simpa using h

set_option maxHeartbeats 2000000 in
theorem law_CodecWrites (x0 : Slc) (w : World) (h0 : OkSl w x0 5 48 (fun es => ∃ e_ : T_towpathlaw02_Op, es = opV e_ ∧ (Ok_T_towpathlaw02_Op w e_))) :
    C_towpathlaw02_CodecWrites x0 w (fun b w' => b = true ∧ RowKit.Below w.heap.size w w') := by
  apply S_towpathlaw02_CodecWrites
  unfold F_towpathlaw02_CodecWrites
  obtain ⟨ops, hs, hl, hlen, hok⟩ := ops_in h0 fun es ⟨e, h, h'⟩ => ⟨e, h, h'⟩
  have st := St.start w
  refine sp_towpathlaw02_beyond (st.ext.src hs) hl hlen hok ⟨fun _ => ⟨rfl, st.below⟩, fun hby => ?_⟩
  have hcost := byS_cost ops 0 (by omega) hby
  have hcl := cost_len ops
  refine sp_NewWriter st fun wr ab w2 oW st bz w3 hbz hw3 b1 w4 hb1 hw4 => ?_
  have st := (st.alloc hbz hw3).alloc hb1 hw4
  refine ⟨st.writable 0 rfl (by simp), fun w5 hw5 => ?_⟩
  have st : St w ((b1, bookC 0 ⟨none, 0, 0⟩) :: (bz, zW) :: (ab ++ [])) w5 := st.put0 hw5
  refine ⟨CwI w wr bz b1 ops x0.len, fun _ i _ => x0.len - i.toNat, ⟨0, [], ab, [], _, 0, _, [], rfl, by omega, by simp, oW, RowC.nil, book_new, by omega, by omega, by simp, ?_⟩, ?_⟩
  · have h : St w (([(b1, bookC 0 ⟨none, 0, 0⟩)] ++ [(bz, zW)]) ++ (ab ++ [])) w5 := st
    have h := h.rot
    refine h.perm ?_
    simp only [List.append_nil, List.nil_append]
    exact List.Perm.append_left _ (List.perm_append_comm)
  clear st
  rintro want i w6 ⟨p, xs, ab, wb, kb, n, t, its, rfl, hp, hxl, oW, r, ob, hn0, hn1, hil, st⟩
  have hct := cost_take ops p
  unfold F_towpathlaw02_CodecWrites_L0
  refine ⟨fun hi => ?_, fun hi => ?_⟩
  · have hi := of_decide_eq_true hi
    obtain ⟨ia, o, ho, hoc⟩ := op_at (st.ext.src hs) (i := (p : Int)) (by omega) hi
    rw [Int.toNat_natCast] at ho
    have hoo := hok o (List.mem_of_getElem? ho)
    have hcn := cost_next ho
    have hct1 := cost_take ops (p + 1)
    refine ⟨ia, by omega, hi, o, hoc, fun b2 w8 hb2 hw8 => ?_⟩
    have st := st.alloc hb2 hw8
    refine ⟨st.writable 0 rfl (by simp), fun w9 hw9 => ?_⟩
    have st : St w ([(b2, opV o)] ++ (ab ++ (wb ++ ([(bz, zW)] ++ (kb ++ []))))) w9 := st.put0 hw9
    have st : St w (ab ++ (wb ++ ([(b2, opV o)] ++ ([(bz, zW)] ++ (kb ++ []))))) w9 := St.inner st.swap
    -- the cells that stay
    have opc : ∀ {ab wb : List Chunk} {w' : World} {q : Nat} {v : Value}, St w (ab ++ (wb ++ ([(b2, opV o)] ++ ([(bz, zW)] ++ (kb ++ []))))) w' → (opV o)[q]? = some v → w'.cell? ⟨b2, q, none⟩ = some v := fun st hq => st.drop.drop.cell 0 rfl hq
    have zd : ∀ {ab wb : List Chunk} {w' : World}, St w (ab ++ (wb ++ ([(b2, opV o)] ++ ([(bz, zW)] ++ (kb ++ []))))) w' → DeadW (some ⟨bz, 0, none⟩) w' := fun st => dead_zero (st.drop.drop.drop.cell 0 rfl rfl)
    obtain ⟨N, hN⟩ := toN hoo.2.1.1
    have hN64 : N < 2 ^ 64 := by have := hoo.2.1.2; omega
    have hts := hoo.2.2.2.1
    have nx : ∀ {want : Slc} {xs : List UInt8} {ab wb : List Chunk} {w10 : World}, xs.length ≤ cost (ops.take (p + 1)) → WrO wr xs ab → RowC 1 want (xs.map bV) wb → St w (ab ++ (wb ++ ([(b2, opV o)] ++ ([(bz, zW)] ++ (kb ++ []))))) w10 →
        F_towpathlaw02_CodecWrites_k2 wr b1 (p : Int) (fun want' i' w' => CwI w wr bz b1 ops x0.len want' i' w' ∧ x0.len - i'.toNat < x0.len - ((p : Int)).toNat) want w10 := fun hx oW r st => cw_next (by omega) (by omega) hx (by omega) oW r ob hn0 hn1 hil st
    refine ⟨o.Kind, opc st rfl, fun hk => ?_, fun hk => ⟨fun hk3 => ?_, fun hk3 => ⟨fun hk4 => ?_, fun hk4 => ?_⟩⟩⟩
    · refine ⟨o.N, opc st rfl, o.Width, opc st rfl, ?_⟩
      -- behind both calls
      have fin : ∀ {want : Slc} {xs : List UInt8} {ab wb : List Chunk} {w15 : World} {f : Int}, xs.length ≤ cost (ops.take (p + 1)) → WrO wr xs ab → RowC 1 want (xs.map bV) wb → St w (ab ++ (wb ++ ([(b2, opV o)] ++ ([(bz, zW)] ++ (kb ++ []))))) w15 →
          ((((f : Int) != f) = true → F_towpathlaw02_CodecWrites_k3 (fun b w' => b = true ∧ RowKit.Below w.heap.size w w') wr b1 (p : Int) (fun want' i' w' => CwI w wr bz b1 ops x0.len want' i' w' ∧ x0.len - i'.toNat < x0.len - ((p : Int)).toNat) want true w15) ∧
          (((f : Int) != f) = false → (∃ (v69 : Int), w15.cell? ⟨b2, 1, none⟩ = some (Value.int .u64 v69) ∧ (∃ (v71 : Int), w15.cell? ⟨b2, 2, none⟩ = some (Value.int .i64 v71) ∧ (C_codec_Writer_Fixed none v69 v71 w15 (fun (v72 : Int) w16 => ((v72 != 2) = true → F_towpathlaw02_CodecWrites_k3 (fun b w' => b = true ∧ RowKit.Below w.heap.size w w') wr b1 (p : Int) (fun want' i' w' => CwI w wr bz b1 ops x0.len want' i' w' ∧ x0.len - i'.toNat < x0.len - ((p : Int)).toNat) want true w16) ∧
          ((v72 != 2) = false → (∃ (v78 : Int), w16.cell? ⟨b2, 1, none⟩ = some (Value.int .u64 v78) ∧ (∃ (v80 : Int), w16.cell? ⟨b2, 2, none⟩ = some (Value.int .i64 v80) ∧ (C_codec_Writer_Fixed (some ⟨bz, 0, none⟩) v78 v80 w16 (fun (v81 : Int) w17 => F_towpathlaw02_CodecWrites_k3 (fun b w' => b = true ∧ RowKit.Below w.heap.size w w') wr b1 (p : Int) (fun want' i' w' => CwI w wr bz b1 ops x0.len want' i' w' ∧ x0.len - i'.toNat < x0.len - ((p : Int)).toNat) want (v81 != 2) w17))))))))))) := fun hx oW r st => by
        refine ⟨fun h => by simp at h, fun _ => ⟨o.N, opc st rfl, o.Width, opc st rfl, dead_Fixed dead_none ⟨fun h => by simp at h, fun _ => ⟨o.N, opc st rfl, o.Width, opc st rfl, dead_Fixed (zd st) ?_⟩⟩⟩⟩
        unfold F_towpathlaw02_CodecWrites_k3
        exact ⟨fun h => by simp at h, fun _ => nx hx oW r st⟩
      rw [hN]
      refine sp_refW_Fixed r st.swap hN64 (by omega) (fun hw => ?_) (fun hw0 hw1 hg => ?_) fun hw0 hw1 hg s' wb' w13 r' st' => ?_
      · refine ⟨(N : Int), by rw [← hN]; exact opc st rfl, o.Width, opc st rfl, ?_⟩
        exact sp_Writer_Fixed st oW hN64 (by omega) (fun _ => fin (by omega) oW r st) (fun _ _ _ => by omega) (fun _ _ _ => by omega)
      · refine ⟨(N : Int), by rw [← hN]; exact opc st rfl, o.Width, opc st rfl, ?_⟩
        exact sp_Writer_Fixed st oW hN64 (by omega) (fun _ => by omega) (fun _ _ _ => fin (by omega) oW r st) (fun _ _ _ => by omega)
      · have st := st'.swap
        refine ⟨(N : Int), by rw [← hN]; exact opc st rfl, o.Width, opc st rfl, ?_⟩
        refine sp_Writer_Fixed st oW hN64 (by omega) (fun _ => by omega) (fun _ _ _ => by omega) fun _ _ _ ab' w15 oW' st => fin ?_ oW' r' st
        rw [List.length_append, fixB_len]; omega
    · have hr := i64_rng o.N
      have hv := varB_len 10 (zz (IntKind.i64.wrap o.N))
      refine ⟨o.N, opc st rfl, sp_refW_Int r st.swap hr.1 hr.2 (by omega) fun s' wb' w18 r' st' => ?_⟩
      have st := st'.swap
      refine ⟨o.N, opc st rfl, sp_Writer_Int st oW hr.1 hr.2 (by omega) fun ab' w19 oW' st => ?_⟩
      refine ⟨o.N, opc st rfl, dead_Int dead_none hr.1 hr.2 (dead_Int (zd st) (by decide) (by decide) (nx ?_ oW' r' st))⟩
      rw [List.length_append]; unfold varF; omega
    · have hv := varB_len 10 o.Text.size
      have htl : o.Text.data.toList.length = o.Text.size := by simp
      refine ⟨o.Text, opc st rfl, sp_refW_Text r st.swap (by omega) fun s' wb' w18 r' st' => ?_⟩
      have st := st'.swap
      refine ⟨o.Text, opc st rfl, sp_Writer_Text st oW (by omega) fun ab' w19 oW' st => ?_⟩
      refine ⟨o.Text, opc st rfl, dead_Text dead_none (dead_Text (zd st) (nx ?_ oW' r' st))⟩
      rw [List.length_append, List.length_append]; unfold varF; omega
    · have hv := varB_len 10 N
      have opN : ∀ {ab wb : List Chunk} {w' : World}, St w (ab ++ (wb ++ ([(b2, opV o)] ++ ([(bz, zW)] ++ (kb ++ []))))) w' → w'.cell? ⟨b2, 1, none⟩ = some (Value.int .u64 (N : Int)) := fun st => by rw [← hN]; exact opc st rfl
      refine ⟨(N : Int), opN st, sp_refW_Var r st.swap hN64 (by omega) fun s' wb' w18 r' st' => ?_⟩
      have st := st'.swap
      refine ⟨(N : Int), opN st, sp_Writer_Var st oW hN64 (by omega) fun ab' w19 oW' st => ?_⟩
      refine ⟨(N : Int), opN st, dead_Var dead_none (dead_Var (zd st) (nx ?_ oW' r' st))⟩
      rw [List.length_append]; unfold varF; omega
  · refine sp_Writer_Done st oW (by omega) fun s1 rb1 w30 r1 st hs1 => ?_
    refine sp_Writer_Done st.swap oW (by omega) fun s2 rb2 w31 r2 st hs2 => ?_
    -- rb2 ++ (ab ++ (rb1 ++ (wb ++ ..)))
    have c1 : ∀ {w' : World}, St w (rb2 ++ (ab ++ (rb1 ++ (wb ++ ([(bz, zW)] ++ (kb ++ [])))))) w' → SrcAt w' s1 1 (xs.map bV) := fun st => r1.src st.drop.drop
    have c2 : ∀ {w' : World}, St w (rb2 ++ (ab ++ (rb1 ++ (wb ++ ([(bz, zW)] ++ (kb ++ [])))))) w' → SrcAt w' want 1 (xs.map bV) := fun st => r.src st.drop.drop.drop
    refine sp_SameBytes (c1 st) (c2 st) (by omega) fun w38 e38 => ?_
    have st := st.keep e38
    rw [decide_eq_true rfl]
    refine ⟨fun h => (by cases h), fun _ => sp_SameBytes (r2.src st) (c2 st) (by omega) fun w39 e39 => ?_⟩
    have st := st.keep e39
    rw [decide_eq_true rfl]
    refine ⟨fun h => (by cases h), fun _ => dead_Done dead_none (dead_Done (dead_zero (st.drop.drop.drop.drop.cell 0 rfl rfl)) ?_)⟩
    unfold F_towpathlaw02_CodecWrites_k4
    refine ⟨fun h => absurd h (by decide), fun _ => ?_⟩
    have st : St w (kb ++ (rb1 ++ (rb2 ++ (ab ++ (wb ++ [(bz, zW)]))))) w39 := by
      refine st.perm ?_
      simp only [List.append_nil]
      have e1 : rb2 ++ (ab ++ (rb1 ++ (wb ++ ([(bz, zW)] ++ kb)))) = (rb2 ++ (ab ++ (rb1 ++ (wb ++ [(bz, zW)])))) ++ kb := by simp only [List.append_assoc]
      rw [e1]
      refine List.perm_append_comm.trans (List.Perm.append_left kb ?_)
      refine (List.Perm.append_left rb2 (List.perm_append_comm_assoc ab rb1 _)).trans ?_
      exact List.perm_append_comm_assoc rb2 rb1 _
    refine sp_Bytes ob r1 st ⟨hn0, by omega⟩ (by omega) (by omega) fun t1 its1 kb1 w33 ob1 hl1 st => ?_
    refine sp_Bytes ob1 r2 st ⟨by omega, by omega⟩ (by omega) (by omega) fun t2 its2 kb2 w34 ob2 hl2 st => ?_
    refine sp_Apart ob2 st (by omega) fun its3 kb3 w35 ob3 st => ⟨fun _ => ?_, fun h => (by cases h)⟩
    refine sp_Writer_Done st.swap oW (by omega) fun s5 rb5 w36 r5 st hs5 => ?_
    refine sp_SameBytes (r5.src st) (r.src (st.drop.drop.drop)) (by omega) fun w37 e37 => ⟨decide_eq_true rfl, (st.keep e37).below⟩

end Go.Proofs.YtckmganidgbpgaaDoor
