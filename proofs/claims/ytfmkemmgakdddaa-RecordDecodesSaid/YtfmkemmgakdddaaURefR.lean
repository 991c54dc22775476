/- The law's own reader of bytes (a value). -/
import Derived.Test.YtfmkemmgakdddaaUCodecC
import Derived.Test.YtfmkemmgakdddaaGtowpathref02
namespace Go.Proofs.Ytfmkemmgakdddaa
open Go
set_option linter.unusedVariables false

abbrev Rd := T_towpathref02_Reader
abbrev rdV (r : Rd) : List Value := [Value.bool r.Gone, Value.slice r.B.ptr r.B.len r.B.cap, Value.int .i64 r.At, Value.int .i64 r.Code]
/-- The reader stands so in the bytes xs of B. -/
structure RV (B : Slc) (xs : List UInt8) (r : Rd) (s : RS) : Prop where
  gone : r.Gone = false
  row : r.B = B
  code : r.Code = s.code
  place : ∃ p : Nat, r.At = (p : Int) ∧ p ≤ xs.length ∧ s.rest = xs.drop p

section
variable {w0 w : World} {B : Slc} {xs : List UInt8} {r : Rd} {s : RS}
theorem sp_ref_dead {R : Bool → World → Prop} (o : RV B xs r s) (k : ∀ w', Ext w w' → R (s.code != 0) w') : C_towpathref02_Reader_dead r w R := by
  apply S_towpathref02_Reader_dead
  intro b w1 hb hw
  have kb := Blk.new hb hw
  refine ⟨r.Gone, kb.cell rfl, fun h => (by rw [o.gone] at h; cases h), fun _ => ⟨r.Code, kb.cell rfl, ?_⟩⟩
  rw [o.code]
  exact k w1 (Ext.new hw)
/-- The answer is put at its place and read there. -/
theorem ref_end {α : Type} {b1 : Nat} {cs : List Value} {l : List Chunk} {R : Rd → World → Prop} {r' : Rd} (st : St w0 ((b1, cs) :: l) w) (hc : cs.length = 4) (k : ∀ w', St w0 l w' → R r' w') :
    Writable w b1 0 4 ∧ (∀ w4, w4 = World.puts b1 0 (rdV r') w → (∃ res : Rd, CellsAt w4 b1 0 (rdV res) ∧ R res w4)) := by
  refine ⟨st.writable 0 rfl (by omega), fun w4 hw4 => ⟨r', ?_, k w4 (st.put0 hw4).drop1⟩⟩
  have := (st.put0 hw4).get 0 rfl
  have e : putL 0 (rdV r') cs = rdV r' := by
    have := putL_append [] cs [] (rdV r') (by rw [hc]; rfl)
    simpa using this
  rw [e] at this
  exact this.all
theorem sp_ref_wrong {e : Int} {R : Rd → World → Prop} (k : ∀ w', Ext w w' → R { r with Code := e } w') : C_towpathref02_Reader_wrong r e w R := by
  apply S_towpathref02_Reader_wrong
  intro b w1 hb hw b1 w2 hb1 hw1
  have st := ((St.start w).alloc hb hw).alloc hb1 hw1
  refine ⟨st.writable 1 rfl (by simp), fun w3 hw3 => ?_⟩
  have st := st.put1 hw3
  refine ⟨{ r with Code := e }, (st.get 1 rfl).all, ?_⟩
  exact ref_end (α := Unit) st rfl fun w' st => k w' st.ext
theorem sp_ref_End {R : Int → World → Prop} (o : RV B xs r s) (hl : B.len = xs.length) (k : ∀ w', Ext w w' → R s.end_ w') : C_towpathref02_Reader_End r w R := by
  apply S_towpathref02_Reader_End
  intro b w1 hb hw
  have kb := Blk.new hb hw
  have k := k w1 (Ext.new hw)
  obtain ⟨p, hp, hpl, hr⟩ := o.place
  refine ⟨r.Gone, kb.cell rfl, fun h => (by rw [o.gone] at h; cases h), fun _ => ⟨r.Code, kb.cell rfl, fun h => ⟨r.Code, kb.cell rfl, ?_⟩, fun h => ⟨r.At, kb.cell rfl, r.B, kb.cell rfl, fun h2 => ?_, fun h2 => ?_⟩⟩⟩
  · have h : s.code ≠ 0 := by rw [o.code] at h; simpa using h
    unfold RS.end_ at k
    rw [if_neg (fun hh => h hh.1)] at k
    rw [o.code]; exact k
  · have h : s.code = 0 := by rw [o.code] at h; simpa using h
    have h2 := of_decide_eq_true h2
    rw [o.row, hp] at h2
    unfold RS.end_ at k
    rw [if_pos ⟨h, fun hh => by rw [hr] at hh; have := congrArg List.length hh; rw [List.length_drop] at this; simp at this; omega⟩] at k
    exact k
  · have h : s.code = 0 := by rw [o.code] at h; simpa using h
    have h2 := of_decide_eq_false h2
    rw [o.row, hp] at h2
    unfold RS.end_ at k
    rw [if_neg (fun hh => hh.2 (by rw [hr]; exact List.drop_eq_nil_of_le (by omega))), h] at k
    exact k

theorem sp_ref_Var {R : Rd → Int → World → Prop} (o : RV B xs r s) (hs : SrcAt w B 1 (xs.map bV)) (hl : B.len ≤ 140737488351232)
    (k : ∀ r' w', RV B xs r' (varR s).1 → Ext w w' → R r' ((varR s).2 : Int) w') : C_towpathref02_Reader_Var r w R := by
  apply S_towpathref02_Reader_Var
  intro b w1 hb hw b1 w2 hb1 hw1
  have st := ((St.start w).alloc hb hw).alloc hb1 hw1
  have hbl := hs.len_eq
  obtain ⟨p, hp, hpl, hr⟩ := id o.place
  refine ⟨r, (st.get 1 rfl).all, sp_ref_dead o fun w3 e3 => ⟨fun h => ⟨r, ((st.keep e3).get 1 rfl).all, ?_⟩, fun h => ?_⟩⟩
  · have h : s.code ≠ 0 := by simpa using h
    have hv : varR s = (s, 0) := by unfold varR; rw [if_pos h]
    rw [hv] at k
    exact ref_end (α := Unit) (R := fun r' w' => R r' 0 w') (st.keep e3) rfl fun w' st => k r w' o st.ext
  have h : s.code = 0 := by simpa using h
  have st := st.keep e3
  have hs0 : s = ⟨xs.drop p, 0⟩ := by rw [← hr, ← h]
  subst hs0
  refine ⟨fun n f i w' => ∃ (j m : Nat), i = (j : Int) ∧ f = ((128 ^ j : Nat) : Int) ∧ n = (m : Int) ∧ j ≤ 9 ∧ m < 128 ^ j ∧ p + j ≤ xs.length ∧ shA j m (xs.drop (p + j)) = shF (xs.drop p) ∧
      St w ((b1, [Value.bool false, Value.slice none 0 0, Value.int .i64 0, Value.int .i64 0]) :: [(b, rdV r)]) w', fun _ _ i _ => 10 - i.toNat,
    ⟨0, 0, rfl, rfl, rfl, by omega, by simp, by omega, rfl, st⟩, ?_⟩
  rintro n f i w5 ⟨j, m, rfl, rfl, rfl, hj, hm, hpj, hsh, st⟩
  unfold F_towpathref02_Reader_Var_L0
  have wpj : IntKind.i64.wrap ((p : Int) + (j : Int)) = ((p + j : Nat) : Int) := by rw [i64_in _ (by omega) (by omega)]; omega
  have cA : ∀ {w' : World}, St w ((b1, [Value.bool false, Value.slice none 0 0, Value.int .i64 0, Value.int .i64 0]) :: [(b, rdV r)]) w' → w'.cell? ⟨b, 2, none⟩ = some (Value.int .i64 (p : Int)) := fun st => by rw [← hp]; exact st.cell 1 rfl rfl
  have cB : ∀ {w' : World}, St w ((b1, [Value.bool false, Value.slice none 0 0, Value.int .i64 0, Value.int .i64 0]) :: [(b, rdV r)]) w' → w'.cell? ⟨b, 1, none⟩ = some (Value.slice B.ptr B.len B.cap) := fun st => by rw [← o.row]; exact st.cell 1 rfl rfl
  have bad : ∀ {e : Int} (he : e ≠ 0) (hsf : shF (xs.drop p) = (0, 0, e)), RV B xs { r with Code := e } (varR ⟨xs.drop p, 0⟩).1 ∧ (varR ⟨xs.drop p, 0⟩).2 = 0 := by
    intro e he hsf
    have hv : varR ⟨xs.drop p, 0⟩ = (⟨xs.drop p, e⟩, 0) := by unfold varR; simp [hsf, he]
    rw [hv]
    exact ⟨⟨o.gone, o.row, rfl, p, hp, hpl, rfl⟩, rfl⟩
  refine ⟨(p : Int), cA st, B, cB st, fun hge => ⟨r, (st.get 1 rfl).all, ?_⟩, fun hlt => ⟨B, cB st, (p : Int), cA st, ?_⟩⟩
  · rw [wpj] at hge
    have hge := of_decide_eq_true hge
    rw [drop_end (by omega), shA] at hsh
    obtain ⟨o', hv⟩ := bad (e := 5) (by decide) hsh.symm
    refine sp_ref_wrong fun w6 e6 => ref_end (α := Unit) (R := fun r' w' => R r' 0 w') (st.keep e6) rfl fun w' st => ?_
    have := k _ w' o' st.ext
    rw [hv] at this
    exact this
  rw [wpj] at hlt ⊢
  have hlt := of_decide_eq_false hlt
  obtain ⟨a, c, hc, hcell⟩ := (st.ext.src hs).get (i := ((p + j : Nat) : Int)) (by omega) (by omega)
  rw [Int.toNat_natCast] at hc
  have hb := c.toNat_lt
  rw [drop_get hc, shA] at hsh
  refine ⟨a, by omega, by omega, _, hcell, fun hbad => ⟨r, (st.get 1 rfl).all, ?_⟩, fun hbad => ?_⟩
  · rw [if_pos (by simp only [Bool.or_eq_true, Bool.and_eq_true, beq_iff_eq, decide_eq_true_eq] at hbad; omega)] at hsh
    obtain ⟨o', hv⟩ := bad (e := 4) (by decide) hsh.symm
    refine sp_ref_wrong fun w6 e6 => ref_end (α := Unit) (R := fun r' w' => R r' 0 w') (st.keep e6) rfl fun w' st => ?_
    have := k _ w' o' st.ext
    rw [hv] at this
    exact this
  have hne : ¬ ((j = 9 ∧ c.toNat > 1) ∨ (j > 0 ∧ c.toNat = 0)) := by
    simp only [Bool.or_eq_false_iff, Bool.and_eq_false_iff, beq_eq_false_iff_ne, decide_eq_false_iff_not] at hbad; omega
  rw [if_neg hne] at hsh
  have hx : c.toNat % 128 * 128 ^ j < 2 ^ 64 ∧ m + c.toNat % 128 * 128 ^ j < 2 ^ 64 := by
    by_cases h9 : j = 9
    · subst h9
      have h1 : c.toNat % 128 = c.toNat := Nat.mod_eq_of_lt (by omega)
      rw [h1]
      have h2 : c.toNat * 128 ^ 9 ≤ 1 * 128 ^ 9 := Nat.mul_le_mul_right _ (by omega)
      have h3 : (128 : Nat) ^ 9 = 9223372036854775808 := by decide
      omega
    · have h1 : c.toNat % 128 * 128 ^ j ≤ 127 * 128 ^ j := Nat.mul_le_mul_right _ (by omega)
      have h3 : (128 : Nat) ^ j ≤ 128 ^ 8 := Nat.pow_le_pow_right (by omega) (by omega)
      have h4 : (128 : Nat) ^ 8 = 72057594037927936 := by decide
      omega
  have wt : IntKind.u64.wrap (Int.tmod (c.toNat : Int) 128) = ((c.toNat % 128 : Nat) : Int) := by
    rw [show Int.tmod (c.toNat : Int) 128 = ((c.toNat % 128 : Nat) : Int) from rfl, u64_in _ (by omega) (by omega)]
  have wf : IntKind.u64.wrap (((128 ^ j : Nat) : Int) * ((c.toNat % 128 : Nat) : Int)) = ((c.toNat % 128 * 128 ^ j : Nat) : Int) := by
    rw [show ((128 ^ j : Nat) : Int) * ((c.toNat % 128 : Nat) : Int) = ((c.toNat % 128 * 128 ^ j : Nat) : Int) from by rw [Nat.mul_comm]; push_cast; rfl, u64_in _ (by omega) (by omega)]
  have wv : IntKind.u64.wrap ((m : Int) + ((c.toNat % 128 * 128 ^ j : Nat) : Int)) = ((m + c.toNat % 128 * 128 ^ j : Nat) : Int) := by
    rw [u64_in _ (by omega) (by omega)]; omega
  simp only [wt, wf, wv]
  refine ⟨fun hlt128 => ?_, fun hge128 => ?_⟩
  · have hlt128 := of_decide_eq_true hlt128
    rw [if_pos (by omega)] at hsh
    have wn : IntKind.i64.wrap (((p + j : Nat) : Int) + 1) = ((p + j + 1 : Nat) : Int) := by rw [i64_in _ (by omega) (by omega)]; omega
    refine ⟨(p : Int), cA st, st.writable 1 rfl (by simp), fun w10 hw10 => ?_⟩
    rw [wpj, wn] at hw10
    have st := st.put1 hw10
    refine ⟨{ r with At := ((p + j + 1 : Nat) : Int) }, (st.get 1 rfl).all, ?_⟩
    refine ref_end (α := Unit) (R := fun r' w' => R r' ((m + c.toNat % 128 * 128 ^ j : Nat) : Int) w') st rfl fun w' st => ?_
    have hv : varR ⟨xs.drop p, 0⟩ = (⟨xs.drop (p + j + 1), 0⟩, m + c.toNat % 128 * 128 ^ j) := by
      unfold varR; simp only [← hsh, List.drop_drop]; rfl
    rw [hv] at k
    exact k _ w' ⟨o.gone, o.row, o.code, p + j + 1, rfl, by omega, rfl⟩ st.ext
  · have hge128 := of_decide_eq_false hge128
    rw [if_neg (by omega)] at hsh
    have h9 : j ≠ 9 := fun h9 => by omega
    have w128 : IntKind.u64.wrap (128 * ((128 ^ j : Nat) : Int)) = ((128 ^ (j + 1) : Nat) : Int) := by
      have h3 : (128 : Nat) ^ (j + 1) ≤ 128 ^ 9 := Nat.pow_le_pow_right (by omega) (by omega)
      have h4 : (128 : Nat) ^ 9 = 9223372036854775808 := by decide
      rw [show 128 * ((128 ^ j : Nat) : Int) = ((128 ^ (j + 1) : Nat) : Int) from by rw [Nat.pow_succ, Nat.mul_comm]; push_cast; rfl, u64_in _ (by omega) (by omega)]
    have wj : IntKind.i64.wrap ((j : Int) + 1) = ((j + 1 : Nat) : Int) := by rw [i64_in _ (by omega) (by omega)]; omega
    rw [w128, wj]
    refine ⟨⟨j + 1, _, rfl, rfl, rfl, by omega, ?_, by omega, hsh, st⟩, by show 10 - ((j + 1 : Nat) : Int).toNat < 10 - ((j : Nat) : Int).toNat; rw [Int.toNat_natCast, Int.toNat_natCast]; omega⟩
    have h1 : c.toNat % 128 * 128 ^ j ≤ 127 * 128 ^ j := Nat.mul_le_mul_right _ (by omega)
    have h2 : 128 ^ j * 128 = 128 ^ (j + 1) := (Nat.pow_succ ..).symm
    omega

theorem St.sw {x y : Chunk} {l : List Chunk} (h : St w0 (x :: y :: l) w) : St w0 (y :: x :: l) w := h.perm (List.Perm.swap ..)
abbrev zR : List Value := [Value.bool false, Value.slice none 0 0, Value.int .i64 0, Value.int .i64 0]
theorem sp_ref_Text {most : Int} {R : Rd → ByteArray → World → Prop} (o : RV B xs r s) (hs : SrcAt w B 1 (xs.map bV)) (hl : B.len ≤ 140737488351232) (hcap : B.len ≤ B.cap) (hm0 : -9223372036854775808 ≤ most) (hm1 : most ≤ 9223372036854775807)
    (k : ∀ r' w', RV B xs r' (textR most s).1 → Ext w w' → R r' (mkS (textR most s).2) w') : C_towpathref02_Reader_Text r most w R := by
  apply S_towpathref02_Reader_Text
  intro b w1 hb hw b1 w2 hb1 hw1
  have st := ((St.start w).alloc hb hw).alloc hb1 hw1
  have hbl := hs.len_eq
  obtain ⟨p, hp, hpl, hr⟩ := id o.place
  refine ⟨r, (st.get 1 rfl).all, sp_ref_dead o fun w3 e3 => ⟨fun h => ⟨r, ((st.keep e3).get 1 rfl).all, ?_⟩, fun h => ?_⟩⟩
  · have h : s.code ≠ 0 := by simpa using h
    have hv : textR most s = (s, []) := by unfold textR; rw [if_pos h]
    rw [hv] at k
    exact ref_end (α := Unit) (R := fun r' w' => R r' ByteArray.empty w') (st.keep e3) rfl fun w' st => k r w' o st.ext
  have h : s.code = 0 := by simpa using h
  have st := st.keep e3
  have hs0 : s = ⟨xs.drop p, 0⟩ := by rw [← hr, ← h]
  subst hs0
  -- an error: the reader stays
  have bad : ∀ {e : Int} {l : List Chunk} {w4 : World}, textR most ⟨xs.drop p, 0⟩ = (⟨xs.drop p, e⟩, []) → St w ((b1, zR) :: l) w4 → C_towpathref02_Reader_wrong r e w4 (fun (v : Rd) w5 =>
      Writable w5 b1 0 4 ∧ (∀ w6, w6 = World.puts b1 0 (rdV v) w5 → (∃ (res1 : Rd), CellsAt w6 b1 0 (rdV res1) ∧ (R res1 ByteArray.empty w6)))) := by
    intro e l w4 hv st
    refine sp_ref_wrong fun w6 e6 => ref_end (α := Unit) (R := fun r' w' => R r' ByteArray.empty w') (st.keep e6) rfl fun w' st => ?_
    rw [hv] at k
    exact k _ w' ⟨o.gone, o.row, rfl, p, hp, hpl, rfl⟩ st.ext
  obtain ⟨hb1', hb2, hb3⟩ := shF_bd (xs.drop p)
  have hT : textR most ⟨xs.drop p, 0⟩ = _ := rfl
  conv at hT => rhs; unfold textR
  simp only at hT
  rw [if_neg (by simp)] at hT
  refine ⟨fun hm => ⟨r, (st.get 1 rfl).all, bad ?_ st⟩, fun hm => ⟨r, (st.get 1 rfl).all, sp_ref_Var o (st.ext.src hs) hl fun r1 w7 o1 e7 b2 w8 hb2' hw8 => ?_⟩⟩
  · have hm := of_decide_eq_true hm
    rw [if_pos hm] at hT; exact hT
  have hm := of_decide_eq_false hm
  rw [if_neg hm] at hT
  have st := (st.keep e7).alloc hb2' hw8
  refine ⟨st.writable 0 rfl (by simp), fun w9 hw9 => ?_⟩
  have st : St w ((b2, rdV r1) :: (b1, zR) :: [(b, rdV r)]) w9 := st.put0 hw9
  refine ⟨r1, (st.get 0 rfl).all, sp_ref_dead o1 fun w10 e10 => ?_⟩
  have st := st.keep e10
  obtain ⟨p1, hp1, hpl1, hr1⟩ := id o1.place
  by_cases he : (shF (xs.drop p)).2.2 = 0
  · have hv : varR ⟨xs.drop p, 0⟩ = (⟨(xs.drop p).drop (shF (xs.drop p)).2.1, 0⟩, (shF (xs.drop p)).1) := by unfold varR; simp [he]
    rw [if_neg (by omega)] at hT
    rw [hv] at hr1 ⊢
    have hlen1 := congrArg List.length hr1
    simp only [List.length_drop] at hlen1 hb2
    generalize hsz : (shF (xs.drop p)).2.1 = sz at *
    generalize hn : (shF (xs.drop p)).1 = n at *
    obtain rfl : p1 = p + sz := by omega
    have wm : IntKind.u64.wrap most = most := u64_in _ (by omega) (by omega)
    have wl : IntKind.u64.wrap (IntKind.i64.wrap (((B.len : Nat) : Int) - ((p + sz : Nat) : Int))) = (((xs.drop p).length - sz : Nat) : Int) := by
      rw [i64_in _ (by omega) (by omega), u64_in _ (by omega) (by omega), List.length_drop]; omega
    have cB : w10.cell? ⟨b, 1, none⟩ = some (Value.slice B.ptr B.len B.cap) := by rw [← o.row]; exact st.cell 2 rfl rfl
    have cA : w10.cell? ⟨b2, 2, none⟩ = some (Value.int .i64 ((p + sz : Nat) : Int)) := by rw [← hp1]; exact st.cell 0 rfl rfl
    refine ⟨fun hh => by simp at hh, fun _ => ⟨fun hgt => ⟨r, (st.get 2 rfl).all, bad ?_ st.sw⟩, fun hgt => ⟨B, cB, _, cA, fun hgt2 => ⟨r, (st.get 2 rfl).all, bad ?_ st.sw⟩, fun hgt2 => ⟨B, cB, _, cA, _, cA, ?_⟩⟩⟩⟩
    · rw [wm] at hgt
      have hgt := of_decide_eq_true hgt
      rw [if_pos hgt] at hT; exact hT
    · rw [wm] at hgt
      have hgt := of_decide_eq_false hgt
      rw [if_neg hgt] at hT
      rw [wl] at hgt2
      have hgt2 := of_decide_eq_true hgt2
      rw [if_pos (by omega)] at hT; exact hT
    · rw [wm] at hgt
      have hgt := of_decide_eq_false hgt
      rw [if_neg hgt] at hT
      rw [wl] at hgt2
      have hgt2 := of_decide_eq_false hgt2
      rw [if_neg (by omega)] at hT
      rw [List.length_drop] at hgt2
      have wn : IntKind.i64.wrap (((p + sz : Nat) : Int) + IntKind.i64.wrap (n : Int)) = ((p + sz + n : Nat) : Int) := by
        rw [i64_in (n : Int) (by omega) (by omega), i64_in _ (by omega) (by omega)]; omega
      simp only [wn]
      refine ⟨⟨by omega, by omega, by omega, by omega⟩, fun sc hsc => ?_⟩
      have hcut := (st.ext.src hs).cut (lo := ((p + sz : Nat) : Int)) (hi := ((p + sz + n : Nat) : Int)) (mx := ((B.cap : Nat) : Int)) (by omega) (by omega) (by omega) (by omega)
      rw [← hsc] at hcut
      simp only [Int.toNat_natCast, Nat.mul_one] at hcut
      rw [show p + sz + n - (p + sz) = n from by omega, ← List.map_drop, ← List.map_take] at hcut
      refine ⟨mkS ((xs.drop (p + sz)).take n), by rw [mkS_cells]; exact hcut, _, cA, st.writable 0 rfl (by simp), fun w17 hw17 => ?_⟩
      rw [wn] at hw17
      have st := st.put0 hw17
      refine ⟨{ r1 with At := ((p + sz + n : Nat) : Int) }, (st.get 0 rfl).all, ?_⟩
      refine ref_end (α := Unit) (R := fun r' w' => R r' (mkS ((xs.drop (p + sz)).take n)) w') st.sw rfl fun w' st => ?_
      have hT2 : textR most ⟨xs.drop p, 0⟩ = (⟨xs.drop (p + sz + n), 0⟩, (xs.drop (p + sz)).take n) := by
        rw [hT, List.drop_drop, List.drop_drop, Nat.add_assoc]
      rw [hT2] at k
      have ho1 := o1.code
      rw [hv] at ho1
      exact k _ w' ⟨o1.gone, o1.row, ho1, p + sz + n, rfl, by omega, rfl⟩ st.ext
  · have hv : varR ⟨xs.drop p, 0⟩ = (⟨xs.drop p, (shF (xs.drop p)).2.2⟩, 0) := by unfold varR; simp [he]
    rw [if_pos he] at hT
    have ho1 := o1.code
    rw [hv] at ho1 ⊢
    refine ⟨fun _ => ⟨r, (st.get 2 rfl).all, r1.Code, st.cell 0 rfl rfl, ?_⟩, fun hh => absurd (by simpa using hh) he⟩
    rw [ho1]
    exact bad hT st.sw

theorem sp_ref_Fixed {width : Int} {R : Rd → Int → World → Prop} (o : RV B xs r s) (hs : SrcAt w B 1 (xs.map bV)) (hl : B.len ≤ 140737488351232)
    (k : ∀ r' w', RV B xs r' (fixR width s).1 → Ext w w' → R r' ((fixR width s).2 : Int) w') : C_towpathref02_Reader_Fixed r width w R := by
  apply S_towpathref02_Reader_Fixed
  intro b w1 hb hw b1 w2 hb1 hw1
  have st := ((St.start w).alloc hb hw).alloc hb1 hw1
  have hbl := hs.len_eq
  obtain ⟨p, hp, hpl, hr⟩ := id o.place
  refine ⟨r, (st.get 1 rfl).all, sp_ref_dead o fun w3 e3 => ⟨fun h => ⟨r, ((st.keep e3).get 1 rfl).all, ?_⟩, fun h => ?_⟩⟩
  · have h : s.code ≠ 0 := by simpa using h
    have hv : fixR width s = (s, 0) := by unfold fixR; rw [if_pos h]
    rw [hv] at k
    exact ref_end (α := Unit) (R := fun r' w' => R r' 0 w') (st.keep e3) rfl fun w' st => k r w' o st.ext
  have h : s.code = 0 := by simpa using h
  have st : St w ((b1, zR) :: [(b, rdV r)]) w3 := st.keep e3
  have hs0 : s = ⟨xs.drop p, 0⟩ := by rw [← hr, ← h]
  subst hs0
  have bad : ∀ {e : Int} {l : List Chunk} {w4 : World}, fixR width ⟨xs.drop p, 0⟩ = (⟨xs.drop p, e⟩, 0) → St w ((b1, zR) :: l) w4 → C_towpathref02_Reader_wrong r e w4 (fun (v : Rd) w5 =>
      Writable w5 b1 0 4 ∧ (∀ w6, w6 = World.puts b1 0 (rdV v) w5 → (∃ (res1 : Rd), CellsAt w6 b1 0 (rdV res1) ∧ (R res1 0 w6)))) := by
    intro e l w4 hv st
    refine sp_ref_wrong fun w6 e6 => ref_end (α := Unit) (R := fun r' w' => R r' 0 w') (st.keep e6) rfl fun w' st => ?_
    rw [hv] at k
    exact k _ w' ⟨o.gone, o.row, rfl, p, hp, hpl, rfl⟩ st.ext
  have hT : fixR width ⟨xs.drop p, 0⟩ = _ := rfl
  conv at hT => rhs; unfold fixR
  simp only at hT
  rw [if_neg (by simp)] at hT
  have cB : ∀ {w' : World}, St w ((b1, zR) :: [(b, rdV r)]) w' → w'.cell? ⟨b, 1, none⟩ = some (Value.slice B.ptr B.len B.cap) := fun st => by rw [← o.row]; exact st.cell 1 rfl rfl
  have cA : ∀ {w' : World}, St w ((b1, zR) :: [(b, rdV r)]) w' → w'.cell? ⟨b, 2, none⟩ = some (Value.int .i64 (p : Int)) := fun st => by rw [← hp]; exact st.cell 1 rfl rfl
  refine ⟨fun hb => ⟨r, (st.get 1 rfl).all, bad ?_ st⟩, fun hb => ⟨B, cB st, (p : Int), cA st, fun hg => ⟨r, (st.get 1 rfl).all, bad ?_ st⟩, fun hg => ?_⟩⟩
  · simp only [Bool.or_eq_true, decide_eq_true_eq] at hb
    rw [if_pos hb] at hT; exact hT
  · simp only [Bool.or_eq_false_iff, decide_eq_false_iff_not] at hb
    rw [if_neg (by omega)] at hT
    rw [i64_in _ (by omega) (by omega)] at hg
    have hg := of_decide_eq_true hg
    rw [if_pos (by rw [List.length_drop]; omega)] at hT; exact hT
  simp only [Bool.or_eq_false_iff, decide_eq_false_iff_not] at hb
  rw [if_neg (by omega)] at hT
  rw [i64_in _ (by omega) (by omega)] at hg
  have hg := of_decide_eq_false hg
  rw [if_neg (by rw [List.length_drop]; omega)] at hT
  obtain ⟨W, rfl⟩ := toN (show 0 ≤ width by omega)
  rw [Int.toNat_natCast] at hT
  have w1' : IntKind.i64.wrap ((W : Int) - 1) = (W : Int) - 1 := i64_in _ (by omega) (by omega)
  rw [w1']
  refine ⟨fun n i w' => ∃ j : Nat, i = (j : Int) - 1 ∧ j ≤ W ∧ n = ((leV (((xs.drop p).take W).drop j) : Nat) : Int) ∧ St w ((b1, zR) :: [(b, rdV r)]) w', fun _ i _ => (i + 1).toNat,
    ⟨W, rfl, Nat.le_refl _, by rw [List.drop_of_length_le (by rw [List.length_take]; omega)]; rfl, st⟩, ?_⟩
  rintro n i w9 ⟨j, rfl, hj, rfl, st⟩
  unfold F_towpathref02_Reader_Fixed_L0
  refine ⟨fun hi => ?_, fun hi => ?_⟩
  · have hi := of_decide_eq_true hi
    obtain ⟨j, rfl⟩ := Nat.exists_eq_succ_of_ne_zero (show j ≠ 0 by omega)
    have hji : ((j.succ : Nat) : Int) - 1 = (j : Int) := by omega
    rw [hji]
    have wpj : IntKind.i64.wrap ((p : Int) + (j : Int)) = ((p + j : Nat) : Int) := by rw [i64_in _ (by omega) (by omega)]; omega
    obtain ⟨a, c, hc, hcell⟩ := (st.ext.src hs).get (i := ((p + j : Nat) : Int)) (by omega) (by omega)
    rw [Int.toNat_natCast] at hc
    have hb' := c.toNat_lt
    refine ⟨B, cB st, (p : Int), cA st, ?_⟩
    rw [wpj]
    refine ⟨a, by omega, by omega, _, hcell, ?_⟩
    have hd : ((xs.drop p).take W).drop j = c :: ((xs.drop p).take W).drop (j + 1) := drop_get (by rw [List.getElem?_take, if_pos (by omega), List.getElem?_drop]; exact hc)
    have hlt := leV_lt (((xs.drop p).take W).drop (j + 1))
    have hlen2 : (((xs.drop p).take W).drop (j + 1)).length ≤ 7 := by rw [List.length_drop, List.length_take]; omega
    have h56 : (256 : Nat) ^ (((xs.drop p).take W).drop (j + 1)).length ≤ 256 ^ 7 := Nat.pow_le_pow_right (by omega) hlen2
    have h567 : (256 : Nat) ^ 7 = 72057594037927936 := by decide
    have hv : IntKind.u64.wrap (IntKind.u64.wrap (256 * ((leV (((xs.drop p).take W).drop (j + 1)) : Nat) : Int)) + IntKind.u64.wrap (c.toNat : Int)) = ((leV (((xs.drop p).take W).drop j) : Nat) : Int) := by
      rw [u64_in (256 * _) (by omega) (by omega), u64_in (c.toNat : Int) (by omega) (by omega), u64_in _ (by omega) (by omega), hd, leV]
      omega
    have wj : IntKind.i64.wrap ((j : Int) - 1) = (j : Int) - 1 := i64_in _ (by omega) (by omega)
    rw [show j.succ = j + 1 from rfl, hv, wj]
    exact ⟨⟨j, rfl, by omega, rfl, st⟩, by show Int.toNat _ < Int.toNat _; omega⟩
  · have hi := of_decide_eq_false hi
    obtain rfl : j = 0 := by omega
    rw [List.drop_zero]
    have wpw : IntKind.i64.wrap ((p : Int) + (W : Int)) = ((p + W : Nat) : Int) := by rw [i64_in _ (by omega) (by omega)]; omega
    refine ⟨(p : Int), cA st, st.writable 1 rfl (by simp), fun w10 hw10 => ?_⟩
    rw [wpw] at hw10
    have st := st.put1 hw10
    refine ⟨{ r with At := ((p + W : Nat) : Int) }, (st.get 1 rfl).all, ?_⟩
    refine ref_end (α := Unit) (R := fun r' w' => R r' ((leV ((xs.drop p).take W) : Nat) : Int) w') st rfl fun w' st => ?_
    rw [hT] at k
    exact k _ w' ⟨o.gone, o.row, o.code, p + W, rfl, by omega, by rw [List.drop_drop]⟩ st.ext
end

end Go.Proofs.Ytfmkemmgakdddaa
