/- Chapter 02: readers of bytes. -/
import Derived.Test.YtpdegdnigcnjiaaUCodec
namespace Go.Proofs.Ytpdegdnigcnjiaa
open Go
set_option linter.unusedVariables false
set_option linter.unusedSimpArgs false

/-! ### A short number out of bytes -/
def shA : Nat → Nat → List UInt8 → Nat × Nat × Int
  | _, _, [] => (0, 0, 5)
  | i, n, c :: r => if (i = 9 ∧ c.toNat > 1) ∨ (i > 0 ∧ c.toNat = 0) then (0, 0, 4)
    else if c.toNat < 128 then (n + c.toNat % 128 * 128 ^ i, i + 1, 0) else shA (i + 1) (n + c.toNat % 128 * 128 ^ i) r
def shF (l : List UInt8) : Nat × Nat × Int := shA 0 0 l
theorem shA_bd : ∀ (l : List UInt8) (i n : Nat), i ≤ 9 → n < 128 ^ i → (shA i n l).1 < 2 ^ 64 ∧ (shA i n l).2.1 ≤ i + l.length ∧
    ((shA i n l).2.2 = 0 ∧ i + 1 ≤ (shA i n l).2.1 ∨ (shA i n l).1 = 0 ∧ (shA i n l).2.1 = 0 ∧ ((shA i n l).2.2 = 4 ∨ (shA i n l).2.2 = 5))
  | [], i, n, _, _ => by simp [shA]
  | c :: r, i, n, hi, hn => by
    have hb := c.toNat_lt
    unfold shA
    split
    · simp
    · rename_i hne
      have hn' : n + c.toNat % 128 * 128 ^ i < 2 ^ 64 ∧ (c.toNat % 128 < 128) := by
        refine ⟨?_, Nat.mod_lt _ (by omega)⟩
        by_cases h9 : i = 9
        · subst h9
          have : c.toNat ≤ 1 := by omega
          have h1 : c.toNat % 128 = c.toNat := Nat.mod_eq_of_lt (by omega)
          rw [h1]
          have h2 : c.toNat * 128 ^ 9 ≤ 1 * 128 ^ 9 := Nat.mul_le_mul_right _ this
          have h3 : (128 : Nat) ^ 9 = 9223372036854775808 := by decide
          omega
        · have h1 : c.toNat % 128 * 128 ^ i ≤ 127 * 128 ^ i := Nat.mul_le_mul_right _ (by omega)
          have h2 : 128 ^ i * 128 = 128 ^ (i + 1) := (Nat.pow_succ ..).symm
          have h3 : (128 : Nat) ^ (i + 1) ≤ 128 ^ 9 := Nat.pow_le_pow_right (by omega) (by omega)
          have h4 : (128 : Nat) ^ 9 = 9223372036854775808 := by decide
          omega
      split
      · exact ⟨hn'.1, by simp only [List.length_cons]; omega, .inl ⟨rfl, Nat.le_refl _⟩⟩
      · have h9 : i ≠ 9 := fun h9 => by omega
        have hlt : n + c.toNat % 128 * 128 ^ i < 128 ^ (i + 1) := by
          have h1 : c.toNat % 128 * 128 ^ i ≤ 127 * 128 ^ i := Nat.mul_le_mul_right _ (by omega)
          have h2 : 128 ^ i * 128 = 128 ^ (i + 1) := (Nat.pow_succ ..).symm
          omega
        obtain ⟨h1, h2, h3⟩ := shA_bd r (i + 1) _ (by omega) hlt
        refine ⟨h1, by simp only [List.length_cons]; omega, ?_⟩
        rcases h3 with h3 | h3
        · exact .inl ⟨h3.1, by omega⟩
        · exact .inr h3
theorem shF_bd (l : List UInt8) : (shF l).1 < 2 ^ 64 ∧ (shF l).2.1 ≤ l.length ∧ ((shF l).2.2 = 0 ∧ 1 ≤ (shF l).2.1 ∨ (shF l).1 = 0 ∧ (shF l).2.1 = 0 ∧ ((shF l).2.2 = 4 ∨ (shF l).2.2 = 5)) := by
  have := shA_bd l 0 0 (by omega) (by simp)
  simpa [shF] using this
theorem and_127 : ∀ x, x < 256 → x &&& 127 = x % 128 := by decide +kernel
theorem or_shl {m x k : Nat} (h : m < 2 ^ k) : m ||| (x * 2 ^ k) = m + x * 2 ^ k := by
  rw [Nat.or_comm, ← Nat.shiftLeft_eq, ← Nat.shiftLeft_add_eq_or_of_lt h]; omega

section
variable {w0 : Base} {w : World} {fr bs : List Chunk}

theorem sp_short {s : Slc} {l : List UInt8} {R : Int → Int → Int → World → Prop} (hs : SrcAt w s 1 (l.map bV)) (k : R ((shF l).1 : Int) ((shF l).2.1 : Int) (shF l).2.2 w) : C_codec_short s w R := by
  apply S_codec_short
  unfold F_codec_short
  have hlen := hs.len_eq
  refine ⟨fun n t w' => w' = w ∧ ∃ (i m : Nat), n = (m : Int) ∧ t = (i : Int) ∧ i ≤ 9 ∧ i ≤ s.len ∧ m < 128 ^ i ∧ shA i m (l.drop i) = shF l, fun _ t _ => s.len - t.toNat, ⟨rfl, 0, 0, rfl, rfl, by omega, by omega, by simp, rfl⟩, ?_⟩
  rintro n t w1 ⟨rfl, i, m, rfl, rfl, hi, his, hm, hsh⟩
  unfold F_codec_short_L0
  refine ⟨fun h => ?_, fun h => ?_⟩
  · have h := of_decide_eq_true h
    obtain ⟨a, c, hc, hcell⟩ := hs.get (i := (i : Int)) (by omega) h
    rw [Int.toNat_natCast] at hc
    have hb := c.toNat_lt
    rw [drop_get hc, shA] at hsh
    refine ⟨a, by omega, h, _, hcell, fun hbad => ?_, fun hbad => ?_⟩
    · rw [if_pos (by simp only [Bool.or_eq_true, Bool.and_eq_true, beq_iff_eq, decide_eq_true_eq] at hbad; omega)] at hsh
      rw [← hsh] at k; exact k
    · have hne : ¬ ((i = 9 ∧ c.toNat > 1) ∨ (i > 0 ∧ c.toNat = 0)) := by
        simp only [Bool.or_eq_false_iff, Bool.and_eq_false_iff, beq_eq_false_iff_ne, decide_eq_false_iff_not] at hbad; omega
      rw [if_neg hne] at hsh
      have w7 : IntKind.i64.wrap (7 * (i : Int)) = ((7 * i : Nat) : Int) := by rw [i64_in _ (by omega) (by omega)]; omega
      have wi : IntKind.i64.wrap ((i : Int) + 1) = ((i + 1 : Nat) : Int) := by rw [i64_in _ (by omega) (by omega)]; omega
      have hp7 : (2 : Nat) ^ (7 * i) = 128 ^ i := by rw [Nat.pow_mul]
      have hx : c.toNat % 128 * 128 ^ i < 2 ^ 64 := by
        by_cases h9 : i = 9
        · subst h9
          have h1 : c.toNat % 128 = c.toNat := Nat.mod_eq_of_lt (by omega)
          rw [h1]
          have h2 : c.toNat * 128 ^ 9 ≤ 1 * 128 ^ 9 := Nat.mul_le_mul_right _ (by omega)
          have h3 : (128 : Nat) ^ 9 = 9223372036854775808 := by decide
          omega
        · have h1 : c.toNat % 128 * 128 ^ i ≤ 127 * 128 ^ i := Nat.mul_le_mul_right _ (by omega)
          have h3 : (128 : Nat) ^ i ≤ 128 ^ 8 := Nat.pow_le_pow_right (by omega) (by omega)
          have h4 : (128 : Nat) ^ 8 = 72057594037927936 := by decide
          omega
      have hm64 : m < 2 ^ 64 := by
        have h3 : (128 : Nat) ^ i ≤ 128 ^ 9 := Nat.pow_le_pow_right (by omega) (by omega)
        have h4 : (128 : Nat) ^ 9 = 9223372036854775808 := by decide
        omega
      have hv : bor .u64 (m : Int) (IntKind.u64.wrap ((IntKind.u64.wrap (band .u8 (c.toNat : Int) 127)) * 2 ^ (min ((7 * i : Nat) : Int).toNat 64))) = ((m + c.toNat % 128 * 128 ^ i : Nat) : Int) := by
        rw [show (127 : Int) = ((127 : Nat) : Int) from rfl, band_bare rfl (by show _ < 256; omega) (by decide), and_127 _ hb, Int.toNat_natCast, Nat.min_eq_left (by omega)]
        rw [u64_in ((c.toNat % 128 : Nat) : Int) (by omega) (by omega), shl_nat, hp7, u64_in _ (by omega) (by omega), bor_bare rfl hm64 hx]
        rw [← hp7] at hm ⊢
        rw [or_shl hm]
      rw [w7]
      simp only [hv, wi]
      refine ⟨by omega, fun hlt => ?_, fun hlt => ?_⟩
      · have hlt := of_decide_eq_true hlt
        rw [if_pos (by omega)] at hsh
        rw [← hsh] at k; exact k
      · have hlt := of_decide_eq_false hlt
        rw [if_neg (by omega)] at hsh
        have h9 : i ≠ 9 := fun h9 => by omega
        refine ⟨⟨trivial, i + 1, _, rfl, rfl, by omega, by omega, ?_, hsh⟩, by show _ - Int.toNat _ < _ - Int.toNat _; omega⟩
        have h1 : c.toNat % 128 * 128 ^ i ≤ 127 * 128 ^ i := Nat.mul_le_mul_right _ (by omega)
        have h2 : 128 ^ i * 128 = 128 ^ (i + 1) := (Nat.pow_succ ..).symm
        omega
  · have h := of_decide_eq_false h
    rw [drop_end (by omega), shA] at hsh
    rw [← hsh] at k; exact k

/-! ### Readers -/
structure RS where
  rest : List UInt8
  code : Int
def RdO (r : Option Addr) (s : RS) (bs : List Chunk) : Prop :=
  ∃ (b : Nat) (sl : Slc) (rb : List Chunk), r = some ⟨b, 0, none⟩ ∧ RowC 1 sl (s.rest.map bV) rb ∧ bs = (b, [Value.bool true, Value.slice sl.ptr sl.len sl.cap, iV s.code]) :: rb

variable {r : Option Addr} {s : RS}
theorem sp_NewReader {sl : Slc} {xs : List UInt8} {R : Option Addr → World → Prop} (st : St w0 fr w) (hs : SrcAt w sl 1 (xs.map bV)) (hl : sl.len ≤ 140737488351232)
    (k : ∀ r bs w', RdO r ⟨xs, 0⟩ bs → St w0 (bs ++ fr) w' → R r w') : C_codec_NewReader sl w R := by
  apply S_codec_NewReader
  refine sp_Clone st hs hl fun s' rb w' ro st _ b w2 hb hw => ?_
  exact k _ _ _ ⟨b, s', rb, rfl, ro, rfl⟩ (st.alloc hb hw)

theorem sp_Reader_Left {R : Int → World → Prop} (st : St w0 (bs ++ fr) w) (o : RdO r s bs) (k : R (s.rest.length : Int) w) : C_codec_Reader_Left r w R := by
  apply S_codec_Reader_Left
  obtain ⟨b, sl, rb, rfl, ro, rfl⟩ := o
  have hl := ro.len
  rw [List.length_map, Nat.mul_one] at hl
  exact ⟨fun h => (by cases h), fun _ => ⟨rfl, sl, st.cell 0 rfl rfl, by rw [← hl]; exact k⟩⟩

def RS.end_ (s : RS) : Int := if s.code = 0 ∧ s.rest ≠ [] then 4 else s.code
theorem sp_Reader_End {R : Int → World → Prop} (st : St w0 (bs ++ fr) w) (o : RdO r s bs) (k : R s.end_ w) : C_codec_Reader_End r w R := by
  apply S_codec_Reader_End
  obtain ⟨b, sl, rb, rfl, ro, rfl⟩ := o
  have hl := ro.len
  rw [List.length_map, Nat.mul_one] at hl
  refine ⟨fun h => (by cases h), fun _ => ⟨rfl, true, st.cell 0 rfl rfl, fun h => (by cases h), fun _ => ⟨rfl, s.code, st.cell 0 rfl rfl, fun h => ?_, fun h => ?_⟩⟩⟩
  · have h : s.code = 0 := by simpa using h
    refine ⟨rfl, sl, st.cell 0 rfl rfl, fun h2 => ?_, fun h2 => ?_⟩
    · have h2 := of_decide_eq_true h2
      unfold RS.end_ at k
      rw [if_pos ⟨h, fun e => by rw [e] at hl; simp at hl; omega⟩] at k; exact k
    · have h2 := of_decide_eq_false h2
      unfold RS.end_ at k
      rw [if_neg (fun e => e.2 (List.eq_nil_of_length_eq_zero (by omega)))] at k
      exact ⟨rfl, s.code, st.cell 0 rfl rfl, k⟩
  · have h : s.code ≠ 0 := by simpa using h
    unfold RS.end_ at k
    rw [if_neg (fun e => h e.1)] at k
    exact ⟨fun h => (by cases h), fun _ => ⟨rfl, s.code, st.cell 0 rfl rfl, k⟩⟩

theorem sp_take {next : Value} {R : Bool → World → Prop} (st : St w0 (bs ++ fr) w) (o : RdO r s bs) (k0 : s.code ≠ 0 → R false w)
    (k1 : s.code = 0 → ∀ sl : Slc, (∀ fr2 w', St w0 (bs ++ fr2) w' → SrcAt w' sl 1 (s.rest.map bV)) → sl.len = s.rest.length → sl.len ≤ sl.cap → CallsV (P := Try.prog) next #[Value.slice sl.ptr sl.len sl.cap] w (fun e' w2 => ∃ (n e : Int), e' = Ending.returned (Value.tuple #[Value.int .i64 n, Value.int .i64 e]) ∧
      ∃ fr', St w0 (bs ++ fr') w2 ∧ (e ≠ 0 → ∀ bs' w3, RdO r ⟨s.rest, e⟩ bs' → St w0 (bs' ++ fr') w3 → R false w3) ∧
        (e = 0 → 0 ≤ n ∧ n ≤ (s.rest.length : Int) ∧ ∀ bs' w3, RdO r ⟨s.rest.drop n.toNat, 0⟩ bs' → St w0 (bs' ++ fr') w3 → R true w3))) : C_codec_Reader_take r next w R := by
  apply S_codec_Reader_take
  obtain ⟨b, sl, rb, rfl, ro, rfl⟩ := o
  have hl := ro.len
  rw [List.length_map, Nat.mul_one] at hl
  refine ⟨fun h => (by cases h), fun _ => ⟨rfl, true, st.cell 0 rfl rfl, fun h => (by cases h), fun _ => ⟨rfl, s.code, st.cell 0 rfl rfl, fun h => k0 (by simpa using h), fun h => ?_⟩⟩⟩
  have h : s.code = 0 := by simpa using h
  refine ⟨rfl, sl, st.cell 0 rfl rfl, CallsV.mono (k1 h sl (fun fr2 w' st' => ro.src st'.drop1) hl.symm ro.cap_le) ?_⟩
  rintro e' w2 ⟨n, e, rfl, fr', st2, kE, kO⟩
  refine ⟨n, e, rfl, fun he => ?_, fun he => ?_⟩
  · have he : e ≠ 0 := by simpa using he
    exact ⟨rfl, st2.writable 0 rfl (by simp [poff]), fun w3 hw3 => kE he _ _ ⟨b, sl, rb, rfl, ro, rfl⟩ (st2.put0 (o := 2) hw3)⟩
  · have he : e = 0 := by simpa using he
    obtain ⟨hn0, hn1, kO⟩ := kO he
    intro w4 e4
    have st4 := st2.drew e4
    refine ⟨rfl, sl, st4.cell 0 rfl rfl, rfl, sl, st4.cell 0 rfl rfl, rfl, sl, st4.cell 0 rfl rfl, ⟨hn0, by omega, by omega, by have := ro.cap_le; omega⟩, ?_⟩
    intro sc hsc
    refine ⟨rfl, st4.writable 0 rfl (by simp [poff]), fun w5 hw5 => kO _ _ ⟨b, sc, rb, rfl, ?_, rfl⟩ ?_⟩
    · have hc := ro.cut hn0 (show n ≤ ((sl.len : Nat) : Int) by omega) (by omega) (Int.le_refl _) (by have := ro.cap_le; omega)
      rw [← hsc, Nat.mul_one, Nat.mul_one, Int.toNat_natCast] at hc
      rw [List.take_of_length_le (by simp; omega), ← List.map_drop] at hc
      exact hc
    · have := st4.put0 (o := 1) hw5
      rw [h] at this
      exact this

def varR (s : RS) : RS × Nat :=
  if s.code ≠ 0 then (s, 0) else if (shF s.rest).2.2 ≠ 0 then (⟨s.rest, (shF s.rest).2.2⟩, 0) else (⟨s.rest.drop (shF s.rest).2.1, 0⟩, (shF s.rest).1)

/-- A local that a method's own function has filled is read at the end. -/
theorem local_end {α : Type} {b : Nat} {f : α → Value} {x : α} {w3 : World} {bs' : List Chunk} {R : α → World → Prop} (st : St w0 (bs' ++ ((b, [f x]) :: fr)) w3) (k : ∀ w', St w0 (bs' ++ fr) w' → R x w') :
    ∃ v, w3.cell? ⟨b, 0, none⟩ = some (f v) ∧ (Writable w3 b 0 1 ∧ (∀ w4, w4 = World.puts b 0 [f v] w3 → (∃ res, CellsAt w4 b 0 [f res] ∧ (R res w4)))) := by
  have st1 := st.unmid
  refine ⟨x, st1.cell 0 rfl rfl, st1.writable 0 rfl (by simp), fun w4 hw4 => ?_⟩
  have st2 := st1.put0 hw4
  exact ⟨x, ⟨st2.cell 0 rfl rfl, trivial⟩, k _ st2.drop1⟩

theorem sp_Reader_Var {R : Int → World → Prop} (st : St w0 (bs ++ fr) w) (o : RdO r s bs)
    (k : ∀ bs' w', RdO r (varR s).1 bs' → St w0 (bs' ++ fr) w' → R ((varR s).2 : Int) w') : C_codec_Reader_Var r w R := by
  apply S_codec_Reader_Var
  intro b w1 hb hw
  have st1 : St w0 (bs ++ ((b, [Value.int .u64 0]) :: fr)) w1 := (st.alloc hb hw).mid
  obtain ⟨hb1, hb2, hb3⟩ := shF_bd s.rest
  refine sp_take st1 o (fun hc => ?_) (fun hc sl hs hlen _ => ?_)
  · refine local_end (f := fun x : Int => Value.int .u64 x) st1 fun w' st' => ?_
    have := k bs w'
    unfold varR at this
    rw [if_pos hc] at this
    exact this o st'
  · refine CallsV.mk (all := #[Value.slice sl.ptr sl.len sl.cap, Value.pointer (some ⟨b, 0, none⟩)]) (by kernel_rfl) rfl ?_
    refine S_codec_Reader_Var_1 (b_ := sl) (t1 := some ⟨b, 0, none⟩) ?_
    refine sp_short (hs _ _ st1) ⟨rfl, st1.unmid.writable 0 rfl (by simp [poff]), fun w2 hw2 => ?_⟩
    have st2 : St w0 (bs ++ ((b, [Value.int .u64 ((shF s.rest).1 : Int)]) :: fr)) w2 := (st1.unmid.put0 hw2).mid
    refine ⟨_, st2, fun he bs' w3 o' st3 => ?_, fun he => ⟨by omega, by omega, fun bs' w3 o' st3 => ?_⟩⟩
    · refine local_end (f := fun x : Int => Value.int .u64 x) st3 fun w' st' => ?_
      have := k bs' w'
      unfold varR at this
      rw [if_neg (by omega), if_pos he] at this
      have hz : (shF s.rest).1 = 0 := by omega
      rw [hz]
      exact this o' st'
    · refine local_end (f := fun x : Int => Value.int .u64 x) st3 fun w' st' => ?_
      have := k bs' w'
      unfold varR at this
      rw [if_neg (by omega), if_neg (by omega)] at this
      rw [Int.toNat_natCast] at o'
      exact this o' st'

theorem varR_lt (s : RS) : (varR s).2 < 2 ^ 64 := by
  unfold varR
  split
  · show 0 < 2 ^ 64; decide
  · split
    · show 0 < 2 ^ 64; decide
    · exact (shF_bd s.rest).1

/-! #### Fixed -/
def leV : List UInt8 → Nat
  | [] => 0
  | c :: r => c.toNat + 256 * leV r
theorem leV_lt : ∀ l, leV l < 256 ^ l.length
  | [] => by simp [leV]
  | c :: r => by
    have h := leV_lt r
    have hb := c.toNat_lt
    rw [leV, List.length_cons, Nat.pow_succ]
    omega
def fixR (width : Int) (s : RS) : RS × Nat :=
  if s.code ≠ 0 then (s, 0) else if width < 1 ∨ width > 8 then (⟨s.rest, 1⟩, 0) else if width > (s.rest.length : Int) then (⟨s.rest, 5⟩, 0)
  else (⟨s.rest.drop width.toNat, 0⟩, leV (s.rest.take width.toNat))

theorem sp_Reader_Fixed {width : Int} {R : Int → World → Prop} (st : St w0 (bs ++ fr) w) (o : RdO r s bs)
    (k : ∀ bs' w', RdO r (fixR width s).1 bs' → St w0 (bs' ++ fr) w' → R ((fixR width s).2 : Int) w') : C_codec_Reader_Fixed r width w R := by
  apply S_codec_Reader_Fixed
  intro b w1 hb hw b1 w2 hb1 hw1
  have st1 : St w0 (bs ++ ((b1, [Value.int .u64 0]) :: (b, [iV width]) :: fr)) w2 := ((st.alloc hb hw).alloc hb1 hw1).perm (((List.perm_middle.symm).cons _).trans (List.perm_middle.symm))
  have fin : ∀ {v : Nat} {bs' : List Chunk} {w3 : World}, St w0 (bs' ++ ((b1, [Value.int .u64 (v : Int)]) :: (b, [iV width]) :: fr)) w3 → (∀ w', St w0 (bs' ++ fr) w' → R (v : Int) w') →
      ∃ v : Int, w3.cell? ⟨b1, 0, none⟩ = some (Value.int .u64 v) ∧ (Writable w3 b1 0 1 ∧ (∀ w4, w4 = World.puts b1 0 [Value.int .u64 v] w3 → (∃ res : Int, CellsAt w4 b1 0 [Value.int .u64 res] ∧ (R res w4)))) := fun st k =>
    local_end (f := fun x : Int => Value.int .u64 x) st fun w' st' => k _ st'.unmid.drop1
  refine sp_take st1 o (fun hc => ?_) (fun hc sl hs hlen _ => ?_)
  · refine fin (v := 0) st1 fun w' st' => ?_
    have := k bs w'
    unfold fixR at this
    rw [if_pos hc] at this
    exact this o st'
  · unfold fixR at k
    rw [if_neg (by omega)] at k
    refine CallsV.mk (all := #[Value.slice sl.ptr sl.len sl.cap, Value.pointer (some ⟨b, 0, none⟩), Value.pointer (some ⟨b1, 0, none⟩)]) (by kernel_rfl) rfl ?_
    refine S_codec_Reader_Fixed_1 (b_ := sl) (t1 := some ⟨b, 0, none⟩) (t2 := some ⟨b1, 0, none⟩) ?_
    unfold F_codec_Reader_Fixed_1
    have cb : ∀ {v : Value} {w' : World}, St w0 (bs ++ ((b1, [v]) :: (b, [iV width]) :: fr)) w' → w'.cell? ⟨b, 0, none⟩ = some (iV width) := fun st' => (st'.unmid).drop1.unmid.cell 0 rfl rfl
    refine ⟨rfl, width, cb st1, fun h => ?_, fun h => ⟨width, cb st1, ?_⟩⟩
    · have h := of_decide_eq_true h
      rw [if_pos (by omega)] at k
      unfold F_codec_Reader_Fixed_1_k0
      exact ⟨fun _ => ⟨_, st1, fun _ bs' w3 o' st3 => fin (v := 0) st3 fun w' st' => k bs' w' o' st', fun he => absurd he (by decide)⟩, fun hh => (by cases hh)⟩
    have h := of_decide_eq_false h
    by_cases h2 : width > 8
    · rw [if_pos (by omega)] at k
      unfold F_codec_Reader_Fixed_1_k0
      exact ⟨fun _ => ⟨_, st1, fun _ bs' w3 o' st3 => fin (v := 0) st3 fun w' st' => k bs' w' o' st', fun he => absurd he (by decide)⟩, fun hh => absurd h2 (of_decide_eq_false hh)⟩
    rw [if_neg (by omega)] at k
    unfold F_codec_Reader_Fixed_1_k0
    refine ⟨fun hh => absurd (of_decide_eq_true hh) h2, fun _ => ⟨rfl, width, cb st1, fun h3 => ?_, fun h3 => ?_⟩⟩
    · have h3 := of_decide_eq_true h3
      rw [if_pos (by omega)] at k
      exact ⟨_, st1, fun _ bs' w3 o' st3 => fin (v := 0) st3 fun w' st' => k bs' w' o' st', fun he => absurd he (by decide)⟩
    have h3 := of_decide_eq_false h3
    rw [if_neg (by omega)] at k
    obtain ⟨W, rfl⟩ := toN (show 0 ≤ width by omega)
    rw [Int.toNat_natCast] at k
    have w1' : IntKind.i64.wrap ((W : Int) - 1) = (W : Int) - 1 := i64_in _ (by omega) (by omega)
    refine ⟨rfl, (W : Int), cb st1, ?_⟩
    rw [w1']
    refine ⟨fun i w' => ∃ (j : Nat), i = (j : Int) - 1 ∧ j ≤ W ∧ St w0 (bs ++ ((b1, [Value.int .u64 ((leV ((s.rest.take W).drop j) : Nat) : Int)]) :: (b, [iV (W : Int)]) :: fr)) w', fun i _ => (i + 1).toNat,
      ⟨W, rfl, Nat.le_refl _, by rw [List.drop_of_length_le (by rw [List.length_take]; omega)]; exact st1⟩, ?_⟩
    rintro i w3 ⟨j, rfl, hj, st3⟩
    unfold F_codec_Reader_Fixed_1_L1
    refine ⟨fun hi => ?_, fun hi => ?_⟩
    · have hi := of_decide_eq_true hi
      obtain ⟨j, rfl⟩ := Nat.exists_eq_succ_of_ne_zero (show j ≠ 0 by omega)
      intro w4 e4
      have st4 := st3.drew e4
      have hji : ((j.succ : Nat) : Int) - 1 = (j : Int) := by omega
      rw [hji]
      obtain ⟨a, c, hc', hcell⟩ : IsAt sl.ptr ∧ ∃ x, s.rest[(j : Int).toNat]? = some x ∧ w4.cell? ⟨pblk sl.ptr, poff sl.ptr + (j : Int).toNat, none⟩ = some (bV x) := by
        exact (hs _ _ st4).get (by omega) (by omega)
      rw [Int.toNat_natCast] at hc'
      have hb' := c.toNat_lt
      refine ⟨rfl, _, st4.unmid.cell 0 rfl rfl, a, by omega, by omega, _, hcell, st4.unmid.writable 0 rfl (by simp [poff]), fun w5 hw5 => ?_⟩
      have hd : (s.rest.take W).drop j = c :: (s.rest.take W).drop (j + 1) := drop_get (by rw [List.getElem?_take, if_pos (by omega)]; exact hc')
      have hlt := leV_lt ((s.rest.take W).drop (j + 1))
      have hlen2 : ((s.rest.take W).drop (j + 1)).length ≤ 7 := by rw [List.length_drop, List.length_take]; omega
      have h56 : (256 : Nat) ^ ((s.rest.take W).drop (j + 1)).length ≤ 256 ^ 7 := Nat.pow_le_pow_right (by omega) hlen2
      have h567 : (256 : Nat) ^ 7 = 72057594037927936 := by decide
      have hv : bor .u64 (IntKind.u64.wrap (((leV ((s.rest.take W).drop (j + 1)) : Nat) : Int) * 2 ^ 8)) (IntKind.u64.wrap (c.toNat : Int)) = ((leV ((s.rest.take W).drop j) : Nat) : Int) := by
        rw [shl_nat, u64_in _ (by omega) (by omega), u64_in (c.toNat : Int) (by omega) (by omega), bor_bare rfl (by show _ < 2 ^ 64; omega) (by show _ < 2 ^ 64; omega), Nat.or_comm, or_shl (by omega), hd, leV]
        congr 1
        omega
      have hv' := hv
      rw [show (j + 1) = j.succ from rfl] at hv'
      rw [hv'] at hw5
      have wj : IntKind.i64.wrap ((j : Int) - 1) = (j : Int) - 1 := i64_in _ (by omega) (by omega)
      rw [wj]
      exact ⟨⟨j, rfl, by omega, (st4.unmid.put0 hw5).mid⟩, by show Int.toNat _ < Int.toNat _; omega⟩
    · have hi := of_decide_eq_false hi
      obtain rfl : j = 0 := by omega
      rw [List.drop_zero] at st3
      refine ⟨rfl, _, cb st3, _, st3, fun he => absurd rfl he, fun _ => ⟨by omega, by omega, fun bs' w4 o' st4 => fin st4 fun w' st' => ?_⟩⟩
      rw [Int.toNat_natCast] at o'
      exact k bs' w' o' st'
end

end Go.Proofs.Ytpdegdnigcnjiaa
