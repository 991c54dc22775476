/- Chapter 02: writers of bytes. -/
import Derived.Test.YtfmkemmgakdddaaGreatDoorUCodecK
import Derived.Test.YtfmkemmgakdddaaGreatDoorGcodec
namespace Go.Proofs.YtfmkemmgakdddaaGreatDoor
open Go
set_option linter.unusedVariables false
set_option linter.unusedSimpArgs false
section
variable {w0 : Base} {w : World} {fr bs : List Chunk}

/-! ### Writers -/
def WrO (w_ : Option Addr) (xs : List UInt8) (bs : List Chunk) : Prop :=
  ∃ (b : Nat) (s : Slc) (rb : List Chunk), w_ = some ⟨b, 0, none⟩ ∧ RowC 1 s (xs.map bV) rb ∧ bs = (b, [Value.bool true, Value.slice s.ptr s.len s.cap]) :: rb

variable {wr : Option Addr} {xs : List UInt8}
theorem sp_NewWriter {R : Option Addr → World → Prop} (st : St w0 fr w) (k : ∀ r bs w', WrO r [] bs → St w0 (bs ++ fr) w' → R r w') : C_codec_NewWriter w R := by
  apply S_codec_NewWriter
  intro b w1 hb hw
  exact k _ _ _ ⟨b, ⟨none, 0, 0⟩, [], rfl, RowC.nil, rfl⟩ (st.alloc hb hw)

theorem sp_Writer_gone {R : Bool → World → Prop} (st : St w0 (bs ++ fr) w) (o : WrO wr xs bs) (k : R false w) : C_codec_Writer_gone wr w R := by
  apply S_codec_Writer_gone
  obtain ⟨b, s, rb, rfl, r, rfl⟩ := o
  exact ⟨fun h => (by cases h), fun _ => ⟨rfl, true, st.cell 0 rfl rfl, k⟩⟩

theorem one_str (s : ByteArray) : oneCells (strCells s) = true := by
  unfold strCells oneCells
  rw [List.all_map]
  exact List.all_eq_true.2 fun _ _ => rfl
/-- One byte more, as the writer's methods put it. -/
theorem wr_push {b : Nat} {s : Slc} {rb : List Chunk} {x : UInt8} {v : Value} {T : TypeId} {w1 : World} {b2 : Nat} {K : Slc → World → Prop} (st : St w0 ((b, [Value.bool true, Value.slice s.ptr s.len s.cap]) :: (rb ++ fr)) w) (r : RowC 1 s (xs.map bV) rb)
    (hl : xs.length + 1 ≤ 140737488351232) (hv : v = bV x) (hb : b2 = w.heap.size) (hw : w1 = w.alloc (Obj.cells [v].toArray T (0, 0)))
    (k : ∀ s' w2, (b = b) → Writable w2 b 1 1 → (∀ w3, w3 = World.puts b 1 [Value.slice s'.ptr s'.len s'.cap] w2 → ∃ bs', WrO (some ⟨b, 0, none⟩) (xs ++ [x]) bs' ∧ St w0 (bs' ++ fr) w3) → K s' w2) :
    ∃ src, SrcAt w1 (Slc.mk (some ⟨b2, 0, none⟩) 1 1) 1 src ∧ AppendW 1 1 T [Value.int .u8 0] s src 1 w1 K := by
  subst hv
  refine ⟨_, srcAt_new hb hw rfl, ?_⟩
  have st1 := (st.alloc hb hw).drop1
  have hsl := r.len
  rw [List.length_map] at hsl
  refine r.append (l := (b, [Value.bool true, Value.slice s.ptr s.len s.cap]) :: fr) (by exact st1.swap (a := [(b, [Value.bool true, Value.slice s.ptr s.len s.cap])])) rfl rfl rfl (by omega) fun s' rb' w2 r' st' hl' => ?_
  refine k s' w2 rfl ((st'.swap (b := [(b, _)])).writable 0 rfl (by simp)) fun w3 hw3 => ⟨_, ⟨b, s', rb', rfl, by simpa using r', rfl⟩, ?_⟩
  exact (st'.swap (b := [(b, [Value.bool true, Value.slice s.ptr s.len s.cap])])).put0 hw3

theorem sp_Writer_Var {n : Nat} {R : World → Prop} (st : St w0 (bs ++ fr) w) (o : WrO wr xs bs) (hn : n < 2 ^ 64) (hl : xs.length + 20 ≤ 140737488351232)
    (k : ∀ bs' w', WrO wr (xs ++ varF n) bs' → St w0 (bs' ++ fr) w' → R w') : C_codec_Writer_Var wr (n : Int) w R := by
  apply S_codec_Writer_Var
  refine sp_Writer_gone st o ⟨fun h => (by cases h), fun _ => ?_⟩
  refine ⟨fun n1 w' => ∃ (m f : Nat) (pre : List UInt8) (bs : List Chunk), n1 = (m : Int) ∧ pre.length + f = 9 ∧ m < 128 ^ (f + 1) ∧ m < 2 ^ 64 ∧ pre ++ varB (f + 1) m = varF n ∧ WrO wr (xs ++ pre) bs ∧ St w0 (bs ++ fr) w', fun n1 _ => n1.toNat,
    ⟨n, 9, [], bs, rfl, rfl, by have : (2 : Nat) ^ 64 ≤ 128 ^ (9 + 1) := by decide
                                omega, hn, rfl, by simpa using o, st⟩, ?_⟩
  rintro n1 w1 ⟨m, f, pre, bs, rfl, hpf, hm, hm64, hpre, o, st⟩
  unfold F_codec_Writer_Var_L0
  obtain ⟨b, s, rb, rfl, r, rfl⟩ := o
  have e256 : IntKind.u8.wrap (m : Int) = ((m % 256 : Nat) : Int) := by rw [wrap_u8]; omega
  refine ⟨fun h => ?_, fun h => ?_⟩
  · have h := of_decide_eq_true h
    refine ⟨rfl, s, st.cell 0 rfl rfl, fun b2 w3 hb hw => ?_⟩
    refine wr_push (x := UInt8.ofNat (m % 128 + 128)) st r (by simp; omega) ?_ hb hw fun s' w4 _ hwr hput => ⟨rfl, hwr, fun w5 hw5 => ?_⟩
    · rw [bV_ofNat (by omega), e256, show (128 : Int) = ((128 : Nat) : Int) from rfl, bor_bare rfl (by show _ < 256; omega) (by decide), or_128 _ (by omega)]
      congr 2
      omega
    · obtain ⟨bs', o', st'⟩ := hput w5 hw5
      have hd : Int.fdiv (m : Int) (2 ^ 7) = ((m / 128 : Nat) : Int) := fdiv_nat m 128
      rw [hd]
      have hf : f ≠ 0 := fun e => by subst e; simp at hm; omega
      obtain ⟨f, rfl⟩ := Nat.exists_eq_succ_of_ne_zero hf
      refine ⟨⟨m / 128, f, pre ++ [UInt8.ofNat (m % 128 + 128)], bs', rfl, by simp; omega, ?_, by omega, ?_, by simpa using o', st'⟩, by show Int.toNat _ < Int.toNat _; omega⟩
      · rw [Nat.div_lt_iff_lt_mul (by omega)]
        rw [Nat.pow_succ] at hm
        exact hm
      · rw [← hpre]
        conv => rhs; rw [varB, if_neg (by omega)]
        simp
  · have h := of_decide_eq_false h
    refine ⟨rfl, s, st.cell 0 rfl rfl, fun b2 w3 hb hw => ?_⟩
    refine wr_push (x := UInt8.ofNat m) st r (by simp; omega) ?_ hb hw fun s' w4 _ hwr hput => ⟨rfl, hwr, fun w5 hw5 => ?_⟩
    · rw [bV_ofNat (by omega), e256]
      congr 2
      omega
    · obtain ⟨bs', o', st'⟩ := hput w5 hw5
      rw [varB, if_pos (by omega)] at hpre
      rw [List.append_assoc, hpre] at o'
      exact k _ _ o' st'

theorem sp_Writer_Text {s : ByteArray} {R : World → Prop} (st : St w0 (bs ++ fr) w) (o : WrO wr xs bs) (hl : xs.length + s.size + 40 ≤ 140737488351232)
    (k : ∀ bs' w', WrO wr (xs ++ (varF s.size ++ s.data.toList)) bs' → St w0 (bs' ++ fr) w' → R w') : C_codec_Writer_Text wr s w R := by
  apply S_codec_Writer_Text
  refine sp_Writer_gone st o ⟨fun h => (by cases h), fun _ => ?_⟩
  rw [show IntKind.u64.wrap ((s.size : Nat) : Int) = ((s.size : Nat) : Int) from u64_in _ (by omega) (by omega)]
  refine sp_Writer_Var st o (by omega) (by omega) fun bs w2 o st => ?_
  obtain ⟨b, sl, rb, rfl, r, rfl⟩ := o
  have hv := varB_len 10 s.size
  have hsl := r.len
  simp only [List.length_map, List.length_append] at hsl
  refine ⟨rfl, sl, st.cell 0 rfl rfl, ?_⟩
  have hsz : s.data.toList.length = s.size := by simp
  refine r.append (l := (b, [Value.bool true, Value.slice sl.ptr sl.len sl.cap]) :: fr) (by exact st.swap (a := [(b, [Value.bool true, Value.slice sl.ptr sl.len sl.cap])])) (by simp [strCells]) (one_str _) rfl (by unfold varF at hsl; omega) fun s' rb' w3 r' st' hl' => ?_
  refine ⟨rfl, (st'.swap (b := [(b, _)])).writable 0 rfl (by simp [poff]), fun w4 hw4 => k _ _ ⟨b, s', rb', rfl, ?_, rfl⟩ ((st'.swap (b := [(b, [Value.bool true, Value.slice sl.ptr sl.len sl.cap])])).put0 (o := 1) hw4)⟩
  have e : strCells s = s.data.toList.map bV := rfl
  rw [← List.append_assoc, List.map_append, ← e]
  exact r'

theorem sp_Writer_Fixed {n : Nat} {width : Int} {R : Int → World → Prop} (st : St w0 (bs ++ fr) w) (o : WrO wr xs bs) (hn : n < 2 ^ 64) (hl : xs.length + 20 ≤ 140737488351232)
    (k1 : (width < 1 ∨ width > 8) → R 1 w) (k3 : 1 ≤ width → width ≤ 8 → 256 ^ width.toNat ≤ n → R 3 w)
    (k0 : 1 ≤ width → width ≤ 8 → n < 256 ^ width.toNat → ∀ bs' w', WrO wr (xs ++ fixB width.toNat n) bs' → St w0 (bs' ++ fr) w' → R 0 w') : C_codec_Writer_Fixed wr (n : Int) width w R := by
  apply S_codec_Writer_Fixed
  refine sp_Writer_gone st o ⟨fun h => (by cases h), fun _ => ⟨fun h => k1 (by simpa using h), fun h => ?_⟩⟩
  simp only [Bool.or_eq_false_iff, decide_eq_false_iff_not] at h
  obtain ⟨W, rfl⟩ := toN (show 0 ≤ width by omega)
  have h8 : IntKind.i64.wrap (8 * (W : Int)) = ((8 * W : Nat) : Int) := by rw [i64_in _ (by omega) (by omega)]; omega
  have hp : (2 : Nat) ^ (8 * W) = 256 ^ W := by rw [Nat.pow_mul]
  have hdiv : Int.fdiv (n : Int) (2 ^ (min (((8 * W : Nat) : Int).toNat) 64)) = ((n / 256 ^ W : Nat) : Int) := by
    rw [Int.toNat_natCast, Nat.min_eq_left (by omega), show ((2 : Int) ^ (8 * W)) = ((2 ^ (8 * W) : Nat) : Int) from by push_cast; rfl, fdiv_nat, hp]
  rw [h8, hdiv]
  rw [Int.toNat_natCast] at k3 k0
  have hpos : 0 < 256 ^ W := Nat.pow_pos (by omega)
  refine ⟨by omega, fun hh => k3 (by omega) (by omega) ?_, fun hh => ?_⟩
  · have hne : n / 256 ^ W ≠ 0 := fun e => by rw [e] at hh; simp at hh
    rcases Nat.lt_or_ge n (256 ^ W) with h3 | h3
    · exact absurd (Nat.div_eq_of_lt h3) hne
    · exact h3
  have hlt : n < 256 ^ W := by
    have h4 : n / 256 ^ W = 0 := by
      have : ((n / 256 ^ W : Nat) : Int) = 0 := by simpa using hh
      omega
    rcases Nat.lt_or_ge n (256 ^ W) with h3 | h3
    · exact h3
    · have := Nat.div_pos h3 hpos; omega
  have k0 := k0 (by omega) (by omega) hlt
  refine ⟨fun n1 t w' => ∃ (m j : Nat) (pre : List UInt8) (bs : List Chunk), n1 = (m : Int) ∧ t = ((W - j : Nat) : Int) ∧ j ≤ W ∧ m < 2 ^ 64 ∧ pre.length + j = W ∧ pre ++ fixB j m = fixB W n ∧ WrO wr (xs ++ pre) bs ∧ St w0 (bs ++ fr) w', fun _ t _ => W - t.toNat,
    ⟨n, W, [], bs, rfl, by simp, Nat.le_refl _, hn, by simp, rfl, by simpa using o, st⟩, ?_⟩
  rintro n1 t w1 ⟨m, j, pre, bs, rfl, rfl, hj, hm, hpj, hpre, o, st⟩
  unfold F_codec_Writer_Fixed_L0
  refine ⟨fun h => ?_, fun h => ?_⟩
  · have h := of_decide_eq_true h
    have hj0 : j ≠ 0 := fun e => by subst e; omega
    obtain ⟨j, rfl⟩ := Nat.exists_eq_succ_of_ne_zero hj0
    obtain ⟨b, s, rb, rfl, r, rfl⟩ := o
    have e256 : IntKind.u8.wrap (m : Int) = ((m % 256 : Nat) : Int) := by rw [wrap_u8]; omega
    refine ⟨rfl, s, st.cell 0 rfl rfl, fun b2 w3 hb hw => ?_⟩
    refine wr_push (x := UInt8.ofNat (m % 256)) st r (by simp; omega) ?_ hb hw fun s' w4 _ hwr hput => ⟨rfl, hwr, fun w5 hw5 => ?_⟩
    · rw [bV_ofNat (by omega), e256]
    · obtain ⟨bs', o', st'⟩ := hput w5 hw5
      have hd : Int.fdiv (m : Int) (2 ^ 8) = ((m / 256 : Nat) : Int) := fdiv_nat m 256
      have wt : IntKind.i64.wrap (((W - (j + 1) : Nat) : Int) + 1) = ((W - j : Nat) : Int) := by rw [i64_in _ (by omega) (by omega)]; omega
      rw [hd, wt]
      refine ⟨⟨m / 256, j, pre ++ [UInt8.ofNat (m % 256)], bs', rfl, rfl, by omega, by omega, by simp; omega, ?_, by simpa using o', st'⟩, by show _ - _ < _ - _; omega⟩
      rw [← hpre]
      conv => rhs; rw [fixB]
      simp
  · have h := of_decide_eq_false h
    obtain rfl : j = 0 := by omega
    rw [fixB, List.append_nil] at hpre
    rw [hpre] at o
    exact k0 _ _ o st

theorem sp_Writer_Done {R : Slc → World → Prop} (st : St w0 (bs ++ fr) w) (o : WrO wr xs bs) (hl : xs.length ≤ 140737488351232)
    (k : ∀ s rb w', RowC 1 s (xs.map bV) rb → St w0 (rb ++ (bs ++ fr)) w' → s.len = xs.length → R s w') : C_codec_Writer_Done wr w R := by
  apply S_codec_Writer_Done
  refine sp_Writer_gone st o ⟨fun h => (by cases h), fun _ => ?_⟩
  obtain ⟨b, s, rb, rfl, r, rfl⟩ := o
  have hsl := r.len
  rw [List.length_map] at hsl
  refine ⟨rfl, s, st.cell 0 rfl rfl, ?_⟩
  exact sp_Clone st (r.src (st.drop1 : St w0 (rb ++ fr) w)) (by omega) k
end

end Go.Proofs.YtfmkemmgakdddaaGreatDoor
