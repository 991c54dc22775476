/- Chapter 02: laws of encodings. -/
import Derived.Test.YtckmganidgbpgaaUBeyond
import Derived.Test.YtckmganidgbpgaaUCodecT
import Derived.Test.YtckmganidgbpgaaGCodecApart
import Derived.Test.YtckmganidgbpgaaGCodecStops
namespace Go.Proofs.Ytckmganidgbpgaa
open Go
set_option linter.unusedVariables false

theorem varB_ne (f n : Nat) : varB (f + 1) n ≠ [] := by unfold varB; split <;> simp
theorem varF_ne (n : Nat) : varF n ≠ [] := varB_ne 9 n
theorem varB_mono : ∀ (f : Nat) {m n : Nat}, m ≤ n → (varB f m).length ≤ (varB f n).length
  | 0, _, _, _ => Nat.le_refl _
  | f + 1, m, n, h => by
    by_cases hm : m < 128
    · have : (varB (f + 1) m).length = 1 := by unfold varB; rw [if_pos hm]; rfl
      have := List.length_pos_iff.2 (varB_ne f n)
      omega
    · unfold varB
      rw [if_neg hm, if_neg (by omega), List.length_cons, List.length_cons]
      have := varB_mono f (show m / 128 ≤ n / 128 by omega)
      omega
/-- No short number's bytes are the beginning of another one's. -/
theorem varF_apart {n m : Nat} (hn : n < 2 ^ 64) (hm : m < 2 ^ 64) (hl : (varF n).length ≤ (varF m).length) (h : varF n = (varF m).take (varF n).length) : n = m := by
  have e : varF m = varF n ++ (varF m).drop (varF n).length := by
    conv => lhs; rw [← List.take_append_drop (varF n).length (varF m)]
    rw [← h]
  have h1 := shF_var hm []
  rw [List.append_nil, e, shF_var hn] at h1
  exact congrArg Prod.fst h1

theorem law_CodecApart (x0 x1 : Int) (w : World) (h0 : 0 ≤ x0 ∧ x0 ≤ 18446744073709551615) (h1 : 0 ≤ x1 ∧ x1 ≤ 18446744073709551615) :
    C_towpathlaw02_CodecApart x0 x1 w (fun b w' => b = true ∧ RowKit.Below w.heap.size w w') := by
  apply S_towpathlaw02_CodecApart
  unfold F_towpathlaw02_CodecApart
  obtain ⟨n, rfl⟩ := toN h0.1
  obtain ⟨m, rfl⟩ := toN h1.1
  have hn : n < 2 ^ 64 := by omega
  have hm : m < 2 ^ 64 := by omega
  have l1 := varB_len 10 n
  have l2 := varB_len 10 m
  have st := St.start w
  refine sp_NewWriter st fun r1 bs1 w1 o1 st => sp_NewWriter st fun r2 bs2 w2 o2 st => ?_
  refine sp_Writer_Var (fr := bs2 ++ []) st.swap o1 hn (by simp) fun bs1 w3 o1 st => ?_
  refine sp_Writer_Var (fr := bs1 ++ []) st.swap o2 hm (by simp) fun bs2 w4 o2 st => ?_
  rw [List.nil_append] at o1 o2
  refine sp_Writer_Done (fr := bs2 ++ []) st.swap o1 (by unfold varF; omega) fun s1 rb1 w5 ro1 st hs1 => ?_
  have st := st.swap3
  refine sp_Writer_Done (fr := rb1 ++ (bs1 ++ [])) st o2 (by unfold varF; omega) fun s2 rb2 w6 ro2 st hs2 => ?_
  refine sp_towpathlaw02_alive st fun w7 st => ?_
  have p1 := List.length_pos_iff.2 (varF_ne n)
  have p2 := List.length_pos_iff.2 (varF_ne m)
  have q1 := ro1.src (st.drop.drop : St w (rb1 ++ (bs1 ++ [])) w7)
  have q2 := ro2.src st
  have c1 := ro1.cap_le
  have c2 := ro2.cap_le
  refine ⟨fun hh => ?_, fun hh => ⟨fun he => ?_, fun he => fun w9 e9 => ?_⟩⟩
  · simp only [Bool.not_true, Bool.false_or, Bool.or_eq_true, Bool.and_eq_true, beq_iff_eq, decide_eq_true_eq] at hh
    exfalso
    rcases hh with (hh | hh) | ⟨hh, hh2⟩
    · omega
    · omega
    · have := varB_mono 10 (show m ≤ n by omega)
      unfold varF at hs1 hs2
      omega
  · have he : n = m := by
      have : (n : Int) = (m : Int) := by simpa using he
      omega
    subst he
    exact sp_SameBytes q1 q2 (by unfold varF at hs1; omega) fun w8 e8 => ⟨by simp, (st.keep e8).below⟩
  · have he : n ≠ m := fun e => by subst e; simp at he
    have st9 := st.drew e9
    have q1 := ro1.src (st9.drop.drop : St w (rb1 ++ (bs1 ++ [])) w9)
    have q2 := ro2.src st9
    have hk : (if ((s2.len : Nat) : Int) < ((s1.len : Nat) : Int) then ((s2.len : Nat) : Int) else ((s1.len : Nat) : Int)) = ((min s1.len s2.len : Nat) : Int) := by split <;> omega
    rw [hk, Int.toNat_natCast]
    refine ⟨by omega, by omega, by omega, by omega, ?_⟩
    have t1 := q1.pre (k := min s1.len s2.len) (Nat.min_le_left _ _)
    have t2 := q2.pre (k := min s1.len s2.len) (Nat.min_le_right _ _)
    rw [Nat.mul_one, ← List.map_take] at t1 t2
    refine sp_SameBytes t1 t2 (by show min _ _ ≤ _; unfold varF at hs1; omega) fun w10 e10 => ⟨?_, (st9.keep e10).below⟩
    rw [Bool.not_eq_true', decide_eq_false_iff_not]
    intro heq
    rcases Nat.le_total s1.len s2.len with hle | hle
    · rw [Nat.min_eq_left hle] at heq
      rw [hs1, List.take_length] at heq
      exact he (varF_apart hn hm (by omega) heq)
    · rw [Nat.min_eq_right hle] at heq
      rw [hs2, List.take_length] at heq
      exact he (varF_apart hm hn (by omega) heq.symm).symm

/-! ### Scripts -/
abbrev Op2 := T_towpathlaw02_Op
abbrev opV (o : Op2) : List Value := [Value.int .u8 o.Kind, Value.int .u64 o.N, Value.int .i64 o.Width, Value.string o.Text, Value.int .i64 o.Most]
abbrev opOk (o : Op2) : Prop := (0 ≤ o.Kind ∧ o.Kind ≤ 255) ∧ (0 ≤ o.N ∧ o.N ≤ 18446744073709551615) ∧ ((-9223372036854775808) ≤ o.Width ∧ o.Width ≤ 9223372036854775807) ∧ (o.Text.size ≤ 140737488351232) ∧ ((-9223372036854775808) ≤ o.Most ∧ o.Most ≤ 9223372036854775807)
def byS : Nat → List Op2 → Bool
  | _, [] => false
  | n, o :: r => if n + 10 + o.Text.size > 1048576 then true else byS (n + 10 + o.Text.size) r
def cost (l : List Op2) : Nat := (l.map fun o => 10 + o.Text.size).sum
theorem byS_cost : ∀ (l : List Op2) (n : Nat), n ≤ 1048576 → byS n l = false → n + cost l ≤ 1048576
  | [], n, hn, _ => by simpa [cost] using hn
  | o :: r, n, hn, h => by
    unfold byS at h
    split at h
    · cases h
    · have := byS_cost r _ (by omega) h
      unfold cost at this ⊢
      rw [List.map_cons, List.sum_cons]
      omega
theorem ops_in {w : World} {s : Slc} {E : List Value → Prop} (h : OkSl w s 5 48 E) (hE : ∀ es, E es → ∃ e : Op2, es = opV e ∧ opOk e) :
    ∃ l : List Op2, SrcAt w s 5 (l.flatMap opV) ∧ s.len ≤ 140737488351232 ∧ l.length = s.len ∧ ∀ o ∈ l, opOk o := by
  obtain ⟨l, h1, h2, h3, h4, h5⟩ := ok_list (f := opV) h hE (fun _ => rfl) (by omega)
  exact ⟨l, h1, by omega, h4, h5⟩
theorem op_at {w : World} {s : Slc} {l : List Op2} (h : SrcAt w s 5 (l.flatMap opV)) {i : Int} (h0 : 0 ≤ i) (h1 : i < ((s.len : Nat) : Int)) : IsAt s.ptr ∧ ∃ x, l[i.toNat]? = some x ∧ CellsAt w (pblk s.ptr) (poff s.ptr + i.toNat * 5) (opV x) :=
  h.getN (fun _ => rfl) (by omega) h0 h1

theorem sp_towpathlaw02_beyond {w : World} {s : Slc} {l : List Op2} {R : Bool → World → Prop} (hs : SrcAt w s 5 (l.flatMap opV)) (hl : s.len ≤ 140737488351232) (hlen : l.length = s.len) (hok : ∀ o ∈ l, opOk o)
    (k : R (byS 0 l) w) : C_towpathlaw02_beyond s w R := by
  apply S_towpathlaw02_beyond
  unfold F_towpathlaw02_beyond
  refine ⟨fun n i w' => w' = w ∧ ∃ m : Nat, n = (m : Int) ∧ m ≤ 1048576 ∧ 0 ≤ i ∧ i ≤ s.len ∧ byS m (l.drop i.toNat) = byS 0 l, fun _ i _ => s.len - i.toNat, ⟨rfl, 0, rfl, by omega, by omega, by omega, rfl⟩, ?_⟩
  rintro n i w1 ⟨rfl, m, rfl, hm, h0, h1, hb⟩
  unfold F_towpathlaw02_beyond_L0
  refine ⟨fun hi => ?_, fun hi => ?_⟩
  · have hi := of_decide_eq_true hi
    obtain ⟨a, x, hx, hc⟩ := op_at hs h0 hi
    have hxo := hok x (List.mem_of_getElem? hx)
    rw [drop_get hx, byS] at hb
    have wi : IntKind.i64.wrap (i + 1) = i + 1 := wrap_next h0 hi (by omega)
    have wn : IntKind.i64.wrap (IntKind.i64.wrap ((m : Int) + 10) + ((x.Text.size : Nat) : Int)) = ((m + 10 + x.Text.size : Nat) : Int) := by
      rw [i64_in ((m : Int) + 10) (by omega) (by omega), i64_in _ (by omega) (by omega)]; omega
    refine ⟨a, h0, hi, x.Text, hc.2.2.2.1, ?_⟩
    simp only [wn, wi]
    refine ⟨fun hh => ?_, fun hh => ?_⟩
    · have hh := of_decide_eq_true hh
      rw [if_pos (by omega)] at hb
      rw [← hb] at k; exact k
    · have hh := of_decide_eq_false hh
      rw [if_neg (by omega)] at hb
      exact ⟨⟨trivial, _, rfl, by omega, by omega, by omega, by rw [toNat_next h0]; exact hb⟩, by show _ - _ < _ - _; omega⟩
  · have hi := of_decide_eq_false hi
    rw [drop_end (by omega), byS] at hb
    rw [← hb] at k; exact k

/-! ### A reader that has gone wrong stands still -/
theorem varR_stop {s : RS} (h : s.code ≠ 0) : varR s = (s, 0) := by unfold varR; rw [if_pos h]
theorem fixR_stop {s : RS} {W : Int} (h : s.code ≠ 0) : fixR W s = (s, 0) := by unfold fixR; rw [if_pos h]
theorem textR_stop {s : RS} {m : Int} (h : s.code ≠ 0) : textR m s = (s, []) := by unfold textR; rw [if_pos h]
theorem end_stop {s : RS} (h : s.code ≠ 0) : s.end_ = s.code := by unfold RS.end_; rw [if_neg (fun e => h e.1)]
/-- How many bytes a reader has left, as it lies in memory. -/
def lenAt (r : Option Addr) (w : World) : Nat := match w.cell? ⟨pblk r, poff r + 1, none⟩ with
  | some (.slice _ l _) => l
  | _ => 0
theorem lenAt_eq {w0 w : World} {fr bs : List Chunk} {r : Option Addr} {s : RS} (st : St w0 (bs ++ fr) w) (o : RdO r s bs) : lenAt r w = s.rest.length := by
  obtain ⟨b, sl, rb, rfl, ro, rfl⟩ := o
  have hl := ro.len
  rw [List.length_map, Nat.mul_one] at hl
  have : w.cell? ⟨pblk (some ⟨b, 0, none⟩), poff (some ⟨b, 0, none⟩) + 1, none⟩ = some (Value.slice sl.ptr sl.len sl.cap) := st.cell 0 rfl rfl
  unfold lenAt
  rw [this]
  exact hl.symm

set_option maxHeartbeats 1000000 in
theorem law_CodecStops (x0 x1 : Slc) (w : World) (h0 : OkSl w x0 1 1 (fun es => ∃ e_ : Int, es = [Value.int .u8 e_] ∧ (0 ≤ e_ ∧ e_ ≤ 255))) (h1 : OkSl w x1 5 48 (fun es => ∃ e_ : T_towpathlaw02_Op, es = opV e_ ∧ (Ok_T_towpathlaw02_Op w e_))) :
    C_towpathlaw02_CodecStops x0 x1 w (fun b w' => b = true ∧ RowKit.Below w.heap.size w w') := by
  apply S_towpathlaw02_CodecStops
  unfold F_towpathlaw02_CodecStops
  obtain ⟨xs, hs0, hcl, hcap, hl0⟩ := ok_bytes h0
  obtain ⟨ops, hs1, hl1, hlen1, hok⟩ := ops_in h1 fun es ⟨e, h, h'⟩ => ⟨e, h, h'⟩
  have st := St.start w
  have fin : ∀ {w1 : World}, St w [] w1 → F_towpathlaw02_CodecStops_k0 x0 x1 (fun b w' => b = true ∧ RowKit.Below w.heap.size w w') true w1 := fun st => by
    unfold F_towpathlaw02_CodecStops_k0
    exact ⟨fun _ => sp_towpathlaw02_alive st fun w2 st => ⟨rfl, st.below⟩, fun hh => by cases hh⟩
  refine sp_towpathlaw02_alive st fun w1 st => ⟨fun h => by simp at h, fun _ => ?_⟩
  refine sp_towpathlaw02_beyond (st.ext.src hs1) hl1 hlen1 hok ⟨fun _ => fin st, fun _ => fun b w2 hb hw => ?_⟩
  have st2 := st.alloc hb hw
  refine beyond1 hb hw (by omega) ?_
  by_cases hbig : ((x0.len : Nat) : Int) > 1048576
  · rw [decide_eq_true hbig]; exact fin st2.drop1
  rw [decide_eq_false hbig]
  unfold F_towpathlaw02_CodecStops_k0
  refine ⟨fun hh => (by cases hh), fun _ => ?_⟩
  have st := st2.drop1
  refine sp_NewReader st (st.ext.src hs0) (by omega) fun r bs w3 o st => ?_
  -- from where the reader has gone wrong on
  have k2 : ∀ {s : RS} {bs : List Chunk} {w5 : World}, s.code ≠ 0 → s.rest.length ≤ 140737488351232 → RdO r s bs → St w (bs ++ []) w5 → F_towpathlaw02_CodecStops_k2 x1 (fun b w' => b = true ∧ RowKit.Below w.heap.size w w') r w5 := by
    intro s bs w5 hc hsl o st
    unfold F_towpathlaw02_CodecStops_k2
    refine sp_Reader_Left st o (sp_Reader_End st o ⟨fun hh => ?_, fun _ => ?_⟩)
    · rw [end_stop hc] at hh
      exact absurd (by simpa using hh) hc
    refine ⟨fun i w' => 0 ≤ i ∧ i ≤ x1.len ∧ ∃ bs, RdO r s bs ∧ St w (bs ++ []) w', fun i _ => x1.len - i.toNat, ⟨by omega, by omega, bs, o, st⟩, ?_⟩
    rintro i w8 ⟨h0, h1, bs, o, st⟩
    unfold F_towpathlaw02_CodecStops_L3
    refine ⟨fun hi => ?_, fun hi => ⟨rfl, st.below⟩⟩
    have hi := of_decide_eq_true hi
    have wi : IntKind.i64.wrap (i + 1) = i + 1 := wrap_next h0 hi (by omega)
    obtain ⟨a, x, hx, hcell⟩ := op_at (st.ext.src hs1) h0 hi
    have hxo := hok x (List.mem_of_getElem? hx)
    refine ⟨a, h0, hi, x, hcell, fun b1 w9 hb1 hw1 => ?_⟩
    have st9 := st.alloc hb1 hw1
    refine ⟨st9.writable 0 rfl (by simp), fun w10 hw10 => ?_⟩
    have st10 : St w ((b1, opV x) :: (bs ++ [])) w10 := st9.put0 hw10
    have st11 : St w (bs ++ [(b1, opV x)]) w10 := st10.mid
    -- behind an op
    have k4 : ∀ {bs : List Chunk} {w' : World} {z : Bool}, z = true → RdO r s bs → St w (bs ++ [(b1, opV x)]) w' →
        F_towpathlaw02_CodecStops_k4 (fun b w' => b = true ∧ RowKit.Below w.heap.size w w') r (s.rest.length : Int) s.end_ i (fun i' w' => (0 ≤ i' ∧ i' ≤ x1.len ∧ ∃ bs, RdO r s bs ∧ St w (bs ++ []) w') ∧ x1.len - i'.toNat < x1.len - i.toNat) z w' := by
      intro bs w' z hz o st
      subst hz
      unfold F_towpathlaw02_CodecStops_k4 F_towpathlaw02_CodecStops_k5
      refine ⟨fun hh => by simp at hh, fun _ => sp_Reader_Left st o ⟨fun hh => by simp at hh, fun _ => sp_Reader_End st o ⟨fun hh => by simp at hh, fun _ => ?_⟩⟩⟩
      rw [wi]
      exact ⟨⟨by omega, by omega, bs, o, st.unmid.drop1⟩, by omega⟩
    refine ⟨x.Kind, st10.cell 0 rfl rfl, fun _ => ⟨x.Width, st10.cell 0 rfl rfl, ?_⟩, fun _ => ⟨fun _ => ?_, fun _ => ⟨fun _ => ⟨x.Most, st10.cell 0 rfl rfl, ?_⟩, fun _ => ?_⟩⟩⟩
    · refine sp_Reader_Fixed st11 o fun bs w' o st => ?_
      rw [fixR_stop hc] at o ⊢
      exact k4 rfl o st
    · refine sp_Reader_Int st11 o fun bs w' o st => ?_
      rw [varR_stop hc] at o ⊢
      exact k4 (by show (za 0 == 0) = true; decide) o st
    · refine sp_Reader_Text st11 o hxo.2.2.2.2.1 hxo.2.2.2.2.2 hsl fun bs w' o st => ?_
      rw [textR_stop hc] at o ⊢
      exact k4 (by rw [show mkS (s, ([] : List UInt8)).snd = ByteArray.empty from rfl]; simp) o st
    · refine sp_Reader_Var st11 o fun bs w' o st => ?_
      rw [varR_stop hc] at o ⊢
      exact k4 rfl o st
  have k1 : ∀ {s : RS} {bs : List Chunk} {w5 : World}, (s.code ≠ 0 ∨ s.rest = []) → s.rest.length ≤ 140737488351232 → RdO r s bs → St w (bs ++ []) w5 → F_towpathlaw02_CodecStops_k1 x1 (fun b w' => b = true ∧ RowKit.Below w.heap.size w w') r w5 := by
    intro s bs w5 hc hsl o st
    unfold F_towpathlaw02_CodecStops_k1
    refine sp_Reader_Left st o ⟨fun hh => ?_, fun hh => ?_⟩
    · have hh : s.rest = [] := by simpa using hh
      refine sp_Reader_Fixed st o fun bs w' o st => ?_
      by_cases hc2 : s.code ≠ 0
      · rw [fixR_stop hc2] at o
        exact k2 hc2 hsl o st
      · unfold fixR at o
        rw [if_neg hc2, if_neg (by omega), if_pos (by rw [hh]; simp)] at o
        exact k2 (s := ⟨s.rest, 5⟩) (show (5 : Int) ≠ 0 by decide) hsl o st
    · have hh : s.rest ≠ [] := by simpa using hh
      exact k2 (hc.resolve_right hh) hsl o st
  refine ⟨fun w' => ∃ (ys : List UInt8) (bs : List Chunk), ys.length ≤ 140737488351232 ∧ RdO r ⟨ys, 0⟩ bs ∧ St w (bs ++ []) w', fun w' => lenAt r w', ⟨xs, bs, by omega, o, st⟩, ?_⟩
  rintro w4 ⟨ys, bs, hyl, o, st⟩
  have hμ := lenAt_eq st o
  unfold F_towpathlaw02_CodecStops_L6
  refine sp_Reader_Left st o ⟨fun hh => ?_, fun hh => ?_⟩
  · refine sp_Reader_Left st o (sp_Reader_Var st o fun bs w5 o st => ?_)
    have hv : (varR ⟨ys, 0⟩).1.code = 0 ∧ (varR ⟨ys, 0⟩).1.rest.length < ys.length ∨ (varR ⟨ys, 0⟩).1.code ≠ 0 ∧ (varR ⟨ys, 0⟩).1.rest = ys := by
      obtain ⟨_, hb2, hb3⟩ := shF_bd ys
      have hys : 0 < ys.length := by
        have := of_decide_eq_true hh
        simp only at this; omega
      unfold varR
      rw [if_neg (by simp)]
      split
      · rename_i he; exact .inr ⟨he, rfl⟩
      · rename_i he
        refine .inl ⟨rfl, ?_⟩
        simp only [List.length_drop] at he ⊢
        omega
    refine sp_Reader_Left st o ⟨fun he => ?_, fun he => ?_⟩
    · rcases hv with hv | hv
      · have : ((varR ⟨ys, 0⟩).1.rest.length : Int) = (ys.length : Int) := by simpa using he
        omega
      · exact k1 (.inl hv.1) (by rw [hv.2]; exact hyl) o st
    · rcases hv with hv | hv
      · generalize hg : (varR ⟨ys, 0⟩).1 = s2 at o hv
        obtain ⟨zs, c⟩ := s2
        simp only at hv
        obtain ⟨rfl, hv⟩ := hv
        refine ⟨⟨zs, bs, by omega, o, st⟩, ?_⟩
        show lenAt r _ < lenAt r _
        rw [hμ, lenAt_eq st o]; exact hv
      · rw [hv.2] at he; simp at he
  · have hh := of_decide_eq_false hh
    refine k1 (.inr (List.eq_nil_of_length_eq_zero ?_)) hyl o st
    simp only at hh ⊢; omega

end Go.Proofs.Ytckmganidgbpgaa
