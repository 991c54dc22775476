/- Chapter 04: laws of the disk. -/
import Derived.Test.YtckmganidgbpgaaUDisk
import Derived.Test.YtckmganidgbpgaaGtowpathlaw04
import Derived.Test.YtckmganidgbpgaaGDiskCuts
import Derived.Test.YtckmganidgbpgaaGDiskPlaces
namespace Go.Proofs.Ytckmganidgbpgaa
open Go
set_option linter.unusedVariables false

section
variable {w0 w : World} {fr bs : List Chunk} {d : Option Addr} {m m' : DM}
theorem sp_disk_WriteE {slot at_ r : Int} {b_ : Slc} {ys : List UInt8} {R : Int → World → Prop} (hm : writeF m slot at_ ys = (m', r)) (st : St w0 (bs ++ fr) w) (o : DkO d m bs) (hwr : m.writes < 4611686018427387904) (hs : ∀ l' w', St w0 (l' ++ fr) w' → SrcAt w' b_ 1 (ys.map bV))
    (k : ∀ bs' w', DkO d m' bs' → St w0 (bs' ++ fr) w' → R r w') : C_disk_Disk_Write d slot at_ b_ w R :=
  sp_disk_Write st o hwr hs (by rw [hm]; exact k)
/-- Write of a constant text. -/
theorem sp_disk_WriteC {slot at_ r : Int} {ys : List UInt8} {cells : List Value} {n b : Nat} {T : TypeId} {w1 : World} {R : Int → World → Prop} (hm : writeF m slot at_ ys = (m', r)) (hc : cells = ys.map bV) (hn : ys.length = n)
    (st : St w0 (bs ++ fr) w) (o : DkO d m bs) (hwr : m.writes < 4611686018427387904) (hb : b = w.heap.size) (hw : w1 = w.alloc (Obj.cells cells.toArray T (0, 0)))
    (k : ∀ bs' w', DkO d m' bs' → St w0 (bs' ++ fr) w' → R r w') : ∃ (T_ : TypeId) (k_ : Nat), w1.shape? b = some (T_, k_) ∧ ∀ w2, w2 = w1.freeze ⟨b, k_, none⟩ 1 → C_disk_Disk_Write d slot at_ ⟨some ⟨b, 0, none⟩, n, n⟩ w2 R := by
  subst hc
  have st1 := st.alloc hb hw
  obtain ⟨T', hT⟩ := st1.shape
  refine ⟨T', _, hT, fun w2 hw2 => ?_⟩
  have st2 := (st1.freeze hw2).mid
  refine sp_disk_WriteE hm st2 o hwr (fun l' w' st' => ?_) fun bs' w' o' st' => k bs' w' o' st'.unmid.drop1
  have st3 : St w0 ([(b, ys.map bV)] ++ fr) w' := st'.drop
  exact (RowC.new (n := n) (by rw [List.length_map, hn, Nat.mul_one])).src st3
end

theorem sp_towpathlaw04_alive {w0 w : World} {fr : List Chunk} {R : Bool → World → Prop} (st : St w0 fr w) (k : ∀ w', St w0 fr w' → R true w') : C_towpathlaw04_alive w R := by
  apply S_towpathlaw04_alive
  unfold F_towpathlaw04_alive
  refine sp_disk_New st (fun h => by omega) fun _ _ d bs w1 o st => sp_disk_New st (fun _ => ⟨fun h => (by simp at h), fun _ => fun b1 w2 hb1 hw2 => ?_⟩) (fun h => by omega)
  refine sp_disk_WriteC (m' := ⟨4, [97, 98], [], -1, false, 1⟩) (r := 0) (ys := [97, 98]) (by rfl) (by rfl) rfl st o (by decide) hb1 hw2 fun bs w3 o st => ⟨fun h => (by simp at h), fun _ => fun b2 w4 hb2 hw4 => ?_⟩
  refine sp_disk_WriteC (m' := ⟨4, [97, 120, 121, 122], [], -1, false, 2⟩) (r := 0) (ys := [120, 121, 122]) (by rfl) (by rfl) rfl st o (by decide) hb2 hw4 fun bs w5 o st => ⟨fun h => (by simp at h), fun _ => ?_⟩
  refine sp_disk_WriteE (m' := ⟨4, [97, 120, 121, 122], [], -1, false, 2⟩) (r := 6) (ys := []) (by rfl) st o (by decide) (fun l' w' st' => ⟨rfl, .inl rfl⟩) fun bs w6 o st => ⟨fun h => (by simp at h), fun _ => fun b3 w7 hb3 hw7 => ?_⟩
  refine sp_disk_WriteC (m' := ⟨4, [97, 120, 121, 122], [], -1, false, 2⟩) (r := 13) (ys := [122]) (by rfl) (by rfl) rfl st o (by decide) hb3 hw7 fun bs w8 o st => ?_
  unfold F_towpathlaw04_alive_k0
  refine ⟨fun h => (by simp at h), fun _ => sp_disk_Read st o (.inl rfl) fun s rb w9 ro st hl => ⟨fun _ => ⟨⟨#[97, 120, 121, 122]⟩, ro.src st, fun _ => ?_, fun h => (by rw [beq_self_eq_true] at h; cases h)⟩, fun h => (by simp at h)⟩⟩
  have st := st.drop
  refine sp_disk_Writes st o ⟨fun _ => ?_, fun h => (by simp at h)⟩
  refine sp_disk_Cut st o (by decide) (fun h => (by cases h)) fun _ bs w10 o st => ⟨fun _ => ?_, fun h => (by simp at h)⟩
  refine sp_disk_Clear st o (.inr rfl) (by show 2 < _; decide) fun bs w11 o st => ⟨fun _ => ?_, fun h => absurd (by rfl) (ne_true_of_eq_false h)⟩
  refine sp_disk_Dead st o ⟨fun _ => ?_, fun h => absurd (by rfl) (ne_true_of_eq_false h)⟩
  refine sp_disk_Mend st o fun bs w12 o st => ⟨fun _ => ?_, fun h => (by simp at h)⟩
  exact sp_disk_Dead st o (k _ st.drop)

/-! ### DiskCuts -/
def mAt (n : Nat) (xs : List UInt8) (i : Nat) : DM := ⟨65536, [], xs, ((n - i : Nat) : Int), decide (n < i), min i n⟩
theorem rawF_mAt (n : Nat) (xs : List UInt8) (i : Nat) : rawF (mAt n xs i) = (mAt n xs (i + 1), if i < n then 0 else 11) := by
  unfold rawF mAt
  by_cases h : i < n
  · rw [if_neg (by simp; omega), if_pos h]
    simp only [Prod.mk.injEq, DM.mk.injEq, true_and, and_true]
    refine ⟨?_, ?_, ?_⟩
    · rw [if_neg (by omega)]; omega
    · rw [decide_eq_false (by omega), decide_eq_false (by omega)]
    · omega
  · rw [if_pos (by simp; omega), if_neg h]
    simp only [Prod.mk.injEq, DM.mk.injEq, true_and, and_true]
    refine ⟨?_, ?_, ?_⟩
    · omega
    · rw [decide_eq_true (by omega)]
    · omega
theorem writeF_mAt {n i : Nat} {xs ys : List UInt8} (hy : ys.length ≤ 64) (hx : xs.length ≤ 60000) : writeF (mAt n xs i) 1 (xs.length : Int) ys = if i < n then (mAt n (xs ++ ys) (i + 1), 0) else (mAt n xs (i + 1), 11) := by
  unfold writeF
  rw [if_neg (by simp), if_neg (by omega), if_neg (by show ¬ ((xs.length : Int) > (xs.length : Int)); omega), if_neg (by show ¬ ((xs.length : Int) > 65536 - _); omega), rawF_mAt]
  by_cases h : i < n
  · rw [if_pos h, if_pos h]
    rw [if_neg (by simp)]
    have : overF ((mAt n xs i).get 1) ((xs.length : Int)).toNat ys = xs ++ ys := by
      show overF xs ((xs.length : Int)).toNat ys = _
      unfold overF
      rw [Int.toNat_natCast, List.take_length, List.drop_of_length_le (by omega), List.append_nil]
    rw [this]; rfl
  · rw [if_neg h, if_neg h, if_pos (by show (11 : Int) ≠ 0; decide)]

set_option maxHeartbeats 2000000 in
theorem law_DiskCuts (x0 : Int) (x1 : Slc) (w : World) (h0 : 0 ≤ x0 ∧ x0 ≤ 255) (h1 : OkSl w x1 1 24 (fun es => ∃ e_ : Slc, es = [Value.slice e_.ptr e_.len e_.cap] ∧ (OkSl w e_ 1 1 (fun es => ∃ e_ : Int, es = [Value.int .u8 e_] ∧ (0 ≤ e_ ∧ e_ ≤ 255))))) :
    C_towpathlaw04_DiskCuts x0 x1 w (fun b w' => b = true ∧ RowKit.Below w.heap.size w w') := by
  apply S_towpathlaw04_DiskCuts
  unfold F_towpathlaw04_DiskCuts
  obtain ⟨bl, hs, hl, hcap, hlen, hok⟩ := ok_list (f := fun b : Slc => [Value.slice b.ptr b.len b.cap]) h1 (fun es ⟨e, h, h'⟩ => ⟨e, h, h'⟩) (fun _ => rfl) (by decide)
  obtain ⟨n, rfl⟩ := toN h0.1
  have wn : IntKind.i64.wrap ((n : Nat) : Int) = (n : Int) := i64_in _ (by omega) (by omega)
  have st := St.start w
  refine sp_towpathlaw04_alive st fun w1 st => ⟨fun h => sp_towpathlaw04_alive st fun w2 st => ⟨rfl, st.below⟩, fun h => ?_⟩
  have h300 : x1.len ≤ 300 := by
    simp only [Bool.not_true, Bool.false_or, decide_eq_false_iff_not] at h
    omega
  refine sp_disk_New st (fun h => by omega) fun _ _ d bs w3 o st => ⟨fun h => (by simp at h), fun _ => ?_⟩
  refine sp_disk_Cut st o (by omega) (fun h => (by cases h)) fun _ bs w4 o st => ?_
  unfold F_towpathlaw04_DiskCuts_k0
  refine ⟨fun h => (by simp at h), fun _ => ?_⟩
  rw [wn] at o
  rw [if_neg (by omega : ¬ ((n : Int) < -1))] at o
  refine ⟨fun want asked i w' => 0 ≤ i ∧ i ≤ x1.len ∧ asked = i ∧ ∃ (xs : List UInt8) (bs rw_ : List Chunk), DkO d (mAt n xs i.toNat) bs ∧ RowC 1 want (xs.map bV) rw_ ∧ xs.length ≤ 64 * i.toNat ∧ St w (bs ++ (rw_ ++ [])) w',
    fun _ _ i _ => x1.len - i.toNat, ⟨by omega, by omega, rfl, [], bs, [], o, RowC.nil, by simp, st⟩, ?_⟩
  rintro want asked i w5 ⟨hi0, hi1, rfl, xs, bs, rw_, o, ro, hx, st⟩
  obtain ⟨i, rfl⟩ := toN hi0
  rw [Int.toNat_natCast] at *
  have hwr : (mAt n xs i).writes < 4611686018427387904 := by show min i n < _; omega
  have hwl := ro.len
  rw [List.length_map, Nat.mul_one] at hwl
  have wi : IntKind.i64.wrap ((i : Int) + 1) = ((i + 1 : Nat) : Int) := by rw [i64_in _ (by omega) (by omega)]; omega
  unfold F_towpathlaw04_DiskCuts_L1
  refine ⟨fun hi => ?_, fun hi => ?_⟩
  · have hi := of_decide_eq_true hi
    obtain ⟨a, x, hxi, hc⟩ := SrcAt.getN (st.ext.src hs) (fun _ => rfl) (by decide) hi0 hi
    rw [Nat.mul_one] at hc
    obtain ⟨yl, hys, hxl, hxc, hyl⟩ := ok_bytes (hok x (List.mem_of_getElem? hxi))
    have body : ∀ (b : Slc) (ys : List UInt8), b.len ≤ 64 → SrcAt w b 1 (ys.map bV) → F_towpathlaw04_DiskCuts_k2 (n : Int) (fun b w' => b = true ∧ RowKit.Below w.heap.size w w') d want (i : Int) (i : Int)
        (fun want' asked' i' w' => (0 ≤ i' ∧ i' ≤ x1.len ∧ asked' = i' ∧ ∃ (xs : List UInt8) (bs rw_ : List Chunk), DkO d (mAt n xs i'.toNat) bs ∧ RowC 1 want' (xs.map bV) rw_ ∧ xs.length ≤ 64 * i'.toNat ∧ St w (bs ++ (rw_ ++ [])) w') ∧ x1.len - i'.toNat < x1.len - i) b w5 := by
      intro b ys hb hsb
      have hyl := hsb.len_eq
      unfold F_towpathlaw04_DiskCuts_k2
      have k3 : ∀ (want' : Slc) (xs' : List UInt8) (bs rw' : List Chunk) (w8 : World), DkO d (mAt n xs' (i + 1)) bs → RowC 1 want' (xs'.map bV) rw' → xs'.length ≤ 64 * (i + 1) → St w (bs ++ (rw' ++ [])) w8 → F_towpathlaw04_DiskCuts_k3 (fun b w' => b = true ∧ RowKit.Below w.heap.size w w') d (i : Int) (i : Int)
          (fun want' asked' i' w' => (0 ≤ i' ∧ i' ≤ x1.len ∧ asked' = i' ∧ ∃ (xs : List UInt8) (bs rw_ : List Chunk), DkO d (mAt n xs i'.toNat) bs ∧ RowC 1 want' (xs.map bV) rw_ ∧ xs.length ≤ 64 * i'.toNat ∧ St w (bs ++ (rw_ ++ [])) w') ∧ x1.len - i'.toNat < x1.len - i) want' w8 := by
        intro want' xs' bs rw' w8 o ro hx' st
        unfold F_towpathlaw04_DiskCuts_k3
        refine sp_disk_Read st o (.inr rfl) fun got rb w9 rg st hgl => ⟨fun h => (by simp at h), fun _ => ?_⟩
        have hgl : got.len = xs'.length := hgl
        refine sp_SameBytes (ys := xs') (rg.src st) (ro.src (st.drop.drop)) (by omega) fun w10 e => ?_
        unfold F_towpathlaw04_DiskCuts_k4
        refine ⟨fun h => ?_, fun _ => ?_⟩
        · rw [decide_eq_true (by rfl)] at h; cases h
        · simp only [wi, Int.toNat_natCast]
          exact ⟨⟨by omega, by omega, trivial, xs', bs, rw', o, ro, hx', (st.keep e).drop⟩, (by omega)⟩
      have hW := writeF_mAt (n := n) (i := i) (xs := xs) (ys := ys) (by omega) (by omega)
      rw [hwl] at hW
      refine sp_disk_Write st o hwr (fun l' w' st' => st'.ext.src hsb) fun bs w7 o st => ?_
      rw [hW] at o ⊢
      rw [wn]
      by_cases hin : i < n
      · rw [if_pos hin] at o ⊢
        refine ⟨fun _ => ⟨fun h => (by simp at h), fun _ => sp_disk_Dead st o ?_⟩, fun h => absurd hin (by have := of_decide_eq_false h; omega)⟩
        have hd : (mAt n (xs ++ ys) (i + 1)).dead = false := decide_eq_false (by omega)
        simp only [hd]
        unfold F_towpathlaw04_DiskCuts_k5
        refine ⟨fun h => (by cases h), fun _ => ⟨_, st.ext.src hsb, ?_⟩⟩
        refine ro.append (l := bs ++ []) st.swap (by simp; omega) (by unfold oneCells; rw [List.all_map]; exact List.all_eq_true.2 fun _ _ => rfl) rfl (by omega) fun s' rw' w8 r st hl' => ?_
        rw [← List.map_append] at r
        exact k3 s' (xs ++ ys) bs rw' w8 o r (by simp; omega) st.swap
      · rw [if_neg hin] at o ⊢
        refine ⟨fun h => absurd (of_decide_eq_true h) (by omega), fun _ => ⟨fun h => (by simp at h), fun _ => sp_disk_Dead st o ?_⟩⟩
        have hd : (mAt n xs (i + 1)).dead = true := decide_eq_true (by omega)
        simp only [hd]
        unfold F_towpathlaw04_DiskCuts_k6
        exact ⟨fun h => (by simp at h), fun _ => k3 want xs bs rw_ w7 o ro (by omega) st⟩
    refine ⟨a, hi0, hi, x, hc.1, fun h => ?_, fun h => ?_⟩
    · have h := of_decide_eq_true h
      refine ⟨by omega, by omega, body _ (yl.take 64) (by simp) ?_⟩
      have := hys.pre (k := 64) (by omega)
      rw [← List.map_take] at this
      exact this
    · have h := of_decide_eq_false h
      exact body _ yl (by omega) hys
  · have hi := of_decide_eq_false hi
    have hmin : (if IntKind.i64.wrap (n : Int) < (i : Int) then IntKind.i64.wrap (n : Int) else (i : Int)) = ((min i n : Nat) : Int) := by rw [wn]; split <;> omega
    rw [hmin]
    refine sp_disk_Writes st o ⟨fun _ => ?_, fun h => absurd (by show (((min i n : Nat) : Int) == ((min i n : Nat) : Int)) = true; simp) (ne_true_of_eq_false h)⟩
    refine sp_disk_Mend st o fun bs w12 o st => ⟨fun _ => fun b2 w13 hb2 hw13 => ?_, fun h => (by simp at h)⟩
    refine sp_disk_WriteC (m' := ⟨65536, [120], xs, -1, false, min i n + 1⟩) (r := 0) (ys := [120]) ?_ (by rfl) rfl st o hwr hb2 hw13 fun bs w14 o st => ⟨fun _ => ?_, fun h => (by simp at h)⟩
    · unfold writeF
      rw [if_neg (by simp), if_neg (by simp), if_neg (by show ¬ ((0 : Int) > ((0 : Nat) : Int)); omega), if_neg (by show ¬ ((0 : Int) > 65536 - ((1 : Nat) : Int)); omega)]
      rfl
    · refine sp_disk_Writes st o ⟨?_, st.below⟩
      show (((min i n + 1 : Nat) : Int) == _) = true
      rw [i64_in _ (by omega) (by omega)]
      simp

/-! ### DiskPlaces -/
theorem over_get {xs ys : List UInt8} {p i : Nat} (hp : p ≤ xs.length) : (overF xs p ys)[i]? = if p ≤ i ∧ i < p + ys.length then ys[i - p]? else xs[i]? := by
  unfold overF
  by_cases h1 : i < p
  · rw [if_neg (by omega), List.append_assoc, List.getElem?_append_left (by rw [List.length_take]; omega), List.getElem?_take, if_pos h1]
  · by_cases h2 : i < p + ys.length
    · rw [if_pos (by omega), List.getElem?_append_left (by rw [List.length_append, List.length_take]; omega), List.getElem?_append_right (by rw [List.length_take]; omega), List.length_take, Nat.min_eq_left hp]
    · rw [if_neg (by omega), List.getElem?_append_right (by rw [List.length_append, List.length_take]; omega), List.getElem?_drop]
      congr 1
      rw [List.length_append, List.length_take]; omega
theorem bytes_cut {w : World} {s : Slc} {xs : List UInt8} (h : SrcAt w s 1 (xs.map bV)) (h64 : 64 ≤ s.len) : SrcAt w ⟨s.ptr, 64, s.cap⟩ 1 ((xs.take 64).map bV) := by
  have := h.pre (k := 64) h64
  rw [← List.map_take] at this
  exact this

set_option maxHeartbeats 2000000 in
theorem law_DiskPlaces (x0 : Slc) (x1 : Int) (x2 : Slc) (w : World) (h0 : OkSl w x0 1 1 (fun es => ∃ e_ : Int, es = [Value.int .u8 e_] ∧ (0 ≤ e_ ∧ e_ ≤ 255))) (h1 : 0 ≤ x1 ∧ x1 ≤ 255) (h2 : OkSl w x2 1 1 (fun es => ∃ e_ : Int, es = [Value.int .u8 e_] ∧ (0 ≤ e_ ∧ e_ ≤ 255))) :
    C_towpathlaw04_DiskPlaces x0 x1 x2 w (fun b w' => b = true ∧ RowKit.Below w.heap.size w w') := by
  apply S_towpathlaw04_DiskPlaces
  unfold F_towpathlaw04_DiskPlaces
  obtain ⟨fl, hfs, hfl, hfc, hfn⟩ := ok_bytes h0
  obtain ⟨yl, hys, hyl, hyc, hyn⟩ := ok_bytes h2
  obtain ⟨at_, rfl⟩ := toN h1.1
  have wa : IntKind.i64.wrap ((at_ : Nat) : Int) = (at_ : Int) := i64_in _ (by omega) (by omega)
  have st := St.start w
  have body : ∀ (f b : Slc) (fs ys : List UInt8) (w3 : World), f.len ≤ 64 → b.len ≤ 64 → SrcAt w f 1 (fs.map bV) → SrcAt w b 1 (ys.map bV) → St w [] w3 → F_towpathlaw04_DiskPlaces_k1 (at_ : Int) (fun b w' => b = true ∧ RowKit.Below w.heap.size w w') f b w3 := by
    intro f b fs ys w3 hf hb hsf hsb st
    have hfn := hsf.len_eq
    have hbn := hsb.len_eq
    unfold F_towpathlaw04_DiskPlaces_k1
    have hx : ∀ {l' : List Chunk} {w' : World}, St w (l' ++ []) w' → SrcAt w' f 1 (fs.map bV) := fun st => st.ext.src hsf
    have o0 : overF [] 0 fs = fs := by unfold overF; simp
    have hA : writeF ⟨100, [], [], -1, false, 0⟩ 0 0 fs = (⟨100, fs, [], -1, false, 1⟩, 0) := by
      unfold writeF
      rw [if_neg (by simp), if_neg (by omega), if_neg (by show ¬ ((0 : Int) > ((0 : Nat) : Int)); omega), if_neg (by show ¬ ((0 : Int) > 100 - ((fs.length : Nat) : Int)); omega), if_neg (by decide)]
      show (DM.put _ 0 (overF [] 0 fs), _) = _
      rw [o0]; rfl
    have hB : writeF ⟨100, fs, [], -1, false, 1⟩ 1 0 fs = (⟨100, fs, fs, -1, false, 2⟩, 0) := by
      unfold writeF
      rw [if_neg (by simp), if_neg (by omega), if_neg (by show ¬ ((0 : Int) > ((0 : Nat) : Int)); omega), if_neg (by show ¬ ((0 : Int) > 100 - ((fs.length : Nat) : Int)); omega), if_neg (by show ¬ ((0 : Int) ≠ 0); simp)]
      show (DM.put _ 1 (overF [] 0 fs), _) = _
      rw [o0]; rfl
    refine sp_disk_New st (fun h => by omega) fun _ _ d bs w4 o st => ⟨fun h => (by simp at h), fun _ => ?_⟩
    refine sp_disk_WriteE hA st o (by show 0 < _; decide) (fun _ _ st => hx st) fun bs w5 o st => ⟨fun h => (by simp at h), fun _ => ?_⟩
    refine sp_disk_WriteE hB st o (by show 1 < _; decide) (fun _ _ st => hx st) fun bs w6 o st => ?_
    unfold F_towpathlaw04_DiskPlaces_k2
    have w1 : IntKind.i64.wrap (((f.len : Nat) : Int) + 1) = ((f.len + 1 : Nat) : Int) := by rw [i64_in _ (by omega) (by omega)]; omega
    generalize hp : at_ % (f.len + 1) = p
    have hpl : p ≤ f.len := by
      have := Nat.mod_lt at_ (show 0 < f.len + 1 by omega); omega
    have wp : Int.tmod ((at_ : Nat) : Int) ((f.len + 1 : Nat) : Int) = (p : Int) := by rw [← hp]; rfl
    have wpl : IntKind.i64.wrap ((p : Int) + ((b.len : Nat) : Int)) = ((p + b.len : Nat) : Int) := by rw [i64_in _ (by omega) (by omega)]; omega
    simp only [wa, w1, wp]
    refine ⟨fun h => (by simp at h), fun _ => ⟨by omega, ?_⟩⟩
    have hC : writeF ⟨100, fs, fs, -1, false, 2⟩ 0 (p : Int) ys = if p + b.len > 100 then (⟨100, fs, fs, -1, false, 2⟩, 13) else (⟨100, overF fs p ys, fs, -1, false, 3⟩, 0) := by
      unfold writeF
      rw [if_neg (by simp), if_neg (by omega), if_neg (by show ¬ ((p : Int) > ((fs.length : Nat) : Int)); omega)]
      by_cases hq : p + b.len > 100
      · rw [if_pos hq, if_pos (by show (p : Int) > 100 - ((ys.length : Nat) : Int); omega)]
      · rw [if_neg hq, if_neg (by show ¬ ((p : Int) > 100 - ((ys.length : Nat) : Int)); omega), if_neg (by show ¬ ((0 : Int) ≠ 0); simp)]
        rw [Int.toNat_natCast]; rfl
    refine sp_disk_Write st o (by show 2 < _; decide) (fun _ _ st => st.ext.src hsb) fun bs w7 o st => ?_
    rw [hC] at o ⊢
    refine sp_disk_Read st o (.inl rfl) fun got rb w8 rg st hg => sp_disk_Read st.swap o (.inr rfl) fun oth rb2 w9 rg2 st hg2 => ⟨fun h => (by simp at h), fun _ => ?_⟩
    have e2 : (if p + b.len > 100 then ((⟨100, fs, fs, -1, false, 2⟩, 13) : DM × Int) else (⟨100, overF fs p ys, fs, -1, false, 3⟩, 0)).1.get 1 = fs := by split <;> rfl
    rw [e2] at rg2 hg2
    refine sp_SameBytes (ys := fs) (rg2.src st) (st.ext.src hsf) (by omega) fun w10 e => ?_
    have st := (st.keep e).drop
    unfold F_towpathlaw04_DiskPlaces_k3
    simp only [wa, w1, wp, wpl]
    refine ⟨fun h => (by simp at h), fun _ => ⟨fun h => ?_, fun h => ?_⟩⟩
    · have h : p + b.len > 100 := by have := of_decide_eq_true h; omega
      rw [if_pos h] at rg hg o ⊢
      refine ⟨fun _ => ?_, fun h => (by simp at h)⟩
      exact sp_SameBytes (xs := fs) (rg.src st.swap) (st.ext.src hsf) (by have : got.len = fs.length := hg; omega) fun w11 e => ⟨by simp, (st.keep e).below⟩
    · have h : ¬ p + b.len > 100 := by have := of_decide_eq_false h; omega
      rw [if_neg h] at rg hg o ⊢
      have rg : RowC 1 got ((overF fs p ys).map bV) rb := rg
      have hol : (overF fs p ys).length = max fs.length (p + ys.length) := overF_len (by omega)
      have hg : got.len = (overF fs p ys).length := hg
      have hmx : (if ((p + b.len : Nat) : Int) > ((f.len : Nat) : Int) then ((p + b.len : Nat) : Int) else ((f.len : Nat) : Int)) = ((got.len : Nat) : Int) := by split <;> omega
      rw [hmx]
      refine ⟨fun h => (by simp at h), fun _ => sp_disk_Writes st o ?_⟩
      unfold F_towpathlaw04_DiskPlaces_k4
      refine ⟨fun h => (by revert h; show ((((3 : Nat) : Int)) != 3) = true → _; intro h; simp at h), fun _ => ?_⟩
      refine ⟨fun i w' => 0 ≤ i ∧ i ≤ got.len ∧ St w (bs ++ (rb ++ [])) w', fun i _ => got.len - i.toNat, ⟨by omega, by omega, st⟩, ?_⟩
      rintro i w11 ⟨hi0, hi1, st⟩
      unfold F_towpathlaw04_DiskPlaces_L5
      simp only [wa, w1, wp, wpl]
      refine ⟨fun hi => ?_, fun hi => ⟨trivial, st.below⟩⟩
      have hi := of_decide_eq_true hi
      have wi : IntKind.i64.wrap (i + 1) = i + 1 := wrap_next hi0 hi (by omega)
      obtain ⟨a, v, hv, hc⟩ := SrcAt.get (f := bV) (rg.src st.swap) hi0 hi
      obtain ⟨i, rfl⟩ := toN hi0
      rw [Int.toNat_natCast] at hv
      rw [over_get (by omega)] at hv
      have wk : IntKind.i64.wrap ((i : Int) - (p : Int)) = (i : Int) - (p : Int) := i64_in _ (by omega) (by omega)
      have fin : F_towpathlaw04_DiskPlaces_k6 (fun b w' => b = true ∧ RowKit.Below w.heap.size w w') got (i : Int) (fun i' w' => (0 ≤ i' ∧ i' ≤ got.len ∧ St w (bs ++ (rb ++ [])) w') ∧ got.len - i'.toNat < got.len - ((i : Nat) : Int).toNat) ((v.toNat : Nat) : Int) w11 := by
        unfold F_towpathlaw04_DiskPlaces_k6
        refine ⟨a, by omega, hi, _, hc, fun h => (by simp at h), fun _ => ?_⟩
        rw [wi]
        exact ⟨⟨by omega, by omega, st⟩, by omega⟩
      refine ⟨fun hq => ?_, fun hq => ?_⟩
      · simp only [Bool.and_eq_true, decide_eq_true_eq] at hq
        rw [if_pos (by omega)] at hv
        rw [wk]
        obtain ⟨a2, v2, hv2, hc2⟩ := SrcAt.get (f := bV) (i := (i : Int) - (p : Int)) (st.ext.src hsb) (by omega) (by omega)
        rw [show ((i : Int) - (p : Int)).toNat = i - p from by omega] at hv2 hc2
        obtain rfl : v = v2 := by rw [hv] at hv2; exact Option.some.inj hv2
        rw [show ((i : Int) - (p : Int)).toNat = i - p from by omega]
        exact ⟨a2, by omega, by omega, _, hc2, fin⟩
      · simp only [Bool.and_eq_false_iff, decide_eq_false_iff_not] at hq
        rw [if_neg (by omega)] at hv
        obtain ⟨a2, v2, hv2, hc2⟩ := SrcAt.get (f := bV) (i := (i : Int)) (st.ext.src hsf) (by omega) (by omega)
        rw [Int.toNat_natCast] at hv2
        obtain rfl : v = v2 := by rw [hv] at hv2; exact Option.some.inj hv2
        exact ⟨a2, by omega, by omega, _, hc2, fin⟩
  refine sp_towpathlaw04_alive st fun w1 st => ⟨fun h => (by simp at h), fun _ => ?_⟩
  have k0 : ∀ (f : Slc) (fs : List UInt8), f.len ≤ 64 → SrcAt w f 1 (fs.map bV) → F_towpathlaw04_DiskPlaces_k0 (at_ : Int) x2 (fun b w' => b = true ∧ RowKit.Below w.heap.size w w') f w1 := by
    intro f fs hf hsf
    unfold F_towpathlaw04_DiskPlaces_k0
    refine ⟨fun h => ?_, fun h => ?_⟩
    · have h := of_decide_eq_true h
      exact ⟨by omega, by omega, body f _ fs (yl.take 64) w1 hf (by simp) hsf (bytes_cut hys (by omega)) st⟩
    · have h := of_decide_eq_false h
      exact body f _ fs yl w1 hf (by omega) hsf hys st
  refine ⟨fun h => ?_, fun h => ?_⟩
  · have h := of_decide_eq_true h
    exact ⟨by omega, by omega, k0 _ (fl.take 64) (by simp) (bytes_cut hfs (by omega))⟩
  · have h := of_decide_eq_false h
    exact k0 _ fl (by omega) hfs

end Go.Proofs.Ytckmganidgbpgaa
