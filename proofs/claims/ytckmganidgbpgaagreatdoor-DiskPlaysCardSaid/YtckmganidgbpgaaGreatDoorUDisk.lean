/- Chapter 04: what a disk's methods do. -/
import Derived.Test.YtckmganidgbpgaaGreatDoorUCodecK
import Derived.Test.YtckmganidgbpgaaGreatDoorGdisk
namespace Go.Proofs.YtckmganidgbpgaaGreatDoor
open Go
set_option linter.unusedVariables false

structure DM where
  cap : Int
  s0 : List UInt8
  s1 : List UInt8
  can : Int
  dead : Bool
  writes : Nat
def DM.get (m : DM) (slot : Int) : List UInt8 := if slot = 0 then m.s0 else m.s1
def DM.put (m : DM) (slot : Int) (xs : List UInt8) : DM := if slot = 0 then { m with s0 := xs } else { m with s1 := xs }
def dcells (m : DM) (a b : Slc) : List Value := [Value.bool true, iV m.cap, Value.slice a.ptr a.len a.cap, Value.slice b.ptr b.len b.cap, iV m.can, Value.bool m.dead, iV (m.writes : Int)]
def DkO (d : Option Addr) (m : DM) (bs : List Chunk) : Prop :=
  ∃ (b : Nat) (a c : Slc) (ra rc : List Chunk), d = some ⟨b, 0, none⟩ ∧ RowC 1 a (m.s0.map bV) ra ∧ RowC 1 c (m.s1.map bV) rc ∧ bs = (b, dcells m a c) :: (ra ++ rc) ∧
    0 ≤ m.cap ∧ m.cap ≤ 16777216 ∧ -1 ≤ m.can ∧ m.can ≤ 9223372036854775807 ∧ m.writes ≤ 4611686018427387904 ∧ m.s0.length ≤ 16777216 ∧ m.s1.length ≤ 16777216

section
variable {w0 w : World} {fr bs : List Chunk} {d : Option Addr} {m : DM}
theorem sp_disk_New {c : Int} {R : Option Addr → Int → World → Prop} (st : St w0 fr w) (k0 : c < 0 ∨ c > 16777216 → R none 1 w)
    (k1 : 0 ≤ c → c ≤ 16777216 → ∀ d bs w', DkO d ⟨c, [], [], -1, false, 0⟩ bs → St w0 (bs ++ fr) w' → R d 0 w') : C_disk_New c w R := by
  apply S_disk_New
  refine ⟨fun h => k0 (by simpa using h), fun h => fun b w1 hb hw => ?_⟩
  simp only [Bool.or_eq_false_iff, decide_eq_false_iff_not] at h
  exact k1 (by omega) (by omega) _ _ _ ⟨b, ⟨none, 0, 0⟩, ⟨none, 0, 0⟩, [], [], rfl, RowC.nil, RowC.nil, rfl, by simp only; omega, by simp only; omega, by show (-1:Int) ≤ -1; decide, by show (-1:Int) ≤ _; decide, by simp, by simp, by simp⟩ (st.alloc hb hw)

theorem sp_disk_look {slot : Int} {R : Int → World → Prop} (st : St w0 (bs ++ fr) w) (o : DkO d m bs) (k : R (if slot = 0 ∨ slot = 1 then 0 else 1) w) : C_disk_Disk_look d slot w R := by
  apply S_disk_Disk_look
  unfold F_disk_Disk_look
  obtain ⟨b, a, c, ra, rc, rfl, r1, r2, rfl, _⟩ := o
  refine ⟨fun h => (by cases h), fun _ => ⟨rfl, true, st.cell 0 rfl rfl, ?_⟩⟩
  unfold F_disk_Disk_look_k0
  refine ⟨fun h => (by cases h), fun _ => ⟨fun h => ?_, fun h => ?_⟩⟩
  · simp only [Bool.and_eq_true, bne_iff_ne, ne_eq] at h
    rw [if_neg (by omega)] at k; exact k
  · simp only [Bool.and_eq_false_iff, bne_eq_false_iff_eq] at h
    rw [if_pos h] at k; exact k

def rawF (m : DM) : DM × Int := if m.dead = true ∨ m.can = 0 then ({ m with dead := true }, 11) else ({ m with can := if m.can ≤ 0 then -1 else m.can - 1, writes := m.writes + 1 }, 0)
theorem sp_disk_raw {R : Int → World → Prop} (st : St w0 (bs ++ fr) w) (o : DkO d m bs) (hwr : m.writes < 4611686018427387904) (k : ∀ bs' w', DkO d (rawF m).1 bs' → St w0 (bs' ++ fr) w' → R (rawF m).2 w') : C_disk_Disk_raw d w R := by
  apply S_disk_Disk_raw
  unfold F_disk_Disk_raw
  obtain ⟨b, a, c, ra, rc, rfl, r1, r2, rfl, h1, h2, h3, h4, h5, h6, h7⟩ := o
  have bad : (m.dead = true ∨ m.can = 0) → F_disk_Disk_raw_k0 (some ⟨b, 0, none⟩) R true w := fun hb => by
    unfold F_disk_Disk_raw_k0
    unfold rawF at k
    rw [if_pos hb] at k
    exact ⟨fun _ => ⟨rfl, st.writable 0 rfl (by simp [dcells, poff]), fun w2 hw2 => k _ _ ⟨b, a, c, ra, rc, rfl, r1, r2, rfl, h1, h2, h3, h4, h5, h6, h7⟩ (st.put0 (o := 5) hw2)⟩, fun h => (by cases h)⟩
  refine ⟨rfl, m.dead, st.cell 0 rfl rfl, fun h => bad (.inl h), fun h => ⟨rfl, m.can, st.cell 0 rfl rfl, ?_⟩⟩
  by_cases hc : m.can = 0
  · rw [show (m.can == 0) = true from by simpa using hc]
    exact bad (.inr hc)
  rw [show (m.can == 0) = false from by simpa using hc]
  unfold F_disk_Disk_raw_k0
  unfold rawF at k
  rw [if_neg (by rw [h]; simp [hc])] at k
  refine ⟨fun h => (by cases h), fun _ => ⟨rfl, m.can, st.cell 0 rfl rfl, rfl, st.writable 0 rfl (by simp [dcells, poff]), fun w3 hw3 => ?_⟩⟩
  have e1 : (if (-1 : Int) > IntKind.i64.wrap (m.can - 1) then (-1 : Int) else IntKind.i64.wrap (m.can - 1)) = if m.can ≤ 0 then -1 else m.can - 1 := by
    rw [i64_in _ (by omega) (by omega)]; split <;> split <;> omega
  rw [e1] at hw3
  have st3 := st.put0 (o := 4) hw3
  refine ⟨rfl, (m.writes : Int), st3.cell 0 rfl rfl, st3.writable 0 rfl (by simp [dcells, poff, putL]), fun w4 hw4 => ?_⟩
  have e2 : IntKind.i64.wrap ((m.writes : Int) + 1) = ((m.writes + 1 : Nat) : Int) := by rw [i64_in _ (by omega) (by omega)]; omega
  rw [e2] at hw4
  refine k _ _ ⟨b, a, c, ra, rc, rfl, r1, r2, rfl, h1, h2, ?_, ?_, by simp only; omega, h6, h7⟩ (st3.put0 (o := 6) hw4)
  · simp only; split <;> omega
  · simp only; split <;> omega

/-- The disk, looked at through one slot. -/
theorem DkO.focus {slot : Int} (hs : slot = 0 ∨ slot = 1) (o : DkO d m bs) (st : St w0 (bs ++ fr) w) : ∃ (b : Nat) (t : Slc) (rt rest : List Chunk) (cs : List Value), d = some ⟨b, 0, none⟩ ∧ RowC 1 t ((m.get slot).map bV) rt ∧
    cs[2 + slot.toNat]? = some (Value.slice t.ptr t.len t.cap) ∧ cs[1]? = some (iV m.cap) ∧ cs.length = 7 ∧ St w0 ((b, cs) :: (rt ++ (rest ++ fr))) w ∧ (m.get slot).length ≤ 16777216 ∧ 0 ≤ m.cap ∧ m.cap ≤ 16777216 ∧
    ∀ (t' : Slc) (rt' : List Chunk) (ys : List UInt8) (w' : World), RowC 1 t' (ys.map bV) rt' → ys.length ≤ 16777216 → St w0 ((b, putL (2 + slot.toNat) [Value.slice t'.ptr t'.len t'.cap] cs) :: (rt' ++ (rest ++ fr))) w' →
      ∃ bs', DkO d (m.put slot ys) bs' ∧ St w0 (bs' ++ fr) w' := by
  obtain ⟨b, a, c, ra, rc, rfl, r1, r2, rfl, h1, h2, h3, h4, h5, h6, h7⟩ := o
  rcases hs with rfl | rfl
  · refine ⟨b, a, ra, rc, dcells m a c, rfl, r1, rfl, rfl, rfl, by rw [← List.append_assoc]; exact st, h6, h1, h2, fun t' rt' ys w' r hy st' => ⟨_, ⟨b, t', c, rt', rc, rfl, r, r2, rfl, h1, h2, h3, h4, h5, hy, h7⟩, ?_⟩⟩
    rw [← List.append_assoc] at st'
    exact st'
  · have st1 : St w0 ((b, dcells m a c) :: (rc ++ (ra ++ fr))) w := st.perm (List.Perm.cons _ (by show ((ra ++ rc) ++ fr).Perm _; rw [List.append_assoc]; exact List.perm_append_comm_assoc ra rc fr))
    refine ⟨b, c, rc, ra, dcells m a c, rfl, r2, rfl, rfl, rfl, st1, h7, h1, h2, fun t' rt' ys w' r hy st' => ⟨_, ⟨b, a, t', ra, rt', rfl, r1, r, rfl, h1, h2, h3, h4, h5, h6, hy⟩, ?_⟩⟩
    have st2 : St w0 ((b, dcells m a t') :: (rt' ++ (ra ++ fr))) w' := st'
    exact st2.perm (List.Perm.cons _ (by show List.Perm _ ((ra ++ rt') ++ fr); rw [List.append_assoc]; exact (List.perm_append_comm_assoc ra rt' fr).symm))

/-- The bytes of a slot behind a write at a place. -/
def overF (xs : List UInt8) (at_ : Nat) (ys : List UInt8) : List UInt8 := xs.take at_ ++ ys ++ xs.drop (at_ + ys.length)
theorem overF_len {xs ys : List UInt8} {a : Nat} (h : a ≤ xs.length) : (overF xs a ys).length = max xs.length (a + ys.length) := by
  unfold overF
  simp only [List.length_append, List.length_take, List.length_drop]; omega
def writeF (m : DM) (slot at_ : Int) (ys : List UInt8) : DM × Int :=
  if ¬ (slot = 0 ∨ slot = 1) then (m, 1) else if at_ < 0 ∨ ys.length > 64 then (m, 1) else if at_ > ((m.get slot).length : Int) then (m, 6) else if at_ > m.cap - ys.length then (m, 13)
  else if (rawF m).2 ≠ 0 then rawF m else ((rawF m).1.put slot (overF (m.get slot) at_.toNat ys), 0)

theorem rawF_get (m : DM) (slot : Int) : (rawF m).1.get slot = m.get slot := by
  unfold rawF
  by_cases h : m.dead = true ∨ m.can = 0
  · rw [if_pos h]; rfl
  · rw [if_neg h]; rfl

theorem zeros_eq (k : Nat) : (repCells k [Value.int .u8 0]).toList = (List.replicate k (0 : UInt8)).map bV := by
  show (List.replicate k [Value.int .u8 0]).flatten = _
  induction k with
  | zero => rfl
  | succ n ih => rw [List.replicate_succ, List.flatten_cons, ih, List.replicate_succ]; rfl

theorem sp_disk_Write {slot at_ : Int} {b_ : Slc} {ys : List UInt8} {R : Int → World → Prop} (st : St w0 (bs ++ fr) w) (o : DkO d m bs) (hwr : m.writes < 4611686018427387904) (hs : ∀ l' w', St w0 (l' ++ fr) w' → SrcAt w' b_ 1 (ys.map bV))
    (k : ∀ bs' w', DkO d (writeF m slot at_ ys).1 bs' → St w0 (bs' ++ fr) w' → R (writeF m slot at_ ys).2 w') : C_disk_Disk_Write d slot at_ b_ w R := by
  apply S_disk_Disk_Write
  unfold F_disk_Disk_Write
  have hyl := (hs _ _ st).len_eq
  unfold writeF at k
  refine sp_disk_look st o ⟨fun h => ?_, fun h => ?_⟩
  · have hn : ¬ (slot = 0 ∨ slot = 1) := fun hh => by rw [if_pos hh] at h; simp at h
    rw [if_pos hn] at k
    rw [if_neg hn]
    exact k _ _ o st
  have hsl : slot = 0 ∨ slot = 1 := by
    by_cases hh : slot = 0 ∨ slot = 1
    · exact hh
    · rw [if_neg hh] at h; simp at h
  rw [if_neg (fun hh => hh hsl)] at k
  refine ⟨fun h => ?_, fun h => ?_⟩
  · simp only [Bool.or_eq_true, decide_eq_true_eq] at h
    rw [if_pos (by omega)] at k; exact k _ _ o st
  simp only [Bool.or_eq_false_iff, decide_eq_false_iff_not] at h
  rw [if_neg (by omega)] at k
  obtain ⟨b, t, rt, rest, cs, hd, rr, c1, c2, c3, st1, hg, hc0, hc1, back⟩ := o.focus hsl st
  have hrl := rr.len
  rw [List.length_map, Nat.mul_one] at hrl
  have hso : slot < 2 := by omega
  subst hd
  refine ⟨rfl, by omega, hso, t, st1.cell 0 rfl (by show cs[0 + 2 + slot.toNat]? = _; rw [Nat.zero_add]; exact c1), fun h2 => ?_, fun h2 => ?_⟩
  · have h2 := of_decide_eq_true h2
    rw [if_pos (by omega)] at k; exact k _ _ o st
  have h2 := of_decide_eq_false h2
  rw [if_neg (by omega)] at k
  refine ⟨rfl, m.cap, st1.cell 0 rfl (by show cs[0 + 1]? = _; exact c2), fun h3 => ?_, fun h3 => ?_⟩
  · rw [i64_in _ (by omega) (by omega)] at h3
    have h3 := of_decide_eq_true h3
    rw [if_pos (by omega)] at k; exact k _ _ o st
  rw [i64_in _ (by omega) (by omega)] at h3
  have h3 := of_decide_eq_false h3
  rw [if_neg (by omega)] at k
  refine sp_disk_raw st o hwr fun bs2 w2 o2 st2 => ⟨fun h4 => ?_, fun h4 => ?_⟩
  · have h4 : (rawF m).2 ≠ 0 := by simpa using h4
    rw [if_pos h4] at k; exact k _ _ o2 st2
  have h4 : (rawF m).2 = 0 := by simpa using h4
  rw [if_neg (by omega)] at k
  obtain ⟨at_, rfl⟩ := toN (show 0 ≤ at_ by omega)
  rw [Int.toNat_natCast] at k
  have hle0 : at_ ≤ (m.get slot).length := by omega
  clear st1 c1 c2 c3 back rr hrl
  obtain ⟨b', t, rt, rest, cs, hd, rr, c1, c2, c3, st1, hg', hc0', hc1', back⟩ := o2.focus hsl st2
  obtain rfl : b = b' := by simpa using hd
  rw [rawF_get] at rr hg'
  have hrl := rr.len
  rw [List.length_map, Nat.mul_one] at hrl
  have cell : ∀ {x : Slc} {cs : List Value} {l : List Chunk} {w' : World}, cs[2 + slot.toNat]? = some (Value.slice x.ptr x.len x.cap) → St w0 ((b, cs) :: l) w' → w'.cell? ⟨pblk (some ⟨b, 0, none⟩), poff (some ⟨b, 0, none⟩) + 2 + slot.toNat, none⟩ = some (Value.slice x.ptr x.len x.cap) := fun hc st =>
    st.cell 0 rfl (by show _[0 + 2 + slot.toNat]? = _; rw [Nat.zero_add]; exact hc)
  have wend : IntKind.i64.wrap ((at_ : Int) + ((b_.len : Nat) : Int)) = ((at_ + b_.len : Nat) : Int) := by rw [i64_in _ (by omega) (by omega)]; omega
  -- the copy
  have copy : ∀ {x : Slc} {rx : List Chunk} {cs : List Value} {xs : List UInt8} {w3 : World}, RowC 1 x (xs.map bV) rx → cs[2 + slot.toNat]? = some (Value.slice x.ptr x.len x.cap) → at_ + b_.len ≤ xs.length → at_ ≤ (m.get slot).length →
      overF xs at_ ys = overF (m.get slot) at_ ys → (∀ (t' : Slc) (rt' : List Chunk) (zs : List UInt8) (w' : World), RowC 1 t' (zs.map bV) rt' → zs.length ≤ 16777216 → t' = x → St w0 ((b, cs) :: (rt' ++ (rest ++ fr))) w' → ∃ bs', DkO (some ⟨b, 0, none⟩) ((rawF m).1.put slot zs) bs' ∧ St w0 (bs' ++ fr) w') →
      St w0 ((b, cs) :: (rx ++ (rest ++ fr))) w3 → F_disk_Disk_Write_k0 (some ⟨b, 0, none⟩) slot (at_ : Int) b_ R w3 := by
    intro x rx cs xs w3 rx1 hc hfit hle heq bk st3
    have hxl := rx1.len
    rw [List.length_map, Nat.mul_one] at hxl
    have hxc := rx1.cap_le
    unfold F_disk_Disk_Write_k0
    refine ⟨rfl, by omega, hso, x, cell hc st3, ⟨by omega, by omega, by omega, by omega⟩, ?_⟩
    rintro s rfl
    have hsr : SrcAt w3 b_ 1 (ys.map bV) := hs ((b, cs) :: (rx ++ rest)) w3 (by simpa using st3)
    have hmin : min b_.len (Slc.cut 1 x (at_ : Int) ((x.len : Nat) : Int) ((x.cap : Nat) : Int)).len = b_.len := by
      show min b_.len (((x.len : Nat) : Int).toNat - ((at_ : Nat) : Int).toNat) = _
      simp only [Int.toNat_natCast]; omega
    rw [hmin]
    refine ⟨_, hsr, ?_⟩
    refine rx1.over (l := (b, cs) :: (rest ++ fr)) st3.mid (by simp; omega) (by unfold oneCells; rw [List.all_map]; exact List.all_eq_true.2 fun _ _ => rfl) fun rt' w4 r4 st4 => ?_
    have e : (xs.map bV).take at_ ++ ys.map bV ++ (xs.map bV).drop (at_ + (ys.map bV).length) = (overF xs at_ ys).map bV := by
      unfold overF
      rw [List.map_append, List.map_append, List.map_take, List.map_drop, List.length_map]
    rw [e, heq] at r4
    obtain ⟨bs', o', st'⟩ := bk x rt' _ w4 r4 (by rw [overF_len hle]; omega) rfl st4.unmid
    exact k bs' w4 o' st'
  refine ⟨rfl, by omega, hso, t, cell c1 st1, fun h5 => fun w5 e5 => ?_, fun h5 => ?_⟩
  · rw [wend] at h5
    have h5 := of_decide_eq_true h5
    have st5 := st1.drew e5
    have wk : IntKind.i64.wrap (((at_ + b_.len : Nat) : Int) - ((t.len : Nat) : Int)) = ((at_ + b_.len - t.len : Nat) : Int) := by rw [i64_in _ (by omega) (by omega)]; omega
    refine ⟨rfl, by omega, hso, t, cell c1 st5, rfl, by omega, hso, t, cell c1 st5, rfl, ?_⟩
    simp only [wend, wk, Int.toNat_natCast]
    refine ⟨by omega, by omega, ?_⟩
    refine rr.append (l := (b, cs) :: (rest ++ fr)) st5.mid (by rw [zeros_eq]; simp) (by rw [zeros_eq]; unfold oneCells; rw [List.all_map]; exact List.all_eq_true.2 fun _ _ => rfl) rfl (by omega) fun s' rt' w6 r6 st6 hl6 => ?_
    have st6 := st6.unmid
    refine ⟨by omega, hso, st6.writable 0 rfl (by show 0 + 2 + slot.toNat + 1 ≤ _; rw [c3]; omega), fun w7 hw7 => ?_⟩
    have e0 : poff (some ⟨b, 0, none⟩ : Option Addr) + 2 + slot.toNat = 2 + slot.toNat := by show 0 + 2 + _ = _; omega
    rw [e0] at hw7
    have st7 := st6.put0 hw7
    rw [zeros_eq, ← List.map_append] at r6
    refine copy r6 ?_ (by rw [List.length_append, List.length_replicate]; omega) (by omega) ?_ (fun t' rt2 zs w' r hz ht st => ?_) st7
    · rw [putL_one, List.getElem?_set_self (by rw [c3]; omega)]
    · unfold overF
      rw [List.take_append_of_le_length (by omega), List.drop_append, List.drop_of_length_le (by omega : (m.get slot).length ≤ at_ + ys.length), List.drop_of_length_le (by rw [List.length_replicate]; omega), List.append_nil]
    · subst ht
      exact back t' rt2 zs w' r hz st
  · rw [wend] at h5
    have h5 := of_decide_eq_false h5
    refine copy rr c1 (by omega) (by omega) rfl (fun t' rt2 zs w' r hz ht st => ?_) st1
    subst ht
    refine back t' rt2 zs w' r hz ?_
    have : putL (2 + slot.toNat) [Value.slice t'.ptr t'.len t'.cap] cs = cs := by
      rw [putL_one]
      refine List.ext_getElem? fun j => ?_
      by_cases hj : 2 + slot.toNat = j
      · subst hj; rw [List.getElem?_set_self (by rw [c3]; omega), c1]
      · rw [List.getElem?_set_ne hj]
    rw [this]; exact st

theorem sp_disk_Read {slot : Int} {R : Slc → Int → World → Prop} (st : St w0 (bs ++ fr) w) (o : DkO d m bs) (hsl : slot = 0 ∨ slot = 1)
    (k : ∀ s rb w', RowC 1 s ((m.get slot).map bV) rb → St w0 (rb ++ (bs ++ fr)) w' → s.len = (m.get slot).length → R s 0 w') : C_disk_Disk_Read d slot w R := by
  apply S_disk_Disk_Read
  refine sp_disk_look st o ⟨fun h => (by rw [if_pos hsl] at h; simp at h), fun _ => ?_⟩
  obtain ⟨b, t, rt, rest, cs, hd, rr, c1, c2, c3, st1, hg, hc0, hc1, back⟩ := o.focus hsl st
  have hrl := rr.len
  rw [List.length_map, Nat.mul_one] at hrl
  subst hd
  refine ⟨rfl, by omega, by omega, t, st1.cell 0 rfl (by show cs[0 + 2 + slot.toNat]? = _; rw [Nat.zero_add]; exact c1), ?_⟩
  exact sp_Clone st (rr.src st1.drop1) (by omega) fun s rb w' r st' hl => k s rb w' r st' hl

theorem sp_disk_Writes {R : Int → World → Prop} (st : St w0 (bs ++ fr) w) (o : DkO d m bs) (k : R (m.writes : Int) w) : C_disk_Disk_Writes d w R := by
  apply S_disk_Disk_Writes
  obtain ⟨b, a, c, ra, rc, rfl, r1, r2, rfl, _⟩ := o
  exact ⟨fun h => (by cases h), fun _ => ⟨rfl, _, st.cell 0 rfl rfl, k⟩⟩
theorem sp_disk_Dead {R : Bool → World → Prop} (st : St w0 (bs ++ fr) w) (o : DkO d m bs) (k : R m.dead w) : C_disk_Disk_Dead d w R := by
  apply S_disk_Disk_Dead
  obtain ⟨b, a, c, ra, rc, rfl, r1, r2, rfl, _⟩ := o
  exact ⟨fun _ => ⟨rfl, _, st.cell 0 rfl rfl, k⟩, fun h => (by cases h)⟩
theorem sp_disk_Mend {R : Int → World → Prop} (st : St w0 (bs ++ fr) w) (o : DkO d m bs) (k : ∀ bs' w', DkO d { m with dead := false, can := -1 } bs' → St w0 (bs' ++ fr) w' → R 0 w') : C_disk_Disk_Mend d w R := by
  apply S_disk_Disk_Mend
  refine sp_disk_look st o ⟨fun h => by simp at h, fun _ => ?_⟩
  obtain ⟨b, a, c, ra, rc, rfl, r1, r2, rfl, h1, h2, h3, h4, h5, h6, h7⟩ := o
  refine ⟨rfl, st.writable 0 rfl (by simp [dcells, poff]), fun w2 hw2 => ?_⟩
  have st2 := st.put0 (o := 5) hw2
  exact ⟨rfl, st2.writable 0 rfl (by simp [dcells, poff, putL]), fun w3 hw3 => k _ _ ⟨b, a, c, ra, rc, rfl, r1, r2, rfl, h1, h2, by simp, by simp, h5, h6, h7⟩ (st2.put0 (o := 4) hw3)⟩
theorem sp_disk_Cut {n : Int} {R : Int → World → Prop} (st : St w0 (bs ++ fr) w) (o : DkO d m bs) (hn : n ≤ 9223372036854775807) (k0 : m.dead = true → R 11 w)
    (k : m.dead = false → ∀ bs' w', DkO d { m with can := if n < -1 then -1 else n } bs' → St w0 (bs' ++ fr) w' → R 0 w') : C_disk_Disk_Cut d n w R := by
  apply S_disk_Disk_Cut
  refine sp_disk_look st o ⟨fun h => by simp at h, fun _ => ?_⟩
  obtain ⟨b, a, c, ra, rc, rfl, r1, r2, rfl, h1, h2, h3, h4, h5, h6, h7⟩ := o
  refine ⟨rfl, m.dead, st.cell 0 rfl rfl, fun h => k0 h, fun h => ⟨rfl, st.writable 0 rfl (by simp [dcells, poff]), fun w2 hw2 => ?_⟩⟩
  refine k h _ _ ⟨b, a, c, ra, rc, rfl, r1, r2, rfl, h1, h2, ?_, ?_, h5, h6, h7⟩ (st.put0 (o := 4) hw2)
  · simp only; split <;> omega
  · simp only; split <;> omega
def clearF (m : DM) (slot : Int) : DM × Int := if (rawF m).2 ≠ 0 then rawF m else ((rawF m).1.put slot [], 0)
theorem sp_disk_Clear {slot : Int} {R : Int → World → Prop} (st : St w0 (bs ++ fr) w) (o : DkO d m bs) (hsl : slot = 0 ∨ slot = 1) (hwr : m.writes < 4611686018427387904)
    (k : ∀ bs' w', DkO d (clearF m slot).1 bs' → St w0 (bs' ++ fr) w' → R (clearF m slot).2 w') : C_disk_Disk_Clear d slot w R := by
  apply S_disk_Disk_Clear
  unfold clearF at k
  refine sp_disk_look st o ⟨fun h => (by rw [if_pos hsl] at h; simp at h), fun _ => sp_disk_raw st o hwr fun bs2 w2 o2 st2 => ⟨fun h => ?_, fun h => ?_⟩⟩
  · have h : (rawF m).2 ≠ 0 := by simpa using h
    rw [if_pos h] at k; exact k _ _ o2 st2
  · have h : (rawF m).2 = 0 := by simpa using h
    rw [if_neg (by omega)] at k
    obtain ⟨b, t, rt, rest, cs, hd, rr, c1, c2, c3, st1, hg, hc0, hc1, back⟩ := o2.focus hsl st2
    subst hd
    refine ⟨rfl, by omega, by omega, st1.writable 0 rfl (by show 0 + 2 + slot.toNat + 1 ≤ _; rw [c3]; omega), fun w3 hw3 => ?_⟩
    have e0 : poff (some ⟨b, 0, none⟩ : Option Addr) + 2 + slot.toNat = 2 + slot.toNat := by show 0 + 2 + _ = _; omega
    rw [e0] at hw3
    have st3 := st1.put0 hw3
    have st4 : St w0 ((b, putL (2 + slot.toNat) [Value.slice none 0 0] cs) :: ([] ++ (rest ++ fr))) w3 := st3.sub (List.Sublist.cons_cons _ (List.sublist_append_right _ _))
    obtain ⟨bs', o', st'⟩ := back ⟨none, 0, 0⟩ [] [] w3 RowC.nil (by simp) st4
    exact k bs' w3 o' st'
end

end Go.Proofs.YtckmganidgbpgaaGreatDoor
