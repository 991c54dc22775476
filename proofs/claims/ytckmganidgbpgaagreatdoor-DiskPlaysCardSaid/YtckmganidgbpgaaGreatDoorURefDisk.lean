/- Chapter 04: the document's disk: of the same model as the program's. -/
import Derived.Test.YtckmganidgbpgaaGreatDoorUDisk
import Derived.Test.YtckmganidgbpgaaGreatDoorGtowpathref04
namespace Go.Proofs.YtckmganidgbpgaaGreatDoor
open Go
set_option linter.unusedVariables false

def rcells (m : DM) (a b : Slc) : List Value := [iV m.cap, Value.slice a.ptr a.len a.cap, Value.slice b.ptr b.len b.cap, iV m.can, Value.bool m.dead, iV (m.writes : Int)]
structure RkX (m : DM) (a c : Slc) (ra rc : List Chunk) : Prop where
  r1 : RowC 1 a (m.s0.map bV) ra
  r2 : RowC 1 c (m.s1.map bV) rc
  h1 : 0 ≤ m.cap
  h2 : m.cap ≤ 16777216
  h3 : -1 ≤ m.can
  h4 : m.can ≤ 9223372036854775807
  h5 : m.writes ≤ 4611686018427387904
  h6 : m.s0.length ≤ 16777216
  h7 : m.s1.length ≤ 16777216
abbrev rkC (m : DM) (b : Nat) (a c : Slc) (ra rc : List Chunk) : List Chunk := (b, rcells m a c) :: (ra ++ rc)
def RkO (r : Option Addr) (m : DM) (bs : List Chunk) : Prop := ∃ (b : Nat) (a c : Slc) (ra rc : List Chunk), r = some ⟨b, 0, none⟩ ∧ bs = rkC m b a c ra rc ∧ RkX m a c ra rc

section
variable {w0 w : World} {fr bs : List Chunk} {r : Option Addr} {m : DM}
theorem sp_rd_New {c : Int} {R : Option Addr → Int → World → Prop} (st : St w0 fr w) (k0 : c < 0 ∨ c > 16777216 → R none 1 w)
    (k1 : 0 ≤ c → c ≤ 16777216 → ∀ d bs w', RkO d ⟨c, [], [], -1, false, 0⟩ bs → St w0 (bs ++ fr) w' → R d 0 w') : C_towpathref04_New c w R := by
  apply S_towpathref04_New
  refine ⟨fun h => k0 (by simpa using h), fun h => fun b w1 hb hw => ?_⟩
  simp only [Bool.or_eq_false_iff, decide_eq_false_iff_not] at h
  exact k1 (by omega) (by omega) _ _ _ ⟨b, ⟨none, 0, 0⟩, ⟨none, 0, 0⟩, [], [], rfl, rfl, ⟨RowC.nil, RowC.nil, by simp only; omega, by simp only; omega, by show (-1:Int) ≤ -1; decide, by show (-1:Int) ≤ _; decide, by simp, by simp, by simp⟩⟩ (st.alloc hb hw)

theorem rkx_raw {a c : Slc} {ra rc : List Chunk} (x : RkX m a c ra rc) (hwr : m.writes < 4611686018427387904) : RkX (rawF m).1 a c ra rc := by
  unfold rawF
  obtain ⟨r1, r2, h1, h2, h3, h4, h5, h6, h7⟩ := x
  by_cases h : m.dead = true ∨ m.can = 0
  · rw [if_pos h]; exact ⟨r1, r2, h1, h2, h3, h4, h5, h6, h7⟩
  · rw [if_neg h]
    refine ⟨r1, r2, h1, h2, ?_, ?_, by simp only; omega, h6, h7⟩
    · simp only; split <;> omega
    · simp only; split <;> omega
theorem sp_rd_raw {b : Nat} {a c : Slc} {ra rc : List Chunk} {R : Int → World → Prop} (st : St w0 (rkC m b a c ra rc ++ fr) w) (x : RkX m a c ra rc) (hwr : m.writes < 4611686018427387904)
    (k : ∀ w', RkX (rawF m).1 a c ra rc → St w0 (rkC (rawF m).1 b a c ra rc ++ fr) w' → R (rawF m).2 w') : C_towpathref04_Disk_raw (some ⟨b, 0, none⟩) w R := by
  apply S_towpathref04_Disk_raw
  unfold F_towpathref04_Disk_raw
  have k := fun w' => k w' (rkx_raw x hwr)
  have bad : (m.dead = true ∨ m.can = 0) → F_towpathref04_Disk_raw_k0 (some ⟨b, 0, none⟩) R true w := fun hb => by
    unfold F_towpathref04_Disk_raw_k0
    unfold rawF at k
    rw [if_pos hb] at k
    exact ⟨fun _ => ⟨rfl, st.writable 0 rfl (by simp [rcells, poff]), fun w2 hw2 => k _ (st.put0 (o := 4) hw2)⟩, fun h => (by cases h)⟩
  refine ⟨rfl, m.dead, st.cell 0 rfl rfl, fun h => bad (.inl h), fun h => ⟨rfl, m.can, st.cell 0 rfl rfl, ?_⟩⟩
  by_cases hc : m.can = 0
  · rw [show (m.can == 0) = true from by simpa using hc]
    exact bad (.inr hc)
  rw [show (m.can == 0) = false from by simpa using hc]
  unfold F_towpathref04_Disk_raw_k0
  unfold rawF at k
  rw [if_neg (by rw [h]; simp [hc])] at k
  have e2 : IntKind.i64.wrap ((m.writes : Int) + 1) = ((m.writes + 1 : Nat) : Int) := by rw [i64_in _ (by omega) (by omega)]; omega
  have h3 := x.h3
  have h4 := x.h4
  refine ⟨fun h => (by cases h), fun _ => ⟨rfl, m.can, st.cell 0 rfl rfl, fun hp => ⟨rfl, m.can, st.cell 0 rfl rfl, rfl, st.writable 0 rfl (by simp [rcells, poff]), fun w5 hw5 => ?_⟩, fun hp => ?_⟩⟩
  · have hp := of_decide_eq_true hp
    rw [i64_in _ (by omega) (by omega)] at hw5
    have st3 := st.put0 (o := 3) hw5
    unfold F_towpathref04_Disk_raw_k1
    refine ⟨rfl, (m.writes : Int), st3.cell 0 rfl rfl, rfl, st3.writable 0 rfl (by simp [rcells, poff, putL]), fun w4 hw4 => ?_⟩
    rw [e2] at hw4
    rw [if_neg (by omega)] at k
    exact k _ (st3.put0 (o := 5) hw4)
  · have hp := of_decide_eq_false hp
    unfold F_towpathref04_Disk_raw_k1
    refine ⟨rfl, (m.writes : Int), st.cell 0 rfl rfl, rfl, st.writable 0 rfl (by simp [rcells, poff]), fun w4 hw4 => ?_⟩
    rw [e2] at hw4
    rw [if_pos (by omega), show (-1 : Int) = m.can from by omega] at k
    exact k _ (st.put0 (o := 5) hw4)

theorem one_bV (l : List UInt8) : oneCells (l.map bV) = true := by
  unfold oneCells
  rw [List.all_map]
  exact List.all_eq_true.2 fun _ _ => rfl
/-- What a write makes of a slot's bytes, as a new row. -/
theorem rd_new {old b_ : Slc} {xs ys : List UInt8} {ro : List Chunk} {A : Nat} {T : TypeId} {K : Slc → World → Prop} (r : RowC 1 old (xs.map bV) ro) (st : St w0 (ro ++ fr) w) (hxl : xs.length ≤ 16777216) (hs : ∀ l' w', St w0 (l' ++ (ro ++ fr)) w' → SrcAt w' b_ 1 (ys.map bV)) (hyl : ys.length ≤ 64) (hA : A ≤ xs.length)
    (k : ∀ l' rl w', RowC 1 l' ((overF xs A ys).map bV) rl → St w0 (rl ++ (ro ++ fr)) w' → K l' w') :
    ∃ src, SrcAt w (Slc.mk old.ptr ((A : Int)).toNat old.cap) 1 src ∧ AppendW 1 1 T [Value.int .u8 0] (Slc.mk none 0 0) src ((A : Int)).toNat w (fun l_ w2 => ∃ src, SrcAt w2 b_ 1 src ∧ AppendW 1 1 T [Value.int .u8 0] l_ src b_.len w2 (fun l_1 w3 =>
      (decide (IntKind.i64.wrap ((A : Int) + ((b_.len : Nat) : Int)) < ((old.len : Nat) : Int)) = true → ((0 ≤ IntKind.i64.wrap ((A : Int) + ((b_.len : Nat) : Int)) ∧ IntKind.i64.wrap ((A : Int) + ((b_.len : Nat) : Int)) ≤ ((old.len : Nat) : Int) ∧ ((old.len : Nat) : Int) ≤ ((old.cap : Nat) : Int) ∧ ((old.cap : Nat) : Int) ≤ ((old.cap : Nat) : Int)) ∧
        (∀ s, s = Slc.cut 1 old (IntKind.i64.wrap ((A : Int) + ((b_.len : Nat) : Int))) ((old.len : Nat) : Int) ((old.cap : Nat) : Int) → (∃ src, SrcAt w3 s 1 src ∧ AppendW 1 1 T [Value.int .u8 0] l_1 src s.len w3 (fun l_3 w6 => K l_3 w6))))) ∧
      (decide (IntKind.i64.wrap ((A : Int) + ((b_.len : Nat) : Int)) < ((old.len : Nat) : Int)) = false → K l_1 w3))) := by
  have hol : old.len = xs.length := by have := r.len; simp at this; omega
  have hcl := r.cap_le
  have hbl := (hs [] w st).len_eq
  rw [Int.toNat_natCast]
  have hp := (r.src st).pre (k := A) (by omega)
  rw [Nat.mul_one, ← List.map_take] at hp
  refine ⟨_, hp, ?_⟩
  refine RowC.nil.append (l := ro ++ fr) st (by simp; omega) (one_bV _) rfl (by show (0 + A) * 1 ≤ _; omega) fun l1 rl1 w2 r1 st1 hl1 => ?_
  have hl1 : l1.len = A := by rw [hl1]; simp
  refine ⟨_, hs rl1 w2 st1, r1.append st1 (by simp; omega) (one_bV _) rfl (by omega) fun l2 rl2 w3 r2 st2 hl2 => ?_⟩
  have wi : IntKind.i64.wrap ((A : Int) + ((b_.len : Nat) : Int)) = ((A + b_.len : Nat) : Int) := by rw [i64_in _ (by omega) (by omega)]; omega
  rw [wi]
  refine ⟨fun h => ⟨⟨by omega, by have := of_decide_eq_true h; omega, by omega, by omega⟩, fun s hs3 => ?_⟩, fun h => ?_⟩
  · have h := of_decide_eq_true h
    have hsl : s.len = xs.length - (A + b_.len) := by rw [hs3]; unfold Slc.cut; simp; omega
    have hc := ((r.src (st2.swap)).cut (lo := ((A + b_.len : Nat) : Int)) (hi := ((old.len : Nat) : Int)) (mx := ((old.cap : Nat) : Int)) (by omega) (by omega) (by omega) (by omega))
    rw [← hs3] at hc
    have e1 : (((xs.map bV).drop ((((A + b_.len : Nat) : Int)).toNat * 1)).take (((((old.len : Nat) : Int)).toNat - (((A + b_.len : Nat) : Int)).toNat) * 1)) = (xs.drop (A + b_.len)).map bV := by
      rw [Int.toNat_natCast, Int.toNat_natCast, Nat.mul_one, Nat.mul_one, ← List.map_drop, ← List.map_take, List.take_of_length_le (by rw [List.length_drop]; omega)]
    rw [e1] at hc
    refine ⟨_, hc, r2.append st2 (by simp; omega) (one_bV _) rfl (by omega) fun l3 rl3 w6 r3 st3 _ => k l3 rl3 w6 ?_ st3⟩
    unfold overF
    rw [← hbl]
    simpa using r3
  · have h := of_decide_eq_false h
    refine k l2 rl2 w3 ?_ st2
    unfold overF
    rw [← hbl, List.drop_eq_nil_of_le (by omega)]
    simpa using r2

theorem sp_rd_Write {slot at_ : Int} {b_ : Slc} {ys : List UInt8} {R : Int → World → Prop} (st : St w0 (bs ++ fr) w) (o : RkO r m bs) (hwr : m.writes < 4611686018427387904) (hs : ∀ l' w', St w0 (l' ++ fr) w' → SrcAt w' b_ 1 (ys.map bV))
    (k : ∀ bs' w', RkO r (writeF m slot at_ ys).1 bs' → St w0 (bs' ++ fr) w' → R (writeF m slot at_ ys).2 w') : C_towpathref04_Disk_Write r slot at_ b_ w R := by
  apply S_towpathref04_Disk_Write
  unfold F_towpathref04_Disk_Write
  have hyl := (hs _ _ st).len_eq
  have o' := o
  obtain ⟨b, a, c, ra, rc, rfl, rfl, x⟩ := o
  obtain ⟨r1, r2, h1, h2, h3, h4, h5, h6, h7⟩ := id x
  unfold writeF at k
  have hgl : ∀ s, (m.get s).length ≤ 16777216 := fun s => by unfold DM.get; split <;> assumption
  refine ⟨fun h => (by cases h), fun _ => ⟨fun h => ?_, fun h => ?_⟩⟩
  · simp only [Bool.or_eq_true, Bool.and_eq_true, bne_iff_ne, ne_eq, decide_eq_true_eq] at h
    by_cases hn : ¬ (slot = 0 ∨ slot = 1)
    · rw [if_pos hn] at k; exact k _ _ o' st
    · rw [if_neg hn, if_pos (by omega)] at k; exact k _ _ o' st
  simp only [Bool.or_eq_false_iff, Bool.and_eq_false_iff, bne_eq_false_iff_eq, decide_eq_false_iff_not] at h
  have hsl : slot = 0 ∨ slot = 1 := h.1.1
  rw [if_neg (fun hh => hh hsl), if_neg (by omega)] at k
  obtain ⟨A, rfl⟩ := toN (show 0 ≤ at_ by omega)
  rw [Int.toNat_natCast] at k
  -- the slot's row
  have key : ∀ (old : Slc), (old = if slot = 0 then a else c) → ∃ ro rest, RowC 1 old ((m.get slot).map bV) ro ∧ (rcells m a c)[1 + slot.toNat]? = some (Value.slice old.ptr old.len old.cap) ∧ (∀ {m' : DM} {w' : World}, St w0 (rkC m' b a c ra rc ++ fr) w' → St w0 (ro ++ ((b, rcells m' a c) :: (rest ++ fr))) w') ∧
      ∀ (t' : Slc) (rt' : List Chunk) (zs : List UInt8) (w' : World) (m' : DM), m'.s0 = m.s0 → m'.s1 = m.s1 → RkX m' a c ra rc → RowC 1 t' (zs.map bV) rt' → zs.length ≤ 16777216 → St w0 ((b, putL (1 + slot.toNat) [Value.slice t'.ptr t'.len t'.cap] (rcells m' a c)) :: (rt' ++ (rest ++ fr))) w' →
        ∃ bs', RkO (some ⟨b, 0, none⟩) (m'.put slot zs) bs' ∧ St w0 (bs' ++ fr) w' := by
    intro old ho
    rcases hsl with rfl | rfl
    · rw [if_pos rfl] at ho; subst ho
      refine ⟨ra, rc, r1, rfl, fun st => ?_, fun t' rt' zs w' m' e0 e1 x' r' hz st' => ⟨_, ⟨b, t', c, rt', rc, rfl, rfl, ⟨r', x'.r2, x'.h1, x'.h2, x'.h3, x'.h4, x'.h5, hz, x'.h7⟩⟩, ?_⟩⟩
      · rw [List.cons_append, List.append_assoc] at st; exact St.mid st
      · rw [← List.append_assoc] at st'; exact st'
    · rw [if_neg (by decide)] at ho; subst ho
      refine ⟨rc, ra, r2, rfl, fun st => ?_, fun t' rt' zs w' m' e0 e1 x' r' hz st' => ⟨_, ⟨b, a, t', ra, rt', rfl, rfl, ⟨x'.r1, r', x'.h1, x'.h2, x'.h3, x'.h4, x'.h5, x'.h6, hz⟩⟩, ?_⟩⟩
      · rw [List.cons_append, List.append_assoc] at st
        exact st.perm ((List.Perm.cons _ (List.perm_append_comm_assoc ra rc fr)).trans List.perm_middle.symm)
      · have st2 : St w0 ((b, rcells (m'.put 1 zs) a t') :: (rt' ++ (ra ++ fr))) w' := st'
        exact st2.perm (List.Perm.cons _ (by show List.Perm _ ((ra ++ rt') ++ fr); rw [List.append_assoc]; exact (List.perm_append_comm_assoc ra rt' fr).symm))
  obtain ⟨old, hold⟩ : ∃ old, old = if slot = 0 then a else c := ⟨_, rfl⟩
  obtain ⟨ro, rest, rr, hcell, hfront, back⟩ := key old hold
  have hol : old.len = (m.get slot).length := by have := rr.len; simp at this; omega
  have hg := hgl slot
  have ocell : ∀ {m' : DM} {w' : World}, m' = m → St w0 (rkC m' b a c ra rc ++ fr) w' → w'.cell? ⟨b, 0 + 1 + slot.toNat, none⟩ = some (Value.slice old.ptr old.len old.cap) := fun e st => st.cell 0 rfl (by rw [Nat.zero_add, e]; exact hcell)
  refine ⟨rfl, by omega, by omega, old, ocell rfl st, fun h => ?_, fun h => ?_⟩
  · have h := of_decide_eq_true h
    rw [if_pos (by omega)] at k; exact k _ _ o' st
  have h := of_decide_eq_false h
  rw [if_neg (by omega)] at k
  refine ⟨rfl, m.cap, st.cell 0 rfl rfl, fun h => ?_, fun h => ?_⟩
  · have h := of_decide_eq_true h
    rw [i64_in _ (by omega) (by omega)] at h
    rw [if_pos (by omega)] at k; exact k _ _ o' st
  have h := of_decide_eq_false h
  rw [i64_in _ (by omega) (by omega)] at h
  rw [if_neg (by omega)] at k
  refine sp_rd_raw st x hwr fun w1 x1 st1 => ⟨fun h => ?_, fun h => ?_⟩
  · have h : (rawF m).2 ≠ 0 := by simpa using h
    rw [if_pos h] at k; exact k _ _ ⟨b, a, c, ra, rc, rfl, rfl, x1⟩ st1
  have h : (rawF m).2 = 0 := by simpa using h
  rw [if_neg (by omega)] at k
  have hcl := rr.cap_le
  refine ⟨by omega, by omega, ?_⟩
  refine rd_new (ys := ys) rr (hfront st1) hg (fun l' w' st => ?_) (by omega) (by omega) fun l' rl w' r' st' => ?_
  · refine hs [] w' ?_
    refine (st.sub ?_ : St w0 ([] ++ fr) w')
    refine (List.Sublist.trans ?_ (List.sublist_append_right l' _))
    refine (List.Sublist.trans ?_ (List.sublist_append_right ro _))
    refine List.Sublist.cons _ (List.sublist_append_right rest fr)
  · unfold F_towpathref04_Disk_Write_k0
    have st2 : St w0 ((b, rcells (rawF m).1 a c) :: (rl ++ (rest ++ fr))) w' := by
      have h3 : St w0 (ro ++ (rl ++ ((b, rcells (rawF m).1 a c) :: (rest ++ fr)))) w' := st'.swap
      exact St.unmid h3.drop
    refine ⟨rfl, by omega, by omega, st2.writable 0 rfl (by show 0 + 1 + slot.toNat + 1 ≤ 6; omega), fun w5 hw5 => ?_⟩
    have e0 : poff (some ⟨b, 0, none⟩ : Option Addr) + 1 + slot.toNat = 1 + slot.toNat := by show 0 + 1 + _ = _; omega
    rw [e0] at hw5
    have st3 := st2.put0 hw5
    have hov : (overF (m.get slot) A ys).length ≤ 16777216 := by rw [overF_len (by omega)]; omega
    obtain ⟨bs', o2, st4⟩ := back l' rl _ w5 (rawF m).1 (rawF_get m 0) (rawF_get m 1) x1 r' hov st3
    exact k bs' w5 o2 st4

theorem sp_rd_Read {slot : Int} {R : Slc → Int → World → Prop} (st : St w0 (bs ++ fr) w) (o : RkO r m bs) (k1 : ¬ (slot = 0 ∨ slot = 1) → R ⟨none, 0, 0⟩ 1 w)
    (k : slot = 0 ∨ slot = 1 → ∀ s, (∀ w', St w0 (bs ++ fr) w' → SrcAt w' s 1 ((m.get slot).map bV)) → R s 0 w) : C_towpathref04_Disk_Read r slot w R := by
  apply S_towpathref04_Disk_Read
  unfold F_towpathref04_Disk_Read
  obtain ⟨b, a, c, ra, rc, rfl, rfl, x⟩ := o
  refine ⟨fun h => (by cases h), fun _ => ⟨fun h => k1 (by simp at h; omega), fun h => ?_⟩⟩
  simp only [Bool.and_eq_false_iff, bne_eq_false_iff_eq] at h
  refine ⟨rfl, by omega, by omega, ?_⟩
  rcases h with rfl | rfl
  · refine ⟨a, st.cell 0 rfl rfl, k (.inl rfl) a fun w' st => ?_⟩
    have h : St w0 (ra ++ (rc ++ fr)) w' := by
      have h2 : St w0 ((ra ++ rc) ++ fr) w' := st.drop1
      rwa [List.append_assoc] at h2
    exact x.r1.src h
  · refine ⟨c, st.cell 0 rfl rfl, k (.inr rfl) c fun w' st => ?_⟩
    have h : St w0 (ra ++ (rc ++ fr)) w' := by
      have h2 : St w0 ((ra ++ rc) ++ fr) w' := st.drop1
      rwa [List.append_assoc] at h2
    exact x.r2.src h.drop
theorem sp_rd_Writes {R : Int → World → Prop} (st : St w0 (bs ++ fr) w) (o : RkO r m bs) (k : R (m.writes : Int) w) : C_towpathref04_Disk_Writes r w R := by
  apply S_towpathref04_Disk_Writes
  obtain ⟨b, a, c, ra, rc, rfl, rfl, x⟩ := o
  exact ⟨fun h => (by cases h), fun _ => ⟨rfl, _, st.cell 0 rfl rfl, k⟩⟩
theorem sp_rd_Capacity {R : Int → World → Prop} (st : St w0 (bs ++ fr) w) (o : RkO r m bs) (k : R m.cap w) : C_towpathref04_Disk_Capacity r w R := by
  apply S_towpathref04_Disk_Capacity
  obtain ⟨b, a, c, ra, rc, rfl, rfl, x⟩ := o
  exact ⟨fun h => (by cases h), fun _ => ⟨rfl, _, st.cell 0 rfl rfl, k⟩⟩
theorem sp_rd_Dead {R : Bool → World → Prop} (st : St w0 (bs ++ fr) w) (o : RkO r m bs) (k : R m.dead w) : C_towpathref04_Disk_Dead r w R := by
  apply S_towpathref04_Disk_Dead
  obtain ⟨b, a, c, ra, rc, rfl, rfl, x⟩ := o
  exact ⟨fun _ => ⟨rfl, _, st.cell 0 rfl rfl, k⟩, fun h => (by cases h)⟩
theorem sp_rd_Mend {R : Int → World → Prop} (st : St w0 (bs ++ fr) w) (o : RkO r m bs) (k : ∀ bs' w', RkO r { m with dead := false, can := -1 } bs' → St w0 (bs' ++ fr) w' → R 0 w') : C_towpathref04_Disk_Mend r w R := by
  apply S_towpathref04_Disk_Mend
  obtain ⟨b, a, c, ra, rc, rfl, rfl, ⟨r1, r2, h1, h2, h3, h4, h5, h6, h7⟩⟩ := o
  refine ⟨fun h => (by cases h), fun _ => ⟨rfl, st.writable 0 rfl (by simp [rcells, poff]), fun w2 hw2 => ?_⟩⟩
  have st2 := st.put0 (o := 4) hw2
  exact ⟨rfl, st2.writable 0 rfl (by simp [rcells, poff, putL]), fun w3 hw3 => k _ _ ⟨b, a, c, ra, rc, rfl, rfl, ⟨r1, r2, h1, h2, by simp, by simp, h5, h6, h7⟩⟩ (st2.put0 (o := 3) hw3)⟩
theorem sp_rd_Cut {n : Int} {R : Int → World → Prop} (st : St w0 (bs ++ fr) w) (o : RkO r m bs) (hn : n ≤ 9223372036854775807) (k0 : m.dead = true → R 11 w)
    (k : m.dead = false → ∀ bs' w', RkO r { m with can := if n < -1 then -1 else n } bs' → St w0 (bs' ++ fr) w' → R 0 w') : C_towpathref04_Disk_Cut r n w R := by
  apply S_towpathref04_Disk_Cut
  obtain ⟨b, a, c, ra, rc, rfl, rfl, ⟨r1, r2, h1, h2, h3, h4, h5, h6, h7⟩⟩ := o
  refine ⟨fun h => (by cases h), fun _ => ⟨rfl, m.dead, st.cell 0 rfl rfl, fun h => k0 h, fun h => ⟨rfl, st.writable 0 rfl (by simp [rcells, poff]), fun w2 hw2 => ?_⟩⟩⟩
  have st2 := st.put0 (o := 3) hw2
  have fin : ∀ (v : Int) w', v = (if n < -1 then -1 else n) → St w0 (rkC { m with can := v } b a c ra rc ++ fr) w' → R 0 w' := fun v w' hv st' => by
    subst hv
    refine k h _ w' ⟨b, a, c, ra, rc, rfl, rfl, ⟨r1, r2, h1, h2, ?_, ?_, h5, h6, h7⟩⟩ st'
    · simp only; split <;> omega
    · simp only; split <;> omega
  unfold F_towpathref04_Disk_Cut_k0
  refine ⟨fun hneg => ⟨rfl, st2.writable 0 rfl (by simp [rcells, poff, putL]), fun w3 hw3 => ?_⟩, fun hneg => ?_⟩
  · have hneg := of_decide_eq_true hneg
    refine fin (-1) w3 ?_ (st2.put0 (o := 3) hw3)
    split <;> omega
  · have hneg := of_decide_eq_false hneg
    exact fin n w2 (by rw [if_neg (by omega)]) st2
theorem sp_rd_Clear {slot : Int} {R : Int → World → Prop} (st : St w0 (bs ++ fr) w) (o : RkO r m bs) (hwr : m.writes < 4611686018427387904) (k1 : ¬ (slot = 0 ∨ slot = 1) → R 1 w)
    (k : slot = 0 ∨ slot = 1 → ∀ bs' w', RkO r (clearF m slot).1 bs' → St w0 (bs' ++ fr) w' → R (clearF m slot).2 w') : C_towpathref04_Disk_Clear r slot w R := by
  apply S_towpathref04_Disk_Clear
  unfold F_towpathref04_Disk_Clear F_towpathref04_Disk_Clear_k0
  obtain ⟨b, a, c, ra, rc, rfl, rfl, x⟩ := o
  refine ⟨fun h => (by cases h), fun _ => ⟨fun h => k1 (by simp at h; omega), fun h => ?_⟩⟩
  simp only [Bool.and_eq_false_iff, bne_eq_false_iff_eq] at h
  have k := k h
  unfold clearF at k
  refine sp_rd_raw st x hwr fun w1 x1 st1 => ⟨fun h0 => ?_, fun h0 => ?_⟩
  · have h0 : (rawF m).2 = 0 := by simpa using h0
    rw [if_neg (by omega)] at k
    rw [h0]
    refine ⟨rfl, by omega, by omega, st1.writable 0 rfl (by show 0 + 1 + slot.toNat + 1 ≤ 6; omega), fun w3 hw3 => ?_⟩
    have st3 := st1.put0 hw3
    rcases h with rfl | rfl
    · have st4 : St w0 ((b, rcells ((rawF m).1.put 0 []) ⟨none, 0, 0⟩ c) :: ((ra ++ rc) ++ fr)) w3 := st3
      refine k (rkC _ b ⟨none, 0, 0⟩ c [] rc) w3 ⟨b, ⟨none, 0, 0⟩, c, [], rc, rfl, rfl, ⟨RowC.nil, x1.r2, x1.h1, x1.h2, x1.h3, x1.h4, x1.h5, by simp [DM.put], x1.h7⟩⟩ (st4.sub (List.Sublist.cons_cons _ ?_))
      rw [List.append_assoc]
      exact List.sublist_append_right ra _
    · have st4 : St w0 ((b, rcells ((rawF m).1.put 1 []) a ⟨none, 0, 0⟩) :: ((ra ++ rc) ++ fr)) w3 := st3
      refine k (rkC _ b a ⟨none, 0, 0⟩ ra []) w3 ⟨b, a, ⟨none, 0, 0⟩, ra, [], rfl, rfl, ⟨x1.r1, RowC.nil, x1.h1, x1.h2, x1.h3, x1.h4, x1.h5, x1.h6, by simp [DM.put]⟩⟩ (st4.sub (List.Sublist.cons_cons _ ?_))
      rw [List.append_assoc, List.append_nil]
      exact List.Sublist.append (List.Sublist.refl ra) (List.sublist_append_right rc fr)
  · have h0 : (rawF m).2 ≠ 0 := by simpa using h0
    rw [if_pos h0] at k; exact k _ _ ⟨b, a, c, ra, rc, rfl, rfl, x1⟩ st1
end
end Go.Proofs.YtckmganidgbpgaaGreatDoor
