/- Chapter 04: the law DiskPlays. -/
import Derived.Test.YtckmganidgbpgaaGreatDoorURefDisk
import Derived.Test.YtckmganidgbpgaaGreatDoorUDiskZ
import Derived.Test.YtckmganidgbpgaaGreatDoorUBookByte
import Derived.Test.YtckmganidgbpgaaGreatDoorGDiskPlays
namespace Go.Proofs.YtckmganidgbpgaaGreatDoor
open Go
set_option linter.unusedVariables false

theorem St.inner {w0 w : World} {a b c l : List Chunk} (h : St w0 (c ++ (a ++ (b ++ l))) w) : St w0 (c ++ (b ++ (a ++ l))) w := h.perm ((List.perm_append_comm_assoc a b l).append_left c)
theorem St.skip3 {w0 w : World} {a b c l : List Chunk} (h : St w0 (a ++ (b ++ (c ++ l))) w) : St w0 (a ++ (b ++ l)) w := h.sub (List.Sublist.append (List.Sublist.refl a) (List.Sublist.append (List.Sublist.refl b) (List.sublist_append_right c l)))
theorem St.rot {w0 w : World} {a l : List Chunk} (h : St w0 (a ++ l) w) : St w0 (l ++ a) w := h.perm List.perm_append_comm
theorem St.over2 {w0 w : World} {x a b l : List Chunk} (h : St w0 (x ++ (a ++ (b ++ l))) w) : St w0 (a ++ (b ++ (x ++ l))) w := St.inner h.swap

section
variable {w0 w : World} {fr bd br bs : List Chunk} {d r : Option Addr} {m : DM}
theorem sp_disk_Capacity {R : Int → World → Prop} (st : St w0 (bs ++ fr) w) (o : DkO d m bs) (k : R m.cap w) : C_disk_Disk_Capacity d w R := by
  apply S_disk_Disk_Capacity
  obtain ⟨b, a, c, ra, rc, rfl, r1, r2, rfl, _⟩ := o
  exact ⟨fun h => (by cases h), fun _ => ⟨rfl, _, st.cell 0 rfl rfl, k⟩⟩
theorem sp_disk_ReadBad {slot : Int} {R : Slc → Int → World → Prop} (st : St w0 (bs ++ fr) w) (o : DkO d m bs) (h : ¬ (slot = 0 ∨ slot = 1)) (k : R ⟨none, 0, 0⟩ 1 w) : C_disk_Disk_Read d slot w R := by
  apply S_disk_Disk_Read
  refine sp_disk_look st o ?_
  rw [if_neg h]
  exact ⟨fun _ => k, fun h => by simp at h⟩
theorem sp_disk_ClearBad {slot : Int} {R : Int → World → Prop} (st : St w0 (bs ++ fr) w) (o : DkO d m bs) (h : ¬ (slot = 0 ∨ slot = 1)) (k : R 1 w) : C_disk_Disk_Clear d slot w R := by
  apply S_disk_Disk_Clear
  refine sp_disk_look st o ?_
  rw [if_neg h]
  exact ⟨fun _ => k, fun h => by simp at h⟩
theorem rawF_writes (m : DM) : (rawF m).1.writes ≤ m.writes + 1 := by
  unfold rawF
  by_cases h : m.dead = true ∨ m.can = 0
  · rw [if_pos h]; show m.writes ≤ _; omega
  · rw [if_neg h]; exact Nat.le_refl _
theorem put_writes (m : DM) (s : Int) (l : List UInt8) : (m.put s l).writes = m.writes := by unfold DM.put; split <;> rfl
theorem writeF_writes (m : DM) (slot a : Int) (ys : List UInt8) : (writeF m slot a ys).1.writes ≤ m.writes + 1 := by
  have := rawF_writes m
  unfold writeF
  repeat' split
  all_goals first | (show m.writes ≤ _; omega) | exact this | (show (DM.put _ _ _).writes ≤ _; rw [put_writes]; exact this)
theorem clearF_writes (m : DM) (slot : Int) : (clearF m slot).1.writes ≤ m.writes + 1 := by
  have := rawF_writes m
  unfold clearF
  split
  · exact this
  · show (DM.put _ _ _).writes ≤ _
    rw [put_writes]; exact this

theorem sp_Y_looks {R : Bool → World → Prop} (st : St w0 (bd ++ (br ++ fr)) w) (od : DkO d m bd) (or : RkO r m br) (k : R true w) : C_towpathlaw04_looks d r w R := by
  apply S_towpathlaw04_looks
  unfold F_towpathlaw04_looks
  refine sp_disk_Dead st od (sp_rd_Dead st.swap or ⟨fun _ => sp_disk_Capacity st od (sp_rd_Capacity st.swap or ⟨fun _ => sp_disk_Writes st od (sp_rd_Writes st.swap or ?_), fun h => by simp at h⟩), fun h => by simp at h⟩)
  rw [beq_self_eq_true]; exact k

theorem sp_Y_asked {o_ : T_towpathlaw04_Op} {yl : List UInt8} {R : Bool → World → Prop} (st : St w0 (bd ++ (br ++ fr)) w) (od : DkO d m bd) (or : RkO r m br) (hwr : m.writes < 4611686018427387904) (hs : SrcAt w0 o_.B 1 (yl.map bV)) (hl : o_.B.len ≤ 140737488351232) (hN : o_.N ≤ 9223372036854775807)
    (k : ∀ m' bd' br' w', DkO d m' bd' → RkO r m' br' → m'.writes ≤ m.writes + 1 → St w0 (bd' ++ (br' ++ fr)) w' → R true w') : C_towpathlaw04_asked d r o_ w R := by
  apply S_towpathlaw04_asked
  unfold F_towpathlaw04_asked
  intro b w1 hb hw
  have hyl := hs.len_eq
  have st : St w0 ([(b, _)] ++ (bd ++ (br ++ fr))) w1 := st.alloc hb hw
  have st := st.over2
  refine ⟨o_.Kind, st.drop.drop.cell 0 rfl rfl, fun _ => ?_, fun _ => ⟨fun _ => fun w2 e2 => ?_, fun _ => ⟨fun _ => fun w2 e2 => ?_, fun _ => ⟨fun _ => ?_, fun _ => ?_⟩⟩⟩⟩
  · refine ⟨o_.B, st.drop.drop.cell 0 rfl rfl, ?_⟩
    refine sp_TwinO st (st.ext.src hs) hl (.inr fun l w' st => st.ext.src hs) fun t rb w2 o2 st => ?_
    have st := st.over2
    -- bd ++ (br ++ (rb ++ (C ++ fr)))
    have cc : ∀ {bd br : List Chunk} {w' : World} {q : Nat} {v : Value}, St w0 (bd ++ (br ++ (rb ++ ([(b, [Value.int .u8 o_.Kind, Value.int .i64 o_.Slot, Value.int .i64 o_.At, Value.slice o_.B.ptr o_.B.len o_.B.cap, Value.int .i64 o_.N])] ++ fr)))) w' → [Value.int .u8 o_.Kind, Value.int .i64 o_.Slot, Value.int .i64 o_.At, Value.slice o_.B.ptr o_.B.len o_.B.cap, Value.int .i64 o_.N][q]? = some v → w'.cell? ⟨b, q, none⟩ = some v := fun st hq => st.drop.drop.drop.cell 0 rfl hq
    refine ⟨o_.Slot, cc st rfl, o_.At, cc st rfl, o_.B, cc st rfl, ?_⟩
    refine sp_rd_Write st.swap or hwr (fun l' w' st => st.ext.src hs) fun br' w3 or' st3 => ?_
    have st := st3.swap
    refine ⟨o_.Slot, cc st rfl, o_.At, cc st rfl, ?_⟩
    refine sp_disk_Write st od hwr (fun l' w' st => o2.src st.drop.drop) fun bd' w4 od' st4 => ?_
    refine ⟨o_.B, cc st4 rfl, ?_⟩
    refine sp_LeftO o2 st4.swap3 hl (fun w' st => st.ext.src hs) fun w5 st => ?_
    have ht := o2.len
    have rr := o2.row
    refine ⟨fun i w' => 0 ≤ i ∧ i ≤ t.len ∧ ∃ (xs : List Value) (rb : List Chunk), RowC 1 t xs rb ∧ St w0 (rb ++ (bd' ++ (br' ++ ([(b, [Value.int .u8 o_.Kind, Value.int .i64 o_.Slot, Value.int .i64 o_.At, Value.slice o_.B.ptr o_.B.len o_.B.cap, Value.int .i64 o_.N])] ++ fr)))) w', fun i _ => t.len - i.toNat, ⟨by omega, by omega, _, _, rr, st⟩, ?_⟩
    rintro i w6 ⟨h0, h1, xs, rb, rr, st⟩
    unfold F_towpathlaw04_asked_L0
    refine ⟨fun hi => ?_, fun hi => ?_⟩
    · have hi := of_decide_eq_true hi
      obtain ⟨a, hw, k2⟩ := rr.set (v := Value.int .u8 238) st (i := i.toNat) (by omega)
      refine ⟨a, h0, hi, hw, fun w5 hw5 => ?_⟩
      obtain ⟨bs', r', st'⟩ := k2 w5 hw5
      rw [wrap_next h0 hi (by omega)]
      exact ⟨⟨by omega, by omega, _, _, r', st'⟩, by show t.len - (i + 1).toNat < t.len - i.toNat; omega⟩
    · rw [beq_self_eq_true]
      exact k _ bd' br' w6 od' or' (writeF_writes m _ _ _) st.drop.skip3
  · have st := st.drew e2
    refine ⟨o_.Slot, st.drop.drop.cell 0 rfl rfl, o_.Slot, st.drop.drop.cell 0 rfl rfl, ?_⟩
    by_cases hsl : o_.Slot = 0 ∨ o_.Slot = 1
    · refine sp_disk_Clear st od hsl hwr fun bd' w3 od' st => ⟨st.drop.drop.cell 0 rfl rfl, sp_rd_Clear st.swap or hwr (fun h => absurd hsl h) fun _ br' w4 or' st => ?_⟩
      rw [beq_self_eq_true]
      exact k _ bd' br' w4 od' or' (clearF_writes m _) st.swap.skip3
    · refine sp_disk_ClearBad st od hsl ⟨st.drop.drop.cell 0 rfl rfl, sp_rd_Clear st.swap or hwr (fun h => ?_) fun h => absurd h hsl⟩
      exact k _ bd br _ od or (by omega) st.skip3
  · have st := st.drew e2
    refine ⟨o_.N, st.drop.drop.cell 0 rfl rfl, o_.N, st.drop.drop.cell 0 rfl rfl, ?_⟩
    refine sp_disk_Cut st od hN (fun hd => ⟨st.drop.drop.cell 0 rfl rfl, ?_⟩) fun hd bd' w3 od' st => ⟨st.drop.drop.cell 0 rfl rfl, ?_⟩
    · exact sp_rd_Cut st.swap or hN (fun _ => k _ bd br _ od or (by omega) st.skip3) fun h => by rw [hd] at h; cases h
    · refine sp_rd_Cut st.swap or hN (fun h => by rw [hd] at h; cases h) fun _ br' w4 or' st => ?_
      exact k _ bd' br' w4 od' or' (by show m.writes ≤ _; omega) st.swap.skip3
  · refine sp_disk_Mend st od fun bd' w3 od' st => sp_rd_Mend st.swap or fun br' w4 or' st => ?_
    exact k _ bd' br' w4 od' or' (by show m.writes ≤ _; omega) st.swap.skip3
  · refine ⟨o_.Slot, st.drop.drop.cell 0 rfl rfl, ?_⟩
    by_cases hsl : o_.Slot = 0 ∨ o_.Slot = 1
    · refine sp_disk_Read st od hsl fun s rb w3 rs st hl3 => ⟨o_.Slot, st.drop.drop.drop.cell 0 rfl rfl, ?_⟩
      have st2 : St w0 (br ++ (rb ++ (bd ++ ([(b, _)] ++ fr)))) w3 := St.swap (St.inner st)
      refine sp_rd_Read st2 or (fun h => absurd hsl h) fun _ s2 hs2 => ⟨fun _ => ?_, fun h => by simp at h⟩
      have hsl2 : (m.get o_.Slot).length ≤ 140737488351232 := by
        obtain ⟨_, _, _, _, _, _, _, _, _, _, _, _, _, _, h6, h7⟩ := od
        unfold DM.get; split <;> omega
      refine sp_SameBytes (rs.src st) (hs2 w3 st2) (by omega) fun w4 e4 => ?_
      rw [decide_eq_true rfl]
      exact k _ bd br w4 od or (by omega) ((st.keep e4).drop.skip3)
    · refine sp_disk_ReadBad st od hsl ⟨o_.Slot, st.drop.drop.cell 0 rfl rfl, sp_rd_Read st.swap or (fun _ => ⟨fun _ => ?_, fun h => by simp at h⟩) fun h => absurd h hsl⟩
      exact sp_SameBytes (xs := []) (ys := []) ⟨rfl, .inl rfl⟩ ⟨rfl, .inl rfl⟩ (by show 0 ≤ _; omega) fun w4 e4 => k _ bd br w4 od or (by omega) ((st.keep e4).skip3)

/-- The pair of disks: both there, of one model; or both not there. -/
def TwD (i : Nat) (d r : Option Addr) (bs : List Chunk) : Prop := (∃ (m : DM) (bd br : List Chunk), bs = bd ++ br ∧ DkO d m bd ∧ RkO r m br ∧ m.writes ≤ i) ∨ (d = none ∧ r = none ∧ bs = [])
theorem TwD.asked {i : Nat} {o_ : T_towpathlaw04_Op} {yl : List UInt8} {R : Bool → World → Prop} (h : TwD i d r bs) (st : St w0 (bs ++ fr) w) (hi : i ≤ 2000000) (hs : SrcAt w0 o_.B 1 (yl.map bV)) (hl : o_.B.len ≤ 140737488351232) (hN : o_.N ≤ 9223372036854775807)
    (k : ∀ bs' w', TwD (i + 1) d r bs' → St w0 (bs' ++ fr) w' → R true w') : C_towpathlaw04_asked d r o_ w R := by
  rcases h with ⟨m, bd, br, rfl, od, or, hw⟩ | ⟨rfl, rfl, rfl⟩
  · rw [List.append_assoc] at st
    refine sp_Y_asked st od or (by omega) hs hl hN fun m' bd' br' w' od' or' hw' st' => k (bd' ++ br') w' (.inl ⟨m', bd', br', rfl, od', or', by omega⟩) (by rw [List.append_assoc]; exact st')
  · exact sp_Z_asked (bs := []) st (.inl ⟨rfl, rfl⟩) hs hl fun w' st' => k [] w' (.inr ⟨rfl, rfl, rfl⟩) st'
theorem TwD.looks {i : Nat} {R : Bool → World → Prop} (h : TwD i d r bs) (st : St w0 (bs ++ fr) w) (k : R true w) : C_towpathlaw04_looks d r w R := by
  rcases h with ⟨m, bd, br, rfl, od, or, hw⟩ | ⟨rfl, rfl, rfl⟩
  · rw [List.append_assoc] at st
    exact sp_Y_looks st od or k
  · exact sp_Z_looks (bs := []) st (.inl ⟨rfl, rfl⟩) k
theorem TwD.read {i : Nat} {slot : Int} {R : Slc → Int → World → Prop} (h : TwD i d r bs) (st : St w0 (bs ++ fr) w)
    (k : ∀ s e xs rb w', RowC 1 s xs rb → s.len ≤ 16777216 → St w0 (rb ++ (bs ++ fr)) w' → R s e w') : C_disk_Disk_Read d slot w R := by
  rcases h with ⟨m, bd, br, rfl, od, or, hw⟩ | ⟨rfl, rfl, rfl⟩
  · rw [List.append_assoc] at st
    by_cases hsl : slot = 0 ∨ slot = 1
    · refine sp_disk_Read st od hsl fun s rb w3 rs st hl3 => k s 0 _ rb w3 rs ?_ (by rw [List.append_assoc]; exact st)
      have hsl2 : (m.get slot).length ≤ 16777216 := by
        obtain ⟨_, _, _, _, _, _, _, _, _, _, _, _, _, _, h6, h7⟩ := od
        unfold DM.get; split <;> omega
      omega
    · exact sp_disk_ReadBad st od hsl (k _ _ _ [] w RowC.nil (by show 0 ≤ _; omega) (by rw [List.append_assoc]; exact st))
  · exact sp_Z_Read (bs := []) st (.inl ⟨rfl, rfl⟩) (k _ _ _ [] w RowC.nil (by show 0 ≤ _; omega) st)
end

abbrev opD (o : T_towpathlaw04_Op) : List Value := [Value.int .u8 o.Kind, Value.int .i64 o.Slot, Value.int .i64 o.At, Value.slice o.B.ptr o.B.len o.B.cap, Value.int .i64 o.N]

theorem sp_beyondD {w : World} {s : Slc} {ops : List T_towpathlaw04_Op} {R : Bool → World → Prop} (hs : SrcAt w s 5 (ops.flatMap opD)) (hl : s.len ≤ 140737488351232) (hB : ∀ o ∈ ops, o.B.len ≤ 140737488351232)
    (k1 : R true w) (k0 : s.len ≤ 1048576 → R false w) : C_towpathlaw04_beyond s w R := by
  apply S_towpathlaw04_beyond
  refine ⟨fun n i w' => ∃ p q : Nat, i = (p : Int) ∧ n = (q : Int) ∧ p ≤ s.len ∧ p ≤ q ∧ q ≤ 1048576 ∧ w' = w, fun _ i _ => s.len - i.toNat, ⟨0, 0, rfl, rfl, by omega, by omega, by omega, rfl⟩, ?_⟩
  rintro n i w1 ⟨p, q, rfl, rfl, hp, hpq, hq, rfl⟩
  unfold F_towpathlaw04_beyond_L0
  refine ⟨fun hi => ?_, fun hi => ?_⟩
  · have hi := of_decide_eq_true hi
    obtain ⟨a, o, ho, hc⟩ := SrcAt.getN hs (fun _ => rfl) (by decide) (i := (p : Int)) (by omega) hi
    have hB := hB o (List.mem_of_getElem? ho)
    have wp : IntKind.i64.wrap ((p : Int) + 1) = ((p + 1 : Nat) : Int) := by rw [i64_in _ (by omega) (by omega)]; omega
    have wn : IntKind.i64.wrap (IntKind.i64.wrap ((q : Int) + 1) + ((o.B.len : Nat) : Int)) = ((q + 1 + o.B.len : Nat) : Int) := by rw [i64_in ((q : Int) + 1) (by omega) (by omega), i64_in _ (by omega) (by omega)]; omega
    refine ⟨a, by omega, hi, o.B, cellsAt_iff.1 hc 3 _ rfl, ?_⟩
    rw [wn, wp]
    refine ⟨fun _ => k1, fun h => ?_⟩
    have h := of_decide_eq_false h
    exact ⟨⟨p + 1, q + 1 + o.B.len, rfl, rfl, by omega, by omega, by omega, rfl⟩, by show _ - _ < _ - _; omega⟩
  · have hi := of_decide_eq_false hi
    exact k0 (by omega)

set_option maxHeartbeats 1000000 in
theorem disk_rest {w0 w : World} {x1 : Slc} {ops : List T_towpathlaw04_Op} {d r : Option Addr} {bs : List Chunk} (hs : SrcAt w0 x1 5 (ops.flatMap opD)) (hl : x1.len ≤ 1048576) (hok : ∀ o ∈ ops, Ok_T_towpathlaw04_Op w0 o) (tw : TwD 0 d r bs) (st : St w0 (bs ++ []) w) :
    F_towpathlaw04_DiskPlays_k0 x1 (fun b w' => b = true ∧ RowKit.Below w0.heap.size w0 w') d r false w := by
  unfold F_towpathlaw04_DiskPlays_k0
  refine ⟨fun h => (by cases h), fun _ b1 w1 hb1 hw1 => ?_⟩
  have st := st.alloc hb1 hw1
  refine ⟨st.writable 0 rfl (by simp), fun w2 hw2 => ?_⟩
  have st : St w0 ([(b1, bookC 0 ⟨none, 0, 0⟩)] ++ (bs ++ [])) w2 := st.put0 hw2
  refine ⟨fun i w' => ∃ (p : Nat) (bs kb : List Chunk) (n : Int) (t : Slc) (its : List Item), i = (p : Int) ∧ p ≤ x1.len ∧ TwD p d r bs ∧ BookO b1 n t its Kept kb ∧ 0 ≤ n ∧ n ≤ p ∧ its.length ≤ p ∧ St w0 (bs ++ (kb ++ [])) w', fun i _ => x1.len - i.toNat, ⟨0, bs, _, 0, _, [], rfl, by omega, tw, book_new, by omega, by omega, by simp, st.swap⟩, ?_⟩
  clear st tw
  rintro i w3 ⟨p, bs, kb, n, t, its, rfl, hp, tw, ob, hn0, hn1, hil, st⟩
  unfold F_towpathlaw04_DiskPlays_L1
  refine ⟨fun hi => ?_, fun hi => ?_⟩
  · have hi := of_decide_eq_true hi
    have op : ∀ {l : List Chunk} {w' : World}, St w0 l w' → ∃ o, ops[p]? = some o ∧ IsAt x1.ptr ∧ CellsAt w' (pblk x1.ptr) (poff x1.ptr + ((p : Int)).toNat * 5) (opD o) := fun st => by
      obtain ⟨a, o, ho, hc⟩ := SrcAt.getN (st.ext.src hs) (fun _ => rfl) (by decide) (i := (p : Int)) (by omega) hi
      exact ⟨o, by rw [Int.toNat_natCast] at ho; exact ho, a, hc⟩
    obtain ⟨o, ho, ia, hc⟩ := op st
    obtain ⟨hk, hsl, ha, hB, hN⟩ := hok o (List.mem_of_getElem? ho)
    obtain ⟨yl, hys, hyl, hyc, hyn⟩ := ok_bytes hB
    have wp : IntKind.i64.wrap ((p : Int) + 1) = ((p + 1 : Nat) : Int) := by rw [i64_in _ (by omega) (by omega)]; omega
    refine ⟨ia, by omega, hi, o, hc, tw.asked st (by omega) hys (by omega) hN.2 fun bs' w4 tw' st => ⟨fun h => (by cases h), fun _ => tw'.looks st ?_⟩⟩
    unfold F_towpathlaw04_DiskPlays_k3
    refine ⟨fun h => (by cases h), fun _ => ⟨fun h30 => ?_, fun _ => ?_⟩⟩
    · obtain ⟨o2, ho2, ia2, hc2⟩ := op st
      refine ⟨ia2, by omega, hi, o2.Slot, cellsAt_iff.1 hc2 1 _ rfl, tw'.read st fun s e xs rb w5 rs hsl st => ?_⟩
      have st : St w0 (kb ++ (rb ++ bs')) w5 := by
        have h : St w0 ((rb ++ bs') ++ kb) w5 := by simpa using st
        exact h.rot
      refine sp_Bytes ob rs st ⟨hn0, by omega⟩ (by omega) (by omega) fun t' its' kb' w6 ob' hl' st => ?_
      unfold F_towpathlaw04_DiskPlays_k2
      rw [wp]
      exact ⟨⟨p + 1, bs', kb', n + 1, t', its', rfl, by omega, tw', ob', by omega, by omega, by omega, by simpa using st.rot⟩, by show _ - _ < _ - _; omega⟩
    · unfold F_towpathlaw04_DiskPlays_k2
      rw [wp]
      exact ⟨⟨p + 1, bs', kb, n, t, its, rfl, by omega, tw', ob, hn0, by omega, by omega, st⟩, by show _ - _ < _ - _; omega⟩
  · refine sp_Apart ob st.swap (by omega) fun its' kb' w4 ob' st => ⟨fun _ => ?_, fun h => (by cases h)⟩
    have hz : SrcAt w0 (Slc.mk none 0 0) 1 (([] : List UInt8).map bV) := ⟨rfl, .inl rfl⟩
    refine tw.asked st.swap (by omega) hz (by show 0 ≤ _; omega) (by show (0 : Int) ≤ _; decide) fun bs2 w5 tw2 st => ⟨fun _ => ?_, fun h => (by cases h)⟩
    exact tw2.asked st (by omega) hz (by show 0 ≤ _; omega) (by show (0 : Int) ≤ _; decide) fun bs3 w6 tw3 st => ⟨rfl, st.below⟩

theorem law_DiskPlays (x0 : Int) (x1 : Slc) (w : World) (h0 : (-9223372036854775808) ≤ x0 ∧ x0 ≤ 9223372036854775807) (h1 : OkSl w x1 5 56 (fun es => ∃ e_ : T_towpathlaw04_Op, es = opD e_ ∧ (Ok_T_towpathlaw04_Op w e_))) :
    C_towpathlaw04_DiskPlays x0 x1 w (fun b w' => b = true ∧ RowKit.Below w.heap.size w w') := by
  apply S_towpathlaw04_DiskPlays
  unfold F_towpathlaw04_DiskPlays
  obtain ⟨ops, hs, hcl, hcap, hlen, hok⟩ := ok_list (f := opD) h1 (fun es ⟨e, h, h'⟩ => ⟨e, h, h'⟩) (fun _ => rfl) (by decide)
  have st := St.start w
  refine sp_beyondD hs (by omega) (fun o ho => ?_) ⟨fun _ => ⟨rfl, st.below⟩, fun h => (by cases h)⟩ fun hl => ⟨fun h => (by cases h), fun _ => ?_⟩
  · obtain ⟨hk, hsl, ha, hB, hN⟩ := hok o ho
    obtain ⟨yl, hys, hyl, hyc, hyn⟩ := ok_bytes hB
    omega
  refine sp_disk_New st (fun hbad => ?_) fun hc0 hc1 d bd w1 od st => ?_
  · refine sp_rd_New st (fun _ => ⟨fun h => by simp at h, fun _ => ?_⟩) fun _ _ => by omega
    exact disk_rest hs hl hok (.inr ⟨rfl, rfl, rfl⟩) st
  · refine sp_rd_New st (fun _ => by omega) fun _ _ r br w2 or st => ⟨fun h => by simp at h, fun _ => ?_⟩
    have e : (!(d.isNone == r.isNone)) = false := by
      obtain ⟨_, _, _, _, _, rfl, _⟩ := od
      obtain ⟨_, _, _, _, _, rfl, _⟩ := or
      rfl
    rw [e]
    refine disk_rest hs hl hok (.inl ⟨_, bd, br, rfl, od, or, Nat.le_refl _⟩) ?_
    rw [List.append_assoc]
    exact st.swap

end Go.Proofs.YtckmganidgbpgaaGreatDoor
