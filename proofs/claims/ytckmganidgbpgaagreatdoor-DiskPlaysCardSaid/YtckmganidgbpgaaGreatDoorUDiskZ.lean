/- Chapter 04: a disk that is none, and one that nobody made. -/
import Derived.Test.YtckmganidgbpgaaGreatDoorUDisk
import Derived.Test.YtckmganidgbpgaaGreatDoorUTwinO
import Derived.Test.YtckmganidgbpgaaGreatDoorGtowpathlaw04
import Derived.Test.YtckmganidgbpgaaGreatDoorGtowpathref04
namespace Go.Proofs.YtckmganidgbpgaaGreatDoor
open Go
set_option linter.unusedVariables false

def zD : List Value := [Value.bool false, iV 0, Value.slice none 0 0, Value.slice none 0 0, iV 0, Value.bool false, iV 0]
def ZO (d : Option Addr) (bs : List Chunk) : Prop := (d = none ∧ bs = []) ∨ ∃ b, d = some ⟨b, 0, none⟩ ∧ bs = [(b, zD)]
section
variable {w0 w : World} {fr bs : List Chunk} {d : Option Addr}
theorem sp_Z_look {slot : Int} {R : Int → World → Prop} (st : St w0 (bs ++ fr) w) (o : ZO d bs) (k : R 2 w) : C_disk_Disk_look d slot w R := by
  apply S_disk_Disk_look
  unfold F_disk_Disk_look F_disk_Disk_look_k0
  rcases o with ⟨rfl, rfl⟩ | ⟨b, rfl, rfl⟩
  · exact ⟨fun _ => ⟨fun _ => k, fun h => (by cases h)⟩, fun h => (by cases h)⟩
  · exact ⟨fun h => (by cases h), fun _ => ⟨rfl, false, st.cell 0 rfl rfl, ⟨fun _ => k, fun h => (by cases h)⟩⟩⟩
theorem sp_Z_Write {slot at_ : Int} {b_ : Slc} {R : Int → World → Prop} (st : St w0 (bs ++ fr) w) (o : ZO d bs) (k : R 2 w) : C_disk_Disk_Write d slot at_ b_ w R := by
  apply S_disk_Disk_Write
  exact sp_Z_look st o ⟨fun _ => k, fun h => (by cases h)⟩
theorem sp_Z_Clear {slot : Int} {R : Int → World → Prop} (st : St w0 (bs ++ fr) w) (o : ZO d bs) (k : R 2 w) : C_disk_Disk_Clear d slot w R := by
  apply S_disk_Disk_Clear
  exact sp_Z_look st o ⟨fun _ => k, fun h => (by cases h)⟩
theorem sp_Z_Cut {n : Int} {R : Int → World → Prop} (st : St w0 (bs ++ fr) w) (o : ZO d bs) (k : R 2 w) : C_disk_Disk_Cut d n w R := by
  apply S_disk_Disk_Cut
  exact sp_Z_look st o ⟨fun _ => k, fun h => (by cases h)⟩
theorem sp_Z_Mend {R : Int → World → Prop} (st : St w0 (bs ++ fr) w) (o : ZO d bs) (k : R 2 w) : C_disk_Disk_Mend d w R := by
  apply S_disk_Disk_Mend
  exact sp_Z_look st o ⟨fun _ => k, fun h => (by cases h)⟩
theorem sp_Z_Read {slot : Int} {R : Slc → Int → World → Prop} (st : St w0 (bs ++ fr) w) (o : ZO d bs) (k : R ⟨none, 0, 0⟩ 2 w) : C_disk_Disk_Read d slot w R := by
  apply S_disk_Disk_Read
  exact sp_Z_look st o ⟨fun _ => k, fun h => (by cases h)⟩
theorem sp_Z_Dead {R : Bool → World → Prop} (st : St w0 (bs ++ fr) w) (o : ZO d bs) (k : R false w) : C_disk_Disk_Dead d w R := by
  apply S_disk_Disk_Dead
  rcases o with ⟨rfl, rfl⟩ | ⟨b, rfl, rfl⟩
  · exact ⟨fun h => (by cases h), fun _ => k⟩
  · exact ⟨fun _ => ⟨rfl, false, st.cell 0 rfl rfl, k⟩, fun h => (by cases h)⟩
theorem sp_Z_Capacity {R : Int → World → Prop} (st : St w0 (bs ++ fr) w) (o : ZO d bs) (k : R 0 w) : C_disk_Disk_Capacity d w R := by
  apply S_disk_Disk_Capacity
  rcases o with ⟨rfl, rfl⟩ | ⟨b, rfl, rfl⟩
  · exact ⟨fun _ => k, fun h => (by cases h)⟩
  · exact ⟨fun h => (by cases h), fun _ => ⟨rfl, 0, st.cell 0 rfl rfl, k⟩⟩
theorem sp_Z_Writes {R : Int → World → Prop} (st : St w0 (bs ++ fr) w) (o : ZO d bs) (k : R 0 w) : C_disk_Disk_Writes d w R := by
  apply S_disk_Disk_Writes
  rcases o with ⟨rfl, rfl⟩ | ⟨b, rfl, rfl⟩
  · exact ⟨fun _ => k, fun h => (by cases h)⟩
  · exact ⟨fun h => (by cases h), fun _ => ⟨rfl, 0, st.cell 0 rfl rfl, k⟩⟩

theorem sp_Z_looks {R : Bool → World → Prop} (st : St w0 (bs ++ fr) w) (o : ZO d bs) (k : R true w) : C_towpathlaw04_looks d none w R := by
  apply S_towpathlaw04_looks
  refine sp_Z_Dead st o ?_
  apply S_towpathref04_Disk_Dead
  refine ⟨fun h => (by cases h), fun _ => ⟨fun _ => sp_Z_Capacity st o ?_, fun h => (by cases h)⟩⟩
  apply S_towpathref04_Disk_Capacity
  refine ⟨fun _ => ⟨fun _ => sp_Z_Writes st o ?_, fun h => (by cases h)⟩, fun h => (by cases h)⟩
  apply S_towpathref04_Disk_Writes
  exact ⟨fun _ => k, fun h => (by cases h)⟩

theorem opcells (o_ : T_towpathlaw04_Op) : True := trivial
theorem sp_Z_asked {o_ : T_towpathlaw04_Op} {yl : List UInt8} {R : Bool → World → Prop} (st : St w0 (bs ++ fr) w) (o : ZO d bs) (hs : SrcAt w0 o_.B 1 (yl.map bV)) (hl : o_.B.len ≤ 140737488351232)
    (k : ∀ w', St w0 (bs ++ fr) w' → R true w') : C_towpathlaw04_asked d none o_ w R := by
  apply S_towpathlaw04_asked
  unfold F_towpathlaw04_asked
  intro b w1 hb hw
  have hyl := hs.len_eq
  have st := (st.alloc hb hw)
  refine ⟨o_.Kind, st.cell 0 rfl rfl, fun _ => ?_, fun _ => ⟨fun _ => fun w2 e2 => ?_, fun _ => ⟨fun _ => fun w2 e2 => ?_, fun _ => ⟨fun _ => ?_, fun _ => ?_⟩⟩⟩⟩
  · refine ⟨o_.B, st.cell 0 rfl rfl, ?_⟩
    refine sp_TwinO st (st.ext.src hs) hl (.inr fun l w' st => st.ext.src hs) fun t rb w2 o2 st => ?_
    refine ⟨o_.Slot, st.unmid.cell 0 rfl rfl, o_.At, st.unmid.cell 0 rfl rfl, o_.B, st.unmid.cell 0 rfl rfl, ?_⟩
    apply S_towpathref04_Disk_Write
    refine ⟨fun _ => ⟨o_.Slot, st.unmid.cell 0 rfl rfl, o_.At, st.unmid.cell 0 rfl rfl, ?_⟩, fun h => (by cases h)⟩
    have st3 : St w0 (bs ++ (rb ++ fr)) w2 := (st.unmid.drop1 : St w0 (rb ++ (bs ++ fr)) w2).swap
    refine sp_Z_Write st3 o ⟨o_.B, st.unmid.cell 0 rfl rfl, ?_⟩
    refine sp_LeftO o2 st3.swap hl (fun w' st => st.ext.src hs) fun w3 st => ?_
    have ht := o2.len
    have r := o2.row
    refine ⟨fun i w' => 0 ≤ i ∧ i ≤ t.len ∧ ∃ (xs : List Value) (rb : List Chunk), RowC 1 t xs rb ∧ St w0 (rb ++ (bs ++ fr)) w', fun i _ => t.len - i.toNat, ⟨by omega, by omega, _, _, r, st⟩, ?_⟩
    rintro i w4 ⟨h0, h1, xs, rb, r, st⟩
    unfold F_towpathlaw04_asked_L0
    refine ⟨fun hi => ?_, fun hi => ?_⟩
    · have hi := of_decide_eq_true hi
      obtain ⟨a, hw, k2⟩ := r.set (v := Value.int .u8 238) st (i := i.toNat) (by omega)
      refine ⟨a, h0, hi, hw, fun w5 hw5 => ?_⟩
      obtain ⟨bs', r', st'⟩ := k2 w5 hw5
      rw [wrap_next h0 hi (by omega)]
      exact ⟨⟨by omega, by omega, _, _, r', st'⟩, by show t.len - (i + 1).toNat < t.len - i.toNat; omega⟩
    · exact k w4 st.drop
  · have st := st.drew e2
    refine ⟨o_.Slot, st.cell 0 rfl rfl, o_.Slot, st.cell 0 rfl rfl, sp_Z_Clear st.drop1 o ⟨st.cell 0 rfl rfl, ?_⟩⟩
    apply S_towpathref04_Disk_Clear
    exact ⟨fun _ => k _ st.drop1, fun h => (by cases h)⟩
  · have st := st.drew e2
    refine ⟨o_.N, st.cell 0 rfl rfl, o_.N, st.cell 0 rfl rfl, sp_Z_Cut st.drop1 o ⟨st.cell 0 rfl rfl, ?_⟩⟩
    apply S_towpathref04_Disk_Cut
    exact ⟨fun _ => k _ st.drop1, fun h => (by cases h)⟩
  · refine sp_Z_Mend st.drop1 o ?_
    apply S_towpathref04_Disk_Mend
    exact ⟨fun _ => k _ st.drop1, fun h => (by cases h)⟩
  · refine ⟨o_.Slot, st.cell 0 rfl rfl, sp_Z_Read st.drop1 o ⟨o_.Slot, st.cell 0 rfl rfl, ?_⟩⟩
    apply S_towpathref04_Disk_Read
    refine ⟨fun _ => ⟨fun _ => ?_, fun h => (by cases h)⟩, fun h => (by cases h)⟩
    exact sp_SameBytes (xs := []) (ys := []) ⟨rfl, .inl rfl⟩ ⟨rfl, .inl rfl⟩ (by show 0 ≤ _; omega) fun w' e => by simpa using k _ (st.drop1.keep e)
end

end Go.Proofs.YtckmganidgbpgaaGreatDoor
