/- The verifier's book of lists: Byte, Write: no two share memory. -/
import Derived.Test.YtfmkemmgakdddaaGreatDoorUBkByte
import Derived.Test.YtfmkemmgakdddaaGreatDoorUBkWrite
namespace Go.Proofs.YtfmkemmgakdddaaGreatDoor
open Go
set_option linter.unusedVariables false
set_option linter.unusedSimpArgs false
section
variable {w0 : Base} {w : World} {l : List Chunk} {C : List Value} {b : Nat}
theorem sp_fill_Int {R : World → Prop} (st : St w0 ((b, C) :: l) w) (hC : C[0 + 2]? = some (slV ⟨none, 0, 0⟩)) (k : R w) : C_towpathlaw01_Book_fillInt (some ⟨b, 0, none⟩) w R := by
  apply S_towpathlaw01_Book_fillInt
  unfold F_towpathlaw01_Book_fillInt
  refine ⟨fun i w' => i = 0 ∧ w' = w, fun _ _ => 0, ⟨rfl, rfl⟩, ?_⟩
  rintro i w' ⟨rfl, rfl⟩
  unfold F_towpathlaw01_Book_fillInt_L0
  exact ⟨rfl, ⟨none, 0, 0⟩, st.cell 0 rfl hC, fun h => (by simp at h), fun _ => k⟩
theorem sp_grow_Int {R : World → Prop} (st : St w0 ((b, C) :: l) w) (hC : C[0 + 2]? = some (slV ⟨none, 0, 0⟩)) (k : R w) : C_towpathlaw01_Book_growInt (some ⟨b, 0, none⟩) w R := by
  apply S_towpathlaw01_Book_growInt
  unfold F_towpathlaw01_Book_growInt
  refine ⟨fun i w' => i = 0 ∧ w' = w, fun _ _ => 0, ⟨rfl, rfl⟩, ?_⟩
  rintro i w' ⟨rfl, rfl⟩
  unfold F_towpathlaw01_Book_growInt_L0
  exact ⟨rfl, ⟨none, 0, 0⟩, st.cell 0 rfl hC, fun h => (by simp at h), fun _ => k⟩
theorem sp_look_Int {R : Bool → World → Prop} (st : St w0 ((b, C) :: l) w) (hC : C[0 + 2]? = some (slV ⟨none, 0, 0⟩)) (k : R true w) : C_towpathlaw01_Book_lookInt (some ⟨b, 0, none⟩) w R := by
  apply S_towpathlaw01_Book_lookInt
  unfold F_towpathlaw01_Book_lookInt
  refine ⟨fun i w' => i = 0 ∧ w' = w, fun _ _ => 0, ⟨rfl, rfl⟩, ?_⟩
  rintro i w' ⟨rfl, rfl⟩
  unfold F_towpathlaw01_Book_lookInt_L0
  exact ⟨rfl, ⟨none, 0, 0⟩, st.cell 0 rfl hC, fun h => (by simp at h), fun _ => k⟩
theorem sp_fill_Text {R : World → Prop} (st : St w0 ((b, C) :: l) w) (hC : C[0 + 3]? = some (slV ⟨none, 0, 0⟩)) (k : R w) : C_towpathlaw01_Book_fillText (some ⟨b, 0, none⟩) w R := by
  apply S_towpathlaw01_Book_fillText
  unfold F_towpathlaw01_Book_fillText
  refine ⟨fun i w' => i = 0 ∧ w' = w, fun _ _ => 0, ⟨rfl, rfl⟩, ?_⟩
  rintro i w' ⟨rfl, rfl⟩
  unfold F_towpathlaw01_Book_fillText_L0
  exact ⟨rfl, ⟨none, 0, 0⟩, st.cell 0 rfl hC, fun h => (by simp at h), fun _ => k⟩
theorem sp_grow_Text {R : World → Prop} (st : St w0 ((b, C) :: l) w) (hC : C[0 + 3]? = some (slV ⟨none, 0, 0⟩)) (k : R w) : C_towpathlaw01_Book_growText (some ⟨b, 0, none⟩) w R := by
  apply S_towpathlaw01_Book_growText
  unfold F_towpathlaw01_Book_growText
  refine ⟨fun i w' => i = 0 ∧ w' = w, fun _ _ => 0, ⟨rfl, rfl⟩, ?_⟩
  rintro i w' ⟨rfl, rfl⟩
  unfold F_towpathlaw01_Book_growText_L0
  exact ⟨rfl, ⟨none, 0, 0⟩, st.cell 0 rfl hC, fun h => (by simp at h), fun _ => k⟩
theorem sp_look_Text {R : Bool → World → Prop} (st : St w0 ((b, C) :: l) w) (hC : C[0 + 3]? = some (slV ⟨none, 0, 0⟩)) (k : R true w) : C_towpathlaw01_Book_lookText (some ⟨b, 0, none⟩) w R := by
  apply S_towpathlaw01_Book_lookText
  unfold F_towpathlaw01_Book_lookText
  refine ⟨fun i w' => i = 0 ∧ w' = w, fun _ _ => 0, ⟨rfl, rfl⟩, ?_⟩
  rintro i w' ⟨rfl, rfl⟩
  unfold F_towpathlaw01_Book_lookText_L0
  exact ⟨rfl, ⟨none, 0, 0⟩, st.cell 0 rfl hC, fun h => (by simp at h), fun _ => k⟩
theorem sp_fill_Entry {R : World → Prop} (st : St w0 ((b, C) :: l) w) (hC : C[0 + 5]? = some (slV ⟨none, 0, 0⟩)) (k : R w) : C_towpathlaw01_Book_fillEntry (some ⟨b, 0, none⟩) w R := by
  apply S_towpathlaw01_Book_fillEntry
  unfold F_towpathlaw01_Book_fillEntry
  refine ⟨fun i w' => i = 0 ∧ w' = w, fun _ _ => 0, ⟨rfl, rfl⟩, ?_⟩
  rintro i w' ⟨rfl, rfl⟩
  unfold F_towpathlaw01_Book_fillEntry_L0
  exact ⟨rfl, ⟨none, 0, 0⟩, st.cell 0 rfl hC, fun h => (by simp at h), fun _ => k⟩
theorem sp_grow_Entry {R : World → Prop} (st : St w0 ((b, C) :: l) w) (hC : C[0 + 5]? = some (slV ⟨none, 0, 0⟩)) (k : R w) : C_towpathlaw01_Book_growEntry (some ⟨b, 0, none⟩) w R := by
  apply S_towpathlaw01_Book_growEntry
  unfold F_towpathlaw01_Book_growEntry
  refine ⟨fun i w' => i = 0 ∧ w' = w, fun _ _ => 0, ⟨rfl, rfl⟩, ?_⟩
  rintro i w' ⟨rfl, rfl⟩
  unfold F_towpathlaw01_Book_growEntry_L0
  exact ⟨rfl, ⟨none, 0, 0⟩, st.cell 0 rfl hC, fun h => (by simp at h), fun _ => k⟩
theorem sp_look_Entry {R : Bool → World → Prop} (st : St w0 ((b, C) :: l) w) (hC : C[0 + 5]? = some (slV ⟨none, 0, 0⟩)) (k : R true w) : C_towpathlaw01_Book_lookEntry (some ⟨b, 0, none⟩) w R := by
  apply S_towpathlaw01_Book_lookEntry
  unfold F_towpathlaw01_Book_lookEntry
  refine ⟨fun i w' => i = 0 ∧ w' = w, fun _ _ => 0, ⟨rfl, rfl⟩, ?_⟩
  rintro i w' ⟨rfl, rfl⟩
  unfold F_towpathlaw01_Book_lookEntry_L0
  exact ⟨rfl, ⟨none, 0, 0⟩, st.cell 0 rfl hC, fun h => (by simp at h), fun _ => k⟩
theorem sp_fill_Version {R : World → Prop} (st : St w0 ((b, C) :: l) w) (hC : C[0 + 6]? = some (slV ⟨none, 0, 0⟩)) (k : R w) : C_towpathlaw01_Book_fillVersion (some ⟨b, 0, none⟩) w R := by
  apply S_towpathlaw01_Book_fillVersion
  unfold F_towpathlaw01_Book_fillVersion
  refine ⟨fun i w' => i = 0 ∧ w' = w, fun _ _ => 0, ⟨rfl, rfl⟩, ?_⟩
  rintro i w' ⟨rfl, rfl⟩
  unfold F_towpathlaw01_Book_fillVersion_L0
  exact ⟨rfl, ⟨none, 0, 0⟩, st.cell 0 rfl hC, fun h => (by simp at h), fun _ => k⟩
theorem sp_grow_Version {R : World → Prop} (st : St w0 ((b, C) :: l) w) (hC : C[0 + 6]? = some (slV ⟨none, 0, 0⟩)) (k : R w) : C_towpathlaw01_Book_growVersion (some ⟨b, 0, none⟩) w R := by
  apply S_towpathlaw01_Book_growVersion
  unfold F_towpathlaw01_Book_growVersion
  refine ⟨fun i w' => i = 0 ∧ w' = w, fun _ _ => 0, ⟨rfl, rfl⟩, ?_⟩
  rintro i w' ⟨rfl, rfl⟩
  unfold F_towpathlaw01_Book_growVersion_L0
  exact ⟨rfl, ⟨none, 0, 0⟩, st.cell 0 rfl hC, fun h => (by simp at h), fun _ => k⟩
theorem sp_look_Version {R : Bool → World → Prop} (st : St w0 ((b, C) :: l) w) (hC : C[0 + 6]? = some (slV ⟨none, 0, 0⟩)) (k : R true w) : C_towpathlaw01_Book_lookVersion (some ⟨b, 0, none⟩) w R := by
  apply S_towpathlaw01_Book_lookVersion
  unfold F_towpathlaw01_Book_lookVersion
  refine ⟨fun i w' => i = 0 ∧ w' = w, fun _ _ => 0, ⟨rfl, rfl⟩, ?_⟩
  rintro i w' ⟨rfl, rfl⟩
  unfold F_towpathlaw01_Book_lookVersion_L0
  exact ⟨rfl, ⟨none, 0, 0⟩, st.cell 0 rfl hC, fun h => (by simp at h), fun _ => k⟩
theorem sp_fill_Txn {R : World → Prop} (st : St w0 ((b, C) :: l) w) (hC : C[0 + 7]? = some (slV ⟨none, 0, 0⟩)) (k : R w) : C_towpathlaw01_Book_fillTxn (some ⟨b, 0, none⟩) w R := by
  apply S_towpathlaw01_Book_fillTxn
  unfold F_towpathlaw01_Book_fillTxn
  refine ⟨fun i w' => i = 0 ∧ w' = w, fun _ _ => 0, ⟨rfl, rfl⟩, ?_⟩
  rintro i w' ⟨rfl, rfl⟩
  unfold F_towpathlaw01_Book_fillTxn_L0
  exact ⟨rfl, ⟨none, 0, 0⟩, st.cell 0 rfl hC, fun h => (by simp at h), fun _ => k⟩
theorem sp_grow_Txn {R : World → Prop} (st : St w0 ((b, C) :: l) w) (hC : C[0 + 7]? = some (slV ⟨none, 0, 0⟩)) (k : R w) : C_towpathlaw01_Book_growTxn (some ⟨b, 0, none⟩) w R := by
  apply S_towpathlaw01_Book_growTxn
  unfold F_towpathlaw01_Book_growTxn
  refine ⟨fun i w' => i = 0 ∧ w' = w, fun _ _ => 0, ⟨rfl, rfl⟩, ?_⟩
  rintro i w' ⟨rfl, rfl⟩
  unfold F_towpathlaw01_Book_growTxn_L0
  exact ⟨rfl, ⟨none, 0, 0⟩, st.cell 0 rfl hC, fun h => (by simp at h), fun _ => k⟩
theorem sp_look_Txn {R : Bool → World → Prop} (st : St w0 ((b, C) :: l) w) (hC : C[0 + 7]? = some (slV ⟨none, 0, 0⟩)) (k : R true w) : C_towpathlaw01_Book_lookTxn (some ⟨b, 0, none⟩) w R := by
  apply S_towpathlaw01_Book_lookTxn
  unfold F_towpathlaw01_Book_lookTxn
  refine ⟨fun i w' => i = 0 ∧ w' = w, fun _ _ => 0, ⟨rfl, rfl⟩, ?_⟩
  rintro i w' ⟨rfl, rfl⟩
  unfold F_towpathlaw01_Book_lookTxn_L0
  exact ⟨rfl, ⟨none, 0, 0⟩, st.cell 0 rfl hC, fun h => (by simp at h), fun _ => k⟩
theorem sp_fill_Held {R : World → Prop} (st : St w0 ((b, C) :: l) w) (hC : C[0 + 8]? = some (slV ⟨none, 0, 0⟩)) (k : R w) : C_towpathlaw01_Book_fillHeld (some ⟨b, 0, none⟩) w R := by
  apply S_towpathlaw01_Book_fillHeld
  unfold F_towpathlaw01_Book_fillHeld
  refine ⟨fun i w' => i = 0 ∧ w' = w, fun _ _ => 0, ⟨rfl, rfl⟩, ?_⟩
  rintro i w' ⟨rfl, rfl⟩
  unfold F_towpathlaw01_Book_fillHeld_L0
  exact ⟨rfl, ⟨none, 0, 0⟩, st.cell 0 rfl hC, fun h => (by simp at h), fun _ => k⟩
theorem sp_grow_Held {R : World → Prop} (st : St w0 ((b, C) :: l) w) (hC : C[0 + 8]? = some (slV ⟨none, 0, 0⟩)) (k : R w) : C_towpathlaw01_Book_growHeld (some ⟨b, 0, none⟩) w R := by
  apply S_towpathlaw01_Book_growHeld
  unfold F_towpathlaw01_Book_growHeld
  refine ⟨fun i w' => i = 0 ∧ w' = w, fun _ _ => 0, ⟨rfl, rfl⟩, ?_⟩
  rintro i w' ⟨rfl, rfl⟩
  unfold F_towpathlaw01_Book_growHeld_L0
  exact ⟨rfl, ⟨none, 0, 0⟩, st.cell 0 rfl hC, fun h => (by simp at h), fun _ => k⟩
theorem sp_look_Held {R : Bool → World → Prop} (st : St w0 ((b, C) :: l) w) (hC : C[0 + 8]? = some (slV ⟨none, 0, 0⟩)) (k : R true w) : C_towpathlaw01_Book_lookHeld (some ⟨b, 0, none⟩) w R := by
  apply S_towpathlaw01_Book_lookHeld
  unfold F_towpathlaw01_Book_lookHeld
  refine ⟨fun i w' => i = 0 ∧ w' = w, fun _ _ => 0, ⟨rfl, rfl⟩, ?_⟩
  rintro i w' ⟨rfl, rfl⟩
  unfold F_towpathlaw01_Book_lookHeld_L0
  exact ⟨rfl, ⟨none, 0, 0⟩, st.cell 0 rfl hC, fun h => (by simp at h), fun _ => k⟩
theorem sp_fill_HeldList {R : World → Prop} (st : St w0 ((b, C) :: l) w) (hC : C[0 + 9]? = some (slV ⟨none, 0, 0⟩)) (k : R w) : C_towpathlaw01_Book_fillHeldList (some ⟨b, 0, none⟩) w R := by
  apply S_towpathlaw01_Book_fillHeldList
  unfold F_towpathlaw01_Book_fillHeldList
  refine ⟨fun i w' => i = 0 ∧ w' = w, fun _ _ => 0, ⟨rfl, rfl⟩, ?_⟩
  rintro i w' ⟨rfl, rfl⟩
  unfold F_towpathlaw01_Book_fillHeldList_L0
  exact ⟨rfl, ⟨none, 0, 0⟩, st.cell 0 rfl hC, fun h => (by simp at h), fun _ => k⟩
theorem sp_grow_HeldList {R : World → Prop} (st : St w0 ((b, C) :: l) w) (hC : C[0 + 9]? = some (slV ⟨none, 0, 0⟩)) (k : R w) : C_towpathlaw01_Book_growHeldList (some ⟨b, 0, none⟩) w R := by
  apply S_towpathlaw01_Book_growHeldList
  unfold F_towpathlaw01_Book_growHeldList
  refine ⟨fun i w' => i = 0 ∧ w' = w, fun _ _ => 0, ⟨rfl, rfl⟩, ?_⟩
  rintro i w' ⟨rfl, rfl⟩
  unfold F_towpathlaw01_Book_growHeldList_L0
  exact ⟨rfl, ⟨none, 0, 0⟩, st.cell 0 rfl hC, fun h => (by simp at h), fun _ => k⟩
theorem sp_look_HeldList {R : Bool → World → Prop} (st : St w0 ((b, C) :: l) w) (hC : C[0 + 9]? = some (slV ⟨none, 0, 0⟩)) (k : R true w) : C_towpathlaw01_Book_lookHeldList (some ⟨b, 0, none⟩) w R := by
  apply S_towpathlaw01_Book_lookHeldList
  unfold F_towpathlaw01_Book_lookHeldList
  refine ⟨fun i w' => i = 0 ∧ w' = w, fun _ _ => 0, ⟨rfl, rfl⟩, ?_⟩
  rintro i w' ⟨rfl, rfl⟩
  unfold F_towpathlaw01_Book_lookHeldList_L0
  exact ⟨rfl, ⟨none, 0, 0⟩, st.cell 0 rfl hC, fun h => (by simp at h), fun _ => k⟩
theorem sp_fill_Event {R : World → Prop} (st : St w0 ((b, C) :: l) w) (hC : C[0 + 10]? = some (slV ⟨none, 0, 0⟩)) (k : R w) : C_towpathlaw01_Book_fillEvent (some ⟨b, 0, none⟩) w R := by
  apply S_towpathlaw01_Book_fillEvent
  unfold F_towpathlaw01_Book_fillEvent
  refine ⟨fun i w' => i = 0 ∧ w' = w, fun _ _ => 0, ⟨rfl, rfl⟩, ?_⟩
  rintro i w' ⟨rfl, rfl⟩
  unfold F_towpathlaw01_Book_fillEvent_L0
  exact ⟨rfl, ⟨none, 0, 0⟩, st.cell 0 rfl hC, fun h => (by simp at h), fun _ => k⟩
theorem sp_grow_Event {R : World → Prop} (st : St w0 ((b, C) :: l) w) (hC : C[0 + 10]? = some (slV ⟨none, 0, 0⟩)) (k : R w) : C_towpathlaw01_Book_growEvent (some ⟨b, 0, none⟩) w R := by
  apply S_towpathlaw01_Book_growEvent
  unfold F_towpathlaw01_Book_growEvent
  refine ⟨fun i w' => i = 0 ∧ w' = w, fun _ _ => 0, ⟨rfl, rfl⟩, ?_⟩
  rintro i w' ⟨rfl, rfl⟩
  unfold F_towpathlaw01_Book_growEvent_L0
  exact ⟨rfl, ⟨none, 0, 0⟩, st.cell 0 rfl hC, fun h => (by simp at h), fun _ => k⟩
theorem sp_look_Event {R : Bool → World → Prop} (st : St w0 ((b, C) :: l) w) (hC : C[0 + 10]? = some (slV ⟨none, 0, 0⟩)) (k : R true w) : C_towpathlaw01_Book_lookEvent (some ⟨b, 0, none⟩) w R := by
  apply S_towpathlaw01_Book_lookEvent
  unfold F_towpathlaw01_Book_lookEvent
  refine ⟨fun i w' => i = 0 ∧ w' = w, fun _ _ => 0, ⟨rfl, rfl⟩, ?_⟩
  rintro i w' ⟨rfl, rfl⟩
  unfold F_towpathlaw01_Book_lookEvent_L0
  exact ⟨rfl, ⟨none, 0, 0⟩, st.cell 0 rfl hC, fun h => (by simp at h), fun _ => k⟩
theorem sp_fill_Answer {R : World → Prop} (st : St w0 ((b, C) :: l) w) (hC : C[0 + 11]? = some (slV ⟨none, 0, 0⟩)) (k : R w) : C_towpathlaw01_Book_fillAnswer (some ⟨b, 0, none⟩) w R := by
  apply S_towpathlaw01_Book_fillAnswer
  unfold F_towpathlaw01_Book_fillAnswer
  refine ⟨fun i w' => i = 0 ∧ w' = w, fun _ _ => 0, ⟨rfl, rfl⟩, ?_⟩
  rintro i w' ⟨rfl, rfl⟩
  unfold F_towpathlaw01_Book_fillAnswer_L0
  exact ⟨rfl, ⟨none, 0, 0⟩, st.cell 0 rfl hC, fun h => (by simp at h), fun _ => k⟩
theorem sp_grow_Answer {R : World → Prop} (st : St w0 ((b, C) :: l) w) (hC : C[0 + 11]? = some (slV ⟨none, 0, 0⟩)) (k : R w) : C_towpathlaw01_Book_growAnswer (some ⟨b, 0, none⟩) w R := by
  apply S_towpathlaw01_Book_growAnswer
  unfold F_towpathlaw01_Book_growAnswer
  refine ⟨fun i w' => i = 0 ∧ w' = w, fun _ _ => 0, ⟨rfl, rfl⟩, ?_⟩
  rintro i w' ⟨rfl, rfl⟩
  unfold F_towpathlaw01_Book_growAnswer_L0
  exact ⟨rfl, ⟨none, 0, 0⟩, st.cell 0 rfl hC, fun h => (by simp at h), fun _ => k⟩
theorem sp_look_Answer {R : Bool → World → Prop} (st : St w0 ((b, C) :: l) w) (hC : C[0 + 11]? = some (slV ⟨none, 0, 0⟩)) (k : R true w) : C_towpathlaw01_Book_lookAnswer (some ⟨b, 0, none⟩) w R := by
  apply S_towpathlaw01_Book_lookAnswer
  unfold F_towpathlaw01_Book_lookAnswer
  refine ⟨fun i w' => i = 0 ∧ w' = w, fun _ _ => 0, ⟨rfl, rfl⟩, ?_⟩
  rintro i w' ⟨rfl, rfl⟩
  unfold F_towpathlaw01_Book_lookAnswer_L0
  exact ⟨rfl, ⟨none, 0, 0⟩, st.cell 0 rfl hC, fun h => (by simp at h), fun _ => k⟩
end
def bookC (n : Int) (t0 t1 : Slc) : List Value := [iV n, slV t0, slV ⟨none, 0, 0⟩, slV ⟨none, 0, 0⟩, slV t1, slV ⟨none, 0, 0⟩, slV ⟨none, 0, 0⟩, slV ⟨none, 0, 0⟩, slV ⟨none, 0, 0⟩, slV ⟨none, 0, 0⟩, slV ⟨none, 0, 0⟩, slV ⟨none, 0, 0⟩]
theorem sp_Apart {w0 : Base} {w : World} {l cs0 cs1 : List Chunk} {b : Nat} {n : Int} {t0 t1 : Slc} {its0 its1 : List Item} {R : Bool → World → Prop} (ht : Tab w0.w) (o0 : KindO t0 its0 Kept_Byte cs0) (hm0 : its0.length ≤ 2000000) (o1 : KindO t1 its1 Kept_Write cs1) (hm1 : its1.length ≤ 2000000) (st : St w0 ((b, bookC n t0 t1) :: (cs0 ++ (cs1 ++ l))) w)
    (k : ∀ cs0 cs1 w', St w0 ((b, bookC n t0 t1) :: (cs0 ++ (cs1 ++ l))) w' → R true w') : C_towpathlaw01_Book_Apart (some ⟨b, 0, none⟩) w R := by
  apply S_towpathlaw01_Book_Apart
  unfold F_towpathlaw01_Book_Apart
  refine sp_fill_Byte ht o0 st rfl (by omega) fun its0 cs0 w o0 hl0 st => ?_
  have hm0 : its0.length ≤ 2000000 := by omega
  refine sp_fill_Int st rfl ?_
  refine sp_fill_Text st rfl ?_
  have st : St w0 ((b, bookC n t0 t1) :: (cs1 ++ (cs0 ++ l))) w := st.perm (perm_of_sum fun f_ => by simp only [List.map_append, List.map_cons, List.map_nil, List.sum_append, List.sum_cons, List.sum_nil, List.append_nil]; omega)
  refine sp_fill_Write ht o1 st rfl (by omega) fun its1 cs1 w o1 hl1 st => ?_
  have hm1 : its1.length ≤ 2000000 := by omega
  have st : St w0 ((b, bookC n t0 t1) :: (cs0 ++ (cs1 ++ l))) w := st.perm (perm_of_sum fun f_ => by simp only [List.map_append, List.map_cons, List.map_nil, List.sum_append, List.sum_cons, List.sum_nil, List.append_nil]; omega)
  refine sp_fill_Entry st rfl ?_
  refine sp_fill_Version st rfl ?_
  refine sp_fill_Txn st rfl ?_
  refine sp_fill_Held st rfl ?_
  refine sp_fill_HeldList st rfl ?_
  refine sp_fill_Event st rfl ?_
  refine sp_fill_Answer st rfl ?_
  refine sp_grow_Byte ht o0 st rfl (by omega) fun its0 cs0 w o0 hl0 st => ?_
  have hm0 : its0.length ≤ 2000000 := by omega
  refine sp_grow_Int st rfl ?_
  refine sp_grow_Text st rfl ?_
  have st : St w0 ((b, bookC n t0 t1) :: (cs1 ++ (cs0 ++ l))) w := st.perm (perm_of_sum fun f_ => by simp only [List.map_append, List.map_cons, List.map_nil, List.sum_append, List.sum_cons, List.sum_nil, List.append_nil]; omega)
  refine sp_grow_Write ht o1 st rfl (by omega) fun its1 cs1 w o1 hl1 st => ?_
  have hm1 : its1.length ≤ 2000000 := by omega
  have st : St w0 ((b, bookC n t0 t1) :: (cs0 ++ (cs1 ++ l))) w := st.perm (perm_of_sum fun f_ => by simp only [List.map_append, List.map_cons, List.map_nil, List.sum_append, List.sum_cons, List.sum_nil, List.append_nil]; omega)
  refine sp_grow_Entry st rfl ?_
  refine sp_grow_Version st rfl ?_
  refine sp_grow_Txn st rfl ?_
  refine sp_grow_Held st rfl ?_
  refine sp_grow_HeldList st rfl ?_
  refine sp_grow_Event st rfl ?_
  refine sp_grow_Answer st rfl ?_
  refine sp_look_Byte ht o0 st rfl (by omega) fun w st => ?_
  refine ⟨fun _ => ?_, fun h => (by cases h)⟩
  refine sp_look_Int st rfl ?_
  refine ⟨fun _ => ?_, fun h => (by cases h)⟩
  refine sp_look_Text st rfl ?_
  refine ⟨fun _ => ?_, fun h => (by cases h)⟩
  have st : St w0 ((b, bookC n t0 t1) :: (cs1 ++ (cs0 ++ l))) w := st.perm (perm_of_sum fun f_ => by simp only [List.map_append, List.map_cons, List.map_nil, List.sum_append, List.sum_cons, List.sum_nil, List.append_nil]; omega)
  refine sp_look_Write ht o1 st rfl (by omega) fun w st => ?_
  have st : St w0 ((b, bookC n t0 t1) :: (cs0 ++ (cs1 ++ l))) w := st.perm (perm_of_sum fun f_ => by simp only [List.map_append, List.map_cons, List.map_nil, List.sum_append, List.sum_cons, List.sum_nil, List.append_nil]; omega)
  refine ⟨fun _ => ?_, fun h => (by cases h)⟩
  refine sp_look_Entry st rfl ?_
  refine ⟨fun _ => ?_, fun h => (by cases h)⟩
  refine sp_look_Version st rfl ?_
  refine ⟨fun _ => ?_, fun h => (by cases h)⟩
  refine sp_look_Txn st rfl ?_
  refine ⟨fun _ => ?_, fun h => (by cases h)⟩
  refine sp_look_Held st rfl ?_
  refine ⟨fun _ => ?_, fun h => (by cases h)⟩
  refine sp_look_HeldList st rfl ?_
  refine ⟨fun _ => ?_, fun h => (by cases h)⟩
  refine sp_look_Event st rfl ?_
  refine ⟨fun _ => ?_, fun h => (by cases h)⟩
  refine sp_look_Answer st rfl ?_
  exact k _ _ _ st
end Go.Proofs.YtfmkemmgakdddaaGreatDoor
