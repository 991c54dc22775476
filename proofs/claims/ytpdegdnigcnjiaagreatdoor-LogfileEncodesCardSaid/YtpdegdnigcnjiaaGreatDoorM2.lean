/- Chapter 06: law: a log as bytes, or the refusal. -/
import Derived.Test.YtpdegdnigcnjiaaGreatDoorM1
import Derived.Test.YtpdegdnigcnjiaaGreatDoorGLogfileEncodes
namespace Go.Proofs.YtpdegdnigcnjiaaGreatDoor
open Go
set_option linter.unusedVariables false
set_option linter.unusedSimpArgs false
section
variable {w0 : Base} {w : World} {l : List Chunk} {C : List Value} {b : Nat}
theorem sp_fill_Int {R : World → Prop} (st : St w0 ((b, C) :: l) w) (hC : C[0 + 2]? = some (slV ⟨none, 0, 0⟩)) (k : R w) : C_towpathlaw01_Book_fillInt (some ⟨b, 0, none⟩) w R := by
  apply S_towpathlaw01_Book_fillInt
  unfold F_towpathlaw01_Book_fillInt
  refine ⟨fun i w' => i = 0 ∧ w' = w, fun _ _ => 0, ⟨rfl, rfl⟩, ?_⟩
  rintro i w' ⟨rfl, rfl⟩
  unfold F_towpathlaw01_Book_fillInt_L0
  exact ⟨rfl, ⟨none, 0, 0⟩, st.cell 0 rfl hC, fun h => (by simp at h), fun _ => k⟩
theorem sp_grow_Int {R : World → Prop} (st : St w0 ((b, C) :: l) w) (hC : C[0 + 2]? = some (slV ⟨none, 0, 0⟩)) (k : R w) : C_towpathlaw01_Book_growInt (some ⟨b, 0, none⟩) w R := by
  apply S_towpathlaw01_Book_growInt
  unfold F_towpathlaw01_Book_growInt
  refine ⟨fun i w' => i = 0 ∧ w' = w, fun _ _ => 0, ⟨rfl, rfl⟩, ?_⟩
  rintro i w' ⟨rfl, rfl⟩
  unfold F_towpathlaw01_Book_growInt_L0
  exact ⟨rfl, ⟨none, 0, 0⟩, st.cell 0 rfl hC, fun h => (by simp at h), fun _ => k⟩
theorem sp_look_Int {R : Bool → World → Prop} (st : St w0 ((b, C) :: l) w) (hC : C[0 + 2]? = some (slV ⟨none, 0, 0⟩)) (k : R true w) : C_towpathlaw01_Book_lookInt (some ⟨b, 0, none⟩) w R := by
  apply S_towpathlaw01_Book_lookInt
  unfold F_towpathlaw01_Book_lookInt
  refine ⟨fun i w' => i = 0 ∧ w' = w, fun _ _ => 0, ⟨rfl, rfl⟩, ?_⟩
  rintro i w' ⟨rfl, rfl⟩
  unfold F_towpathlaw01_Book_lookInt_L0
  exact ⟨rfl, ⟨none, 0, 0⟩, st.cell 0 rfl hC, fun h => (by simp at h), fun _ => k⟩
theorem sp_fill_Text {R : World → Prop} (st : St w0 ((b, C) :: l) w) (hC : C[0 + 3]? = some (slV ⟨none, 0, 0⟩)) (k : R w) : C_towpathlaw01_Book_fillText (some ⟨b, 0, none⟩) w R := by
  apply S_towpathlaw01_Book_fillText
  unfold F_towpathlaw01_Book_fillText
  refine ⟨fun i w' => i = 0 ∧ w' = w, fun _ _ => 0, ⟨rfl, rfl⟩, ?_⟩
  rintro i w' ⟨rfl, rfl⟩
  unfold F_towpathlaw01_Book_fillText_L0
  exact ⟨rfl, ⟨none, 0, 0⟩, st.cell 0 rfl hC, fun h => (by simp at h), fun _ => k⟩
theorem sp_grow_Text {R : World → Prop} (st : St w0 ((b, C) :: l) w) (hC : C[0 + 3]? = some (slV ⟨none, 0, 0⟩)) (k : R w) : C_towpathlaw01_Book_growText (some ⟨b, 0, none⟩) w R := by
  apply S_towpathlaw01_Book_growText
  unfold F_towpathlaw01_Book_growText
  refine ⟨fun i w' => i = 0 ∧ w' = w, fun _ _ => 0, ⟨rfl, rfl⟩, ?_⟩
  rintro i w' ⟨rfl, rfl⟩
  unfold F_towpathlaw01_Book_growText_L0
  exact ⟨rfl, ⟨none, 0, 0⟩, st.cell 0 rfl hC, fun h => (by simp at h), fun _ => k⟩
theorem sp_look_Text {R : Bool → World → Prop} (st : St w0 ((b, C) :: l) w) (hC : C[0 + 3]? = some (slV ⟨none, 0, 0⟩)) (k : R true w) : C_towpathlaw01_Book_lookText (some ⟨b, 0, none⟩) w R := by
  apply S_towpathlaw01_Book_lookText
  unfold F_towpathlaw01_Book_lookText
  refine ⟨fun i w' => i = 0 ∧ w' = w, fun _ _ => 0, ⟨rfl, rfl⟩, ?_⟩
  rintro i w' ⟨rfl, rfl⟩
  unfold F_towpathlaw01_Book_lookText_L0
  exact ⟨rfl, ⟨none, 0, 0⟩, st.cell 0 rfl hC, fun h => (by simp at h), fun _ => k⟩
theorem sp_fill_Entry {R : World → Prop} (st : St w0 ((b, C) :: l) w) (hC : C[0 + 5]? = some (slV ⟨none, 0, 0⟩)) (k : R w) : C_towpathlaw01_Book_fillEntry (some ⟨b, 0, none⟩) w R := by
  apply S_towpathlaw01_Book_fillEntry
  unfold F_towpathlaw01_Book_fillEntry
  refine ⟨fun i w' => i = 0 ∧ w' = w, fun _ _ => 0, ⟨rfl, rfl⟩, ?_⟩
  rintro i w' ⟨rfl, rfl⟩
  unfold F_towpathlaw01_Book_fillEntry_L0
  exact ⟨rfl, ⟨none, 0, 0⟩, st.cell 0 rfl hC, fun h => (by simp at h), fun _ => k⟩
theorem sp_grow_Entry {R : World → Prop} (st : St w0 ((b, C) :: l) w) (hC : C[0 + 5]? = some (slV ⟨none, 0, 0⟩)) (k : R w) : C_towpathlaw01_Book_growEntry (some ⟨b, 0, none⟩) w R := by
  apply S_towpathlaw01_Book_growEntry
  unfold F_towpathlaw01_Book_growEntry
  refine ⟨fun i w' => i = 0 ∧ w' = w, fun _ _ => 0, ⟨rfl, rfl⟩, ?_⟩
  rintro i w' ⟨rfl, rfl⟩
  unfold F_towpathlaw01_Book_growEntry_L0
  exact ⟨rfl, ⟨none, 0, 0⟩, st.cell 0 rfl hC, fun h => (by simp at h), fun _ => k⟩
theorem sp_look_Entry {R : Bool → World → Prop} (st : St w0 ((b, C) :: l) w) (hC : C[0 + 5]? = some (slV ⟨none, 0, 0⟩)) (k : R true w) : C_towpathlaw01_Book_lookEntry (some ⟨b, 0, none⟩) w R := by
  apply S_towpathlaw01_Book_lookEntry
  unfold F_towpathlaw01_Book_lookEntry
  refine ⟨fun i w' => i = 0 ∧ w' = w, fun _ _ => 0, ⟨rfl, rfl⟩, ?_⟩
  rintro i w' ⟨rfl, rfl⟩
  unfold F_towpathlaw01_Book_lookEntry_L0
  exact ⟨rfl, ⟨none, 0, 0⟩, st.cell 0 rfl hC, fun h => (by simp at h), fun _ => k⟩
theorem sp_fill_Version {R : World → Prop} (st : St w0 ((b, C) :: l) w) (hC : C[0 + 6]? = some (slV ⟨none, 0, 0⟩)) (k : R w) : C_towpathlaw01_Book_fillVersion (some ⟨b, 0, none⟩) w R := by
  apply S_towpathlaw01_Book_fillVersion
  unfold F_towpathlaw01_Book_fillVersion
  refine ⟨fun i w' => i = 0 ∧ w' = w, fun _ _ => 0, ⟨rfl, rfl⟩, ?_⟩
  rintro i w' ⟨rfl, rfl⟩
  unfold F_towpathlaw01_Book_fillVersion_L0
  exact ⟨rfl, ⟨none, 0, 0⟩, st.cell 0 rfl hC, fun h => (by simp at h), fun _ => k⟩
theorem sp_grow_Version {R : World → Prop} (st : St w0 ((b, C) :: l) w) (hC : C[0 + 6]? = some (slV ⟨none, 0, 0⟩)) (k : R w) : C_towpathlaw01_Book_growVersion (some ⟨b, 0, none⟩) w R := by
  apply S_towpathlaw01_Book_growVersion
  unfold F_towpathlaw01_Book_growVersion
  refine ⟨fun i w' => i = 0 ∧ w' = w, fun _ _ => 0, ⟨rfl, rfl⟩, ?_⟩
  rintro i w' ⟨rfl, rfl⟩
  unfold F_towpathlaw01_Book_growVersion_L0
  exact ⟨rfl, ⟨none, 0, 0⟩, st.cell 0 rfl hC, fun h => (by simp at h), fun _ => k⟩
theorem sp_look_Version {R : Bool → World → Prop} (st : St w0 ((b, C) :: l) w) (hC : C[0 + 6]? = some (slV ⟨none, 0, 0⟩)) (k : R true w) : C_towpathlaw01_Book_lookVersion (some ⟨b, 0, none⟩) w R := by
  apply S_towpathlaw01_Book_lookVersion
  unfold F_towpathlaw01_Book_lookVersion
  refine ⟨fun i w' => i = 0 ∧ w' = w, fun _ _ => 0, ⟨rfl, rfl⟩, ?_⟩
  rintro i w' ⟨rfl, rfl⟩
  unfold F_towpathlaw01_Book_lookVersion_L0
  exact ⟨rfl, ⟨none, 0, 0⟩, st.cell 0 rfl hC, fun h => (by simp at h), fun _ => k⟩
theorem sp_fill_Held {R : World → Prop} (st : St w0 ((b, C) :: l) w) (hC : C[0 + 8]? = some (slV ⟨none, 0, 0⟩)) (k : R w) : C_towpathlaw01_Book_fillHeld (some ⟨b, 0, none⟩) w R := by
  apply S_towpathlaw01_Book_fillHeld
  unfold F_towpathlaw01_Book_fillHeld
  refine ⟨fun i w' => i = 0 ∧ w' = w, fun _ _ => 0, ⟨rfl, rfl⟩, ?_⟩
  rintro i w' ⟨rfl, rfl⟩
  unfold F_towpathlaw01_Book_fillHeld_L0
  exact ⟨rfl, ⟨none, 0, 0⟩, st.cell 0 rfl hC, fun h => (by simp at h), fun _ => k⟩
theorem sp_grow_Held {R : World → Prop} (st : St w0 ((b, C) :: l) w) (hC : C[0 + 8]? = some (slV ⟨none, 0, 0⟩)) (k : R w) : C_towpathlaw01_Book_growHeld (some ⟨b, 0, none⟩) w R := by
  apply S_towpathlaw01_Book_growHeld
  unfold F_towpathlaw01_Book_growHeld
  refine ⟨fun i w' => i = 0 ∧ w' = w, fun _ _ => 0, ⟨rfl, rfl⟩, ?_⟩
  rintro i w' ⟨rfl, rfl⟩
  unfold F_towpathlaw01_Book_growHeld_L0
  exact ⟨rfl, ⟨none, 0, 0⟩, st.cell 0 rfl hC, fun h => (by simp at h), fun _ => k⟩
theorem sp_look_Held {R : Bool → World → Prop} (st : St w0 ((b, C) :: l) w) (hC : C[0 + 8]? = some (slV ⟨none, 0, 0⟩)) (k : R true w) : C_towpathlaw01_Book_lookHeld (some ⟨b, 0, none⟩) w R := by
  apply S_towpathlaw01_Book_lookHeld
  unfold F_towpathlaw01_Book_lookHeld
  refine ⟨fun i w' => i = 0 ∧ w' = w, fun _ _ => 0, ⟨rfl, rfl⟩, ?_⟩
  rintro i w' ⟨rfl, rfl⟩
  unfold F_towpathlaw01_Book_lookHeld_L0
  exact ⟨rfl, ⟨none, 0, 0⟩, st.cell 0 rfl hC, fun h => (by simp at h), fun _ => k⟩
theorem sp_fill_HeldList {R : World → Prop} (st : St w0 ((b, C) :: l) w) (hC : C[0 + 9]? = some (slV ⟨none, 0, 0⟩)) (k : R w) : C_towpathlaw01_Book_fillHeldList (some ⟨b, 0, none⟩) w R := by
  apply S_towpathlaw01_Book_fillHeldList
  unfold F_towpathlaw01_Book_fillHeldList
  refine ⟨fun i w' => i = 0 ∧ w' = w, fun _ _ => 0, ⟨rfl, rfl⟩, ?_⟩
  rintro i w' ⟨rfl, rfl⟩
  unfold F_towpathlaw01_Book_fillHeldList_L0
  exact ⟨rfl, ⟨none, 0, 0⟩, st.cell 0 rfl hC, fun h => (by simp at h), fun _ => k⟩
theorem sp_grow_HeldList {R : World → Prop} (st : St w0 ((b, C) :: l) w) (hC : C[0 + 9]? = some (slV ⟨none, 0, 0⟩)) (k : R w) : C_towpathlaw01_Book_growHeldList (some ⟨b, 0, none⟩) w R := by
  apply S_towpathlaw01_Book_growHeldList
  unfold F_towpathlaw01_Book_growHeldList
  refine ⟨fun i w' => i = 0 ∧ w' = w, fun _ _ => 0, ⟨rfl, rfl⟩, ?_⟩
  rintro i w' ⟨rfl, rfl⟩
  unfold F_towpathlaw01_Book_growHeldList_L0
  exact ⟨rfl, ⟨none, 0, 0⟩, st.cell 0 rfl hC, fun h => (by simp at h), fun _ => k⟩
theorem sp_look_HeldList {R : Bool → World → Prop} (st : St w0 ((b, C) :: l) w) (hC : C[0 + 9]? = some (slV ⟨none, 0, 0⟩)) (k : R true w) : C_towpathlaw01_Book_lookHeldList (some ⟨b, 0, none⟩) w R := by
  apply S_towpathlaw01_Book_lookHeldList
  unfold F_towpathlaw01_Book_lookHeldList
  refine ⟨fun i w' => i = 0 ∧ w' = w, fun _ _ => 0, ⟨rfl, rfl⟩, ?_⟩
  rintro i w' ⟨rfl, rfl⟩
  unfold F_towpathlaw01_Book_lookHeldList_L0
  exact ⟨rfl, ⟨none, 0, 0⟩, st.cell 0 rfl hC, fun h => (by simp at h), fun _ => k⟩
theorem sp_fill_Event {R : World → Prop} (st : St w0 ((b, C) :: l) w) (hC : C[0 + 10]? = some (slV ⟨none, 0, 0⟩)) (k : R w) : C_towpathlaw01_Book_fillEvent (some ⟨b, 0, none⟩) w R := by
  apply S_towpathlaw01_Book_fillEvent
  unfold F_towpathlaw01_Book_fillEvent
  refine ⟨fun i w' => i = 0 ∧ w' = w, fun _ _ => 0, ⟨rfl, rfl⟩, ?_⟩
  rintro i w' ⟨rfl, rfl⟩
  unfold F_towpathlaw01_Book_fillEvent_L0
  exact ⟨rfl, ⟨none, 0, 0⟩, st.cell 0 rfl hC, fun h => (by simp at h), fun _ => k⟩
theorem sp_grow_Event {R : World → Prop} (st : St w0 ((b, C) :: l) w) (hC : C[0 + 10]? = some (slV ⟨none, 0, 0⟩)) (k : R w) : C_towpathlaw01_Book_growEvent (some ⟨b, 0, none⟩) w R := by
  apply S_towpathlaw01_Book_growEvent
  unfold F_towpathlaw01_Book_growEvent
  refine ⟨fun i w' => i = 0 ∧ w' = w, fun _ _ => 0, ⟨rfl, rfl⟩, ?_⟩
  rintro i w' ⟨rfl, rfl⟩
  unfold F_towpathlaw01_Book_growEvent_L0
  exact ⟨rfl, ⟨none, 0, 0⟩, st.cell 0 rfl hC, fun h => (by simp at h), fun _ => k⟩
theorem sp_look_Event {R : Bool → World → Prop} (st : St w0 ((b, C) :: l) w) (hC : C[0 + 10]? = some (slV ⟨none, 0, 0⟩)) (k : R true w) : C_towpathlaw01_Book_lookEvent (some ⟨b, 0, none⟩) w R := by
  apply S_towpathlaw01_Book_lookEvent
  unfold F_towpathlaw01_Book_lookEvent
  refine ⟨fun i w' => i = 0 ∧ w' = w, fun _ _ => 0, ⟨rfl, rfl⟩, ?_⟩
  rintro i w' ⟨rfl, rfl⟩
  unfold F_towpathlaw01_Book_lookEvent_L0
  exact ⟨rfl, ⟨none, 0, 0⟩, st.cell 0 rfl hC, fun h => (by simp at h), fun _ => k⟩
theorem sp_fill_Answer {R : World → Prop} (st : St w0 ((b, C) :: l) w) (hC : C[0 + 11]? = some (slV ⟨none, 0, 0⟩)) (k : R w) : C_towpathlaw01_Book_fillAnswer (some ⟨b, 0, none⟩) w R := by
  apply S_towpathlaw01_Book_fillAnswer
  unfold F_towpathlaw01_Book_fillAnswer
  refine ⟨fun i w' => i = 0 ∧ w' = w, fun _ _ => 0, ⟨rfl, rfl⟩, ?_⟩
  rintro i w' ⟨rfl, rfl⟩
  unfold F_towpathlaw01_Book_fillAnswer_L0
  exact ⟨rfl, ⟨none, 0, 0⟩, st.cell 0 rfl hC, fun h => (by simp at h), fun _ => k⟩
theorem sp_grow_Answer {R : World → Prop} (st : St w0 ((b, C) :: l) w) (hC : C[0 + 11]? = some (slV ⟨none, 0, 0⟩)) (k : R w) : C_towpathlaw01_Book_growAnswer (some ⟨b, 0, none⟩) w R := by
  apply S_towpathlaw01_Book_growAnswer
  unfold F_towpathlaw01_Book_growAnswer
  refine ⟨fun i w' => i = 0 ∧ w' = w, fun _ _ => 0, ⟨rfl, rfl⟩, ?_⟩
  rintro i w' ⟨rfl, rfl⟩
  unfold F_towpathlaw01_Book_growAnswer_L0
  exact ⟨rfl, ⟨none, 0, 0⟩, st.cell 0 rfl hC, fun h => (by simp at h), fun _ => k⟩
theorem sp_look_Answer {R : Bool → World → Prop} (st : St w0 ((b, C) :: l) w) (hC : C[0 + 11]? = some (slV ⟨none, 0, 0⟩)) (k : R true w) : C_towpathlaw01_Book_lookAnswer (some ⟨b, 0, none⟩) w R := by
  apply S_towpathlaw01_Book_lookAnswer
  unfold F_towpathlaw01_Book_lookAnswer
  refine ⟨fun i w' => i = 0 ∧ w' = w, fun _ _ => 0, ⟨rfl, rfl⟩, ?_⟩
  rintro i w' ⟨rfl, rfl⟩
  unfold F_towpathlaw01_Book_lookAnswer_L0
  exact ⟨rfl, ⟨none, 0, 0⟩, st.cell 0 rfl hC, fun h => (by simp at h), fun _ => k⟩
end
def bookC (n : Int) (t0 t1 t2 : Slc) : List Value := [iV n, slV t0, slV ⟨none, 0, 0⟩, slV ⟨none, 0, 0⟩, slV t1, slV ⟨none, 0, 0⟩, slV ⟨none, 0, 0⟩, slV t2, slV ⟨none, 0, 0⟩, slV ⟨none, 0, 0⟩, slV ⟨none, 0, 0⟩, slV ⟨none, 0, 0⟩]
theorem sp_Apart {w0 : Base} {w : World} {l cs0 cs1 cs2 : List Chunk} {b : Nat} {n : Int} {t0 t1 t2 : Slc} {its0 its1 its2 : List Item} {R : Bool → World → Prop} (ht : Tab w0.w) (o0 : KindO t0 its0 Kept_Byte cs0) (hm0 : its0.length ≤ 2000000) (o1 : KindO t1 its1 Kept_Write cs1) (hm1 : its1.length ≤ 2000000) (o2 : KindO t2 its2 Kept_Txn cs2) (hm2 : its2.length ≤ 2000000) (st : St w0 ((b, bookC n t0 t1 t2) :: (cs0 ++ (cs1 ++ (cs2 ++ l)))) w)
    (k : ∀ cs0 cs1 cs2 w', St w0 ((b, bookC n t0 t1 t2) :: (cs0 ++ (cs1 ++ (cs2 ++ l)))) w' → R true w') : C_towpathlaw01_Book_Apart (some ⟨b, 0, none⟩) w R := by
  apply S_towpathlaw01_Book_Apart
  unfold F_towpathlaw01_Book_Apart
  refine sp_fill_Byte ht o0 st rfl (by omega) fun its0 cs0 w o0 hl0 st => ?_
  have hm0 : its0.length ≤ 2000000 := by omega
  refine sp_fill_Int st rfl ?_
  refine sp_fill_Text st rfl ?_
  have st : St w0 ((b, bookC n t0 t1 t2) :: (cs1 ++ (cs0 ++ (cs2 ++ l)))) w := st.perm (perm_of_sum fun f_ => by simp only [List.map_append, List.map_cons, List.map_nil, List.sum_append, List.sum_cons, List.sum_nil, List.append_nil]; omega)
  refine sp_fill_Write ht o1 st rfl (by omega) fun its1 cs1 w o1 hl1 st => ?_
  have hm1 : its1.length ≤ 2000000 := by omega
  have st : St w0 ((b, bookC n t0 t1 t2) :: (cs0 ++ (cs1 ++ (cs2 ++ l)))) w := st.perm (perm_of_sum fun f_ => by simp only [List.map_append, List.map_cons, List.map_nil, List.sum_append, List.sum_cons, List.sum_nil, List.append_nil]; omega)
  refine sp_fill_Entry st rfl ?_
  refine sp_fill_Version st rfl ?_
  have st : St w0 ((b, bookC n t0 t1 t2) :: (cs2 ++ (cs0 ++ (cs1 ++ l)))) w := st.perm (perm_of_sum fun f_ => by simp only [List.map_append, List.map_cons, List.map_nil, List.sum_append, List.sum_cons, List.sum_nil, List.append_nil]; omega)
  refine sp_fill_Txn ht o2 st rfl (by omega) fun its2 cs2 w o2 hl2 st => ?_
  have hm2 : its2.length ≤ 2000000 := by omega
  have st : St w0 ((b, bookC n t0 t1 t2) :: (cs0 ++ (cs1 ++ (cs2 ++ l)))) w := st.perm (perm_of_sum fun f_ => by simp only [List.map_append, List.map_cons, List.map_nil, List.sum_append, List.sum_cons, List.sum_nil, List.append_nil]; omega)
  refine sp_fill_Held st rfl ?_
  refine sp_fill_HeldList st rfl ?_
  refine sp_fill_Event st rfl ?_
  refine sp_fill_Answer st rfl ?_
  refine sp_grow_Byte ht o0 st rfl (by omega) fun its0 cs0 w o0 hl0 st => ?_
  have hm0 : its0.length ≤ 2000000 := by omega
  refine sp_grow_Int st rfl ?_
  refine sp_grow_Text st rfl ?_
  have st : St w0 ((b, bookC n t0 t1 t2) :: (cs1 ++ (cs0 ++ (cs2 ++ l)))) w := st.perm (perm_of_sum fun f_ => by simp only [List.map_append, List.map_cons, List.map_nil, List.sum_append, List.sum_cons, List.sum_nil, List.append_nil]; omega)
  refine sp_grow_Write ht o1 st rfl (by omega) fun its1 cs1 w o1 hl1 st => ?_
  have hm1 : its1.length ≤ 2000000 := by omega
  have st : St w0 ((b, bookC n t0 t1 t2) :: (cs0 ++ (cs1 ++ (cs2 ++ l)))) w := st.perm (perm_of_sum fun f_ => by simp only [List.map_append, List.map_cons, List.map_nil, List.sum_append, List.sum_cons, List.sum_nil, List.append_nil]; omega)
  refine sp_grow_Entry st rfl ?_
  refine sp_grow_Version st rfl ?_
  have st : St w0 ((b, bookC n t0 t1 t2) :: (cs2 ++ (cs0 ++ (cs1 ++ l)))) w := st.perm (perm_of_sum fun f_ => by simp only [List.map_append, List.map_cons, List.map_nil, List.sum_append, List.sum_cons, List.sum_nil, List.append_nil]; omega)
  refine sp_grow_Txn ht o2 st rfl (by omega) fun its2 cs2 w o2 hl2 st => ?_
  have hm2 : its2.length ≤ 2000000 := by omega
  have st : St w0 ((b, bookC n t0 t1 t2) :: (cs0 ++ (cs1 ++ (cs2 ++ l)))) w := st.perm (perm_of_sum fun f_ => by simp only [List.map_append, List.map_cons, List.map_nil, List.sum_append, List.sum_cons, List.sum_nil, List.append_nil]; omega)
  refine sp_grow_Held st rfl ?_
  refine sp_grow_HeldList st rfl ?_
  refine sp_grow_Event st rfl ?_
  refine sp_grow_Answer st rfl ?_
  refine sp_look_Byte ht o0 st rfl (by omega) fun w st => ?_
  refine ⟨fun _ => ?_, fun h => (by cases h)⟩
  refine sp_look_Int st rfl ?_
  refine ⟨fun _ => ?_, fun h => (by cases h)⟩
  refine sp_look_Text st rfl ?_
  refine ⟨fun _ => ?_, fun h => (by cases h)⟩
  have st : St w0 ((b, bookC n t0 t1 t2) :: (cs1 ++ (cs0 ++ (cs2 ++ l)))) w := st.perm (perm_of_sum fun f_ => by simp only [List.map_append, List.map_cons, List.map_nil, List.sum_append, List.sum_cons, List.sum_nil, List.append_nil]; omega)
  refine sp_look_Write ht o1 st rfl (by omega) fun w st => ?_
  have st : St w0 ((b, bookC n t0 t1 t2) :: (cs0 ++ (cs1 ++ (cs2 ++ l)))) w := st.perm (perm_of_sum fun f_ => by simp only [List.map_append, List.map_cons, List.map_nil, List.sum_append, List.sum_cons, List.sum_nil, List.append_nil]; omega)
  refine ⟨fun _ => ?_, fun h => (by cases h)⟩
  refine sp_look_Entry st rfl ?_
  refine ⟨fun _ => ?_, fun h => (by cases h)⟩
  refine sp_look_Version st rfl ?_
  refine ⟨fun _ => ?_, fun h => (by cases h)⟩
  have st : St w0 ((b, bookC n t0 t1 t2) :: (cs2 ++ (cs0 ++ (cs1 ++ l)))) w := st.perm (perm_of_sum fun f_ => by simp only [List.map_append, List.map_cons, List.map_nil, List.sum_append, List.sum_cons, List.sum_nil, List.append_nil]; omega)
  refine sp_look_Txn ht o2 st rfl (by omega) fun w st => ?_
  have st : St w0 ((b, bookC n t0 t1 t2) :: (cs0 ++ (cs1 ++ (cs2 ++ l)))) w := st.perm (perm_of_sum fun f_ => by simp only [List.map_append, List.map_cons, List.map_nil, List.sum_append, List.sum_cons, List.sum_nil, List.append_nil]; omega)
  refine ⟨fun _ => ?_, fun h => (by cases h)⟩
  refine sp_look_Held st rfl ?_
  refine ⟨fun _ => ?_, fun h => (by cases h)⟩
  refine sp_look_HeldList st rfl ?_
  refine ⟨fun _ => ?_, fun h => (by cases h)⟩
  refine sp_look_Event st rfl ?_
  refine ⟨fun _ => ?_, fun h => (by cases h)⟩
  refine sp_look_Answer st rfl ?_
  exact k _ _ _ _ st
end Go.Proofs.YtpdegdnigcnjiaaGreatDoor

namespace Go.Proofs.YtpdegdnigcnjiaaGreatDoor
open Go
set_option linter.unusedVariables false
set_option linter.unusedSimpArgs false

theorem sp_Book_Txn1 {w0 : Base} {w : World} {l sc cs : List Chunk} {C : List Value} {b : Nat} {n m : Int} {t s : Slc} {its : List Item} {xs : List Value} {R : World → Prop} (o : KindO t its Kept_Write cs) (r : RowC 3 s xs sc) (st : St w0 ((b, C) :: (cs ++ (sc ++ l))) w) (hC0 : C[0]? = some (iV n)) (hCt : C[4]? = some (slV t)) (hn : 0 ≤ n ∧ n ≤ 2000000) (hl : its.length ≤ 2000000) (hs : s.len ≤ 1099511627776)
    (k : ∀ t' its' cs' w', KindO t' its' Kept_Write cs' → its'.length = its.length + 1 → St w0 ((b, (C.set 0 (iV (n + 1))).set 4 (slV t')) :: (cs' ++ l)) w' → R w') : C_towpathlaw01_Book_Txn (some ⟨b, 0, none⟩) ⟨m, s⟩ w R := by
  apply S_towpathlaw01_Book_Txn
  unfold F_towpathlaw01_Book_Txn
  intro b5 w19 hb5 hw19
  have st19 := st.alloc (cs := txW m s) hb5 hw19
  exact ⟨s, st19.cell 0 rfl rfl, sp_KINDs_Write o r st19.drop1 hC0 hCt hn hl hs k⟩

theorem sp_Book_Txns {w0 : Base} {w : World} {l tb wb cs1 cs2 : List Chunk} {b : Nat} {n : Int} {sl t0 t1 t2 : Slc} {ts : List Tx} {sls : List Slc} {its1 its2 : List Item} {R : World → Prop} (o1 : KindO t1 its1 Kept_Write cs1) (o2 : KindO t2 its2 Kept_Txn cs2) (o : TwL sl ts sls tb wb)
    (st : St w0 ((b, bookC n t0 t1 t2) :: (cs1 ++ (cs2 ++ (tb ++ (wb ++ l))))) w) (hn : 0 ≤ n ∧ n + ts.length ≤ 1999999) (h1 : its1.length + ts.length ≤ 1999999) (h2 : its2.length ≤ 2000000) (hb : ∀ t ∈ ts, t.2.length ≤ 1099511627776)
    (k : ∀ t1' its1' cs1' t2' its2' cs2' w', KindO t1' its1' Kept_Write cs1' → its1'.length = its1.length + ts.length → KindO t2' its2' Kept_Txn cs2' → its2'.length = its2.length + 1 → St w0 ((b, bookC (n + ts.length + 1) t0 t1' t2') :: (cs1' ++ (cs2' ++ l))) w' → R w') : C_towpathlaw01_Book_Txns (some ⟨b, 0, none⟩) sl w R := by
  apply S_towpathlaw01_Book_Txns
  have r := o.row
  have ps := o.parts
  have hll := ps.len
  have hsl : sl.len = ts.length := by have := r.len; rw [rowT_len hll] at this; omega
  refine ⟨fun i w' => ∃ (p : Nat) (t1 : Slc) (its1' : List Item) (cs1 wb : List Chunk), i = (p : Int) ∧ p ≤ sl.len ∧ KindO t1 its1' Kept_Write cs1 ∧ its1'.length = its1.length + p ∧ Parts InT (ts.drop p) (sls.drop p) wb ∧ St w0 ((b, bookC (n + p) t0 t1 t2) :: (cs1 ++ (cs2 ++ (tb ++ (wb ++ l))))) w', fun i _ => sl.len - i.toNat, ⟨0, t1, its1, cs1, wb, rfl, by omega, o1, rfl, by simpa using ps, by simpa using st⟩, ?_⟩
  clear st o1 ps
  rintro i w1 ⟨p, t1, its1', cs1, wb, rfl, hp, o1, hl1, ps, st⟩
  unfold F_towpathlaw01_Book_Txns_L0
  refine ⟨fun hi => ?_, fun hi => ?_⟩
  · have hi := of_decide_eq_true hi
    have hpl : p < ts.length := by omega
    have st' : St w0 (tb ++ ((b, bookC (n + p) t0 t1 t2) :: (cs1 ++ (cs2 ++ (wb ++ l))))) w1 := st.perm (perm_of_sum fun f_ => by simp only [List.map_append, List.map_cons, List.map_nil, List.sum_append, List.sum_cons, List.sum_nil, List.append_nil]; omega)
    obtain ⟨a, x, hx, hc⟩ := SrcAt.getN (r.src st') (fun _ => rfl) (by decide) (i := (p : Int)) (by omega) (by omega)
    rw [Int.toNat_natCast] at hx hc
    obtain ⟨hx1, hx2⟩ := List.getElem?_zip_eq_some.1 hx
    obtain ⟨g1, g1'⟩ := List.getElem?_eq_some_iff.1 hx1
    obtain ⟨g2, g2'⟩ := List.getElem?_eq_some_iff.1 hx2
    rw [List.drop_eq_getElem_cons g1, List.drop_eq_getElem_cons g2, g1', g2'] at ps
    obtain ⟨c, wb', rfl, hi2, ps⟩ := ps.cons
    have wp : IntKind.i64.wrap ((p : Int) + 1) = ((p + 1 : Nat) : Int) := by rw [i64_in _ (by omega) (by omega)]; omega
    have hsm := hb _ (List.mem_of_getElem? hx1)
    have htw := TwW.len hi2
    refine ⟨a, by omega, hi, ⟨x.1.1, x.2⟩, by rw [Int.toNat_natCast]; exact hc, ?_⟩
    have st2 : St w0 ((b, bookC (n + p) t0 t1 t2) :: (cs1 ++ (c ++ (cs2 ++ (tb ++ (wb' ++ l)))))) w1 := st.perm (perm_of_sum fun f_ => by simp only [List.map_append, List.map_cons, List.map_nil, List.sum_append, List.sum_cons, List.sum_nil, List.append_nil]; omega)
    refine sp_Book_Txn1 o1 hi2.row st2 rfl rfl (by omega) (by omega) (by omega) fun t1' its1'' cs1' w2 o1' hl1' st3 => ?_
    have st3 : St w0 ((b, bookC (n + p + 1) t0 t1' t2) :: (cs1' ++ (cs2 ++ (tb ++ (wb' ++ l))))) w2 := st3
    rw [wp]
    have e : n + ((p + 1 : Nat) : Int) = n + p + 1 := by omega
    exact ⟨⟨p + 1, t1', its1'', cs1', wb', rfl, by omega, o1', by omega, ps, by rw [e]; exact st3⟩, by show _ - _ < _ - _; omega⟩
  · have hi := of_decide_eq_false hi
    obtain rfl : p = ts.length := by omega
    rw [List.drop_length, List.drop_of_length_le (by omega)] at ps
    obtain rfl : wb = [] := ps
    have st2 : St w0 ((b, bookC (n + ts.length) t0 t1 t2) :: (cs2 ++ (tb ++ (cs1 ++ l)))) w1 := st.perm (perm_of_sum fun f_ => by simp only [List.map_append, List.map_cons, List.map_nil, List.sum_append, List.sum_cons, List.sum_nil, List.append_nil]; omega)
    refine sp_keep_Txn o2 r st2 rfl rfl (by omega) h2 (by omega) fun t2' its2' cs2' w2 o2' hl2 st3 => ?_
    have st3 : St w0 ((b, bookC (n + ts.length + 1) t0 t1 t2') :: (cs2' ++ (cs1 ++ l))) w2 := st3
    exact k t1 its1' cs1 t2' its2' cs2' w2 o1 hl1 o2' hl2 (st3.perm (perm_of_sum fun f_ => by simp only [List.map_append, List.map_cons, List.map_nil, List.sum_append, List.sum_cons, List.sum_nil, List.append_nil]; omega))
end Go.Proofs.YtpdegdnigcnjiaaGreatDoor

namespace Go.Proofs.YtpdegdnigcnjiaaGreatDoor
open Go
set_option linter.unusedVariables false
set_option linter.unusedSimpArgs false

section
variable {w0 : Base} {w : World} {fr : List Chunk}
/-- What Encode hands back, of one's own. -/
def LEncO (ts : List Tx) (s : Slc) (e : Int) (rb : List Chunk) : Prop := ∃ xs : List UInt8, RowC 1 s (xs.map bV) rb ∧ xs.length ≤ 36020 * 65536 ∧ xs = (if chkL 1 ts = 0 then encL ts else []) ∧ e = chkL 1 ts
theorem encL_most {ts : List Tx} (h : chkL 1 ts = 0) : (encL ts).length ≤ 36020 * 65536 := by
  have h1 := encL_len (chkL_all h)
  have h2 := chkL_len h
  omega
theorem sp_lf_EncodeO {sl : Slc} {ts : List Tx} {sls : List Slc} {R : Slc → Int → World → Prop} (st : St w0 fr w) (hs : ∀ l w', St w0 (l ++ fr) w' → LAt w' sl ts sls) (hl : sl.len ≤ 4398046511104)
    (k : ∀ s e rb w', LEncO ts s e rb → St w0 (rb ++ fr) w' → R s e w') : C_logfile_Encode sl w R := by
  refine sp_lf_Encode st hs hl (fun h w' st' => ?_) fun h s rb w' ro st' hsl => ?_
  · exact k _ _ [] w' ⟨[], RowC.nil, by simp, by rw [if_neg h], rfl⟩ st'
  · exact k _ _ rb w' ⟨_, ro, encL_most h, by rw [if_pos h], h.symm⟩ st'
theorem sp_ref06_EncodeO {sl : Slc} {ts : List Tx} {sls : List Slc} {R : Slc → Int → World → Prop} (st : St w0 fr w) (hs : ∀ l w', St w0 (l ++ fr) w' → LAt w' sl ts sls) (hl : sl.len ≤ 1099511627776)
    (k : ∀ s e rb w', LEncO ts s e rb → St w0 (rb ++ fr) w' → R s e w') : C_towpathref06_Encode sl w R := by
  refine sp_ref06_Encode st hs hl (fun h w' st' => ?_) fun h s rb w' ro st' => ?_
  · exact k _ _ [] w' ⟨[], RowC.nil, by simp, by rw [if_neg h], rfl⟩ st'
  · exact k _ _ rb w' ⟨_, ro, encL_most h, by rw [if_pos h], h.symm⟩ st'
end

theorem law_LogfileEncodes (x0 : Slc) (w : World) (h0 : OkSl w x0 2 32 (fun es => ∃ e_ : T_api_Txn, es = txW e_.Number e_.Writes ∧ (Ok_T_api_Txn w e_))) (hT : Tab w) : C_towpathlaw06_LogfileEncodes x0 w (fun b w' => b = true ∧ RowKit.Below w.heap.size w w') := by
  obtain ⟨ts, sls, ha, hl, hcp0, hsm⟩ := lat_inS h0
  have hsl := ha.slen
  apply S_towpathlaw06_LogfileEncodes
  unfold F_towpathlaw06_LogfileEncodes
  have st := St.start w
  refine sp_TxnsSizeX ha hl hsm fun v w2 e2 hv0 hv1 hv2 b w3 hb hw => ?_
  have st := (st.keep e2).alloc (cs := [iV v]) hb hw
  refine sp_BeyondS1 hb hw hv0 hv1 fun bb hbb => ⟨fun _ => ⟨rfl, st.below⟩, fun hbf => ?_⟩
  have hbf := hbb hbf
  have hsz := hv2 hbf
  have hts : ts.length ≤ 1048576 := by unfold szL at hsz; omega
  have hone : ∀ t ∈ ts, t.2.length ≤ 1099511627776 := fun t ht => by have := szW_one ht; omega
  have st : St ⟨w, []⟩ [] w3 := st.drop1
  refine sp_TwinTxns st ha (by omega) hone fun s sls1 tb wb w4 o st4 => ?_
  have hla : ∀ {x : List Chunk} (l : List Chunk) (w' : World), St ⟨w, []⟩ (l ++ (x ++ (tb ++ (wb ++ [])))) w' → LAt w' s ts sls1 := fun {x} l w' st' => by
    have st' : St ⟨w, []⟩ (tb ++ (wb ++ (l ++ x))) w' := st'.perm (perm_of_sum fun f_ => by simp only [List.map_append, List.map_cons, List.map_nil, List.sum_append, List.sum_cons, List.sum_nil, List.append_nil]; omega)
    exact o.lat hone st'
  have hsl1 := (hla (x := []) [] w4 st4).slen
  refine sp_lf_EncodeO st4 (hla (x := [])) (by omega) fun s1 e1 rb1 w5 o1 st5 => ?_
  refine sp_lf_EncodeO st5 (hla (x := rb1)) (by omega) fun s2 e2 rb2 w6 o2 st6 => ?_
  have st6 : St ⟨w, []⟩ ((rb2 ++ rb1) ++ (tb ++ (wb ++ []))) w6 := st6.perm (perm_of_sum fun f_ => by simp only [List.map_append, List.map_cons, List.map_nil, List.sum_append, List.sum_cons, List.sum_nil, List.append_nil]; omega)
  refine sp_ref06_EncodeO st6 (fun l w' st' => ha.ext st'.ext) (by omega) fun s3 e3 rb3 w7 o3 st7 => ?_
  have st7 : St ⟨w, []⟩ ((rb3 ++ (rb2 ++ rb1)) ++ (tb ++ (wb ++ []))) w7 := st7.perm (perm_of_sum fun f_ => by simp only [List.map_append, List.map_cons, List.map_nil, List.sum_append, List.sum_cons, List.sum_nil, List.append_nil]; omega)
  obtain ⟨xs1, r1, l1, q1, f1⟩ := o1
  obtain ⟨xs2, r2, l2, q2, f2⟩ := o2
  obtain ⟨xs3, r3, l3, q3, f3⟩ := o3
  have hx12 : xs1 = xs3 := by rw [q1, q3]
  have hx23 : xs2 = xs3 := by rw [q2, q3]
  subst hx12 hx23
  rw [f1, f2, f3]
  refine ⟨fun h => by simp at h, fun _ => ?_⟩
  refine sp_lf_Check (hla (x := rb3 ++ (rb2 ++ rb1)) [] w7 st7) (by omega) fun w8 e8 => ⟨fun h => by simp at h, fun _ => ?_⟩
  have st8 := st7.keep e8
  have src1 : ∀ {w'}, St ⟨w, []⟩ ((rb3 ++ (rb2 ++ rb1)) ++ (tb ++ (wb ++ []))) w' → SrcAt w' s1 1 (xs2.map bV) := fun {w'} st => by
    have st : St ⟨w, []⟩ (rb1 ++ (rb3 ++ (rb2 ++ (tb ++ (wb ++ []))))) w' := st.perm (perm_of_sum fun f_ => by simp only [List.map_append, List.map_cons, List.map_nil, List.sum_append, List.sum_cons, List.sum_nil, List.append_nil]; omega)
    exact r1.src st
  have src2 : ∀ {w'}, St ⟨w, []⟩ ((rb3 ++ (rb2 ++ rb1)) ++ (tb ++ (wb ++ []))) w' → SrcAt w' s2 1 (xs2.map bV) := fun {w'} st => by
    have st : St ⟨w, []⟩ (rb2 ++ (rb3 ++ (rb1 ++ (tb ++ (wb ++ []))))) w' := st.perm (perm_of_sum fun f_ => by simp only [List.map_append, List.map_cons, List.map_nil, List.sum_append, List.sum_cons, List.sum_nil, List.append_nil]; omega)
    exact r2.src st
  have src3 : ∀ {w'}, St ⟨w, []⟩ ((rb3 ++ (rb2 ++ rb1)) ++ (tb ++ (wb ++ []))) w' → SrcAt w' s3 1 (xs2.map bV) := fun {w'} st => by
    have st : St ⟨w, []⟩ (rb3 ++ (rb2 ++ (rb1 ++ (tb ++ (wb ++ []))))) w' := st.perm (perm_of_sum fun f_ => by simp only [List.map_append, List.map_cons, List.map_nil, List.sum_append, List.sum_cons, List.sum_nil, List.append_nil]; omega)
    exact r3.src st
  have hb1l := (src1 st8).len_eq
  have hb2l := (src2 st8).len_eq
  refine sp_SameBytes (src1 st8) (src3 st8) (by omega) fun w9 e9 => ?_
  rw [decide_eq_true (show xs2 = xs2 from rfl)]
  refine ⟨fun h => by simp at h, fun _ => ?_⟩
  have st9 := st8.keep e9
  refine sp_SameBytes (src2 st9) (src3 st9) (by omega) fun w10 e10 => ?_
  rw [decide_eq_true (show xs2 = xs2 from rfl)]
  refine ⟨fun h => by simp at h, fun _ => ?_⟩
  have st10 := st9.keep e10
  have st10b : St ⟨w, []⟩ (tb ++ (wb ++ (rb3 ++ (rb2 ++ rb1)))) w10 := st10.perm (perm_of_sum fun f_ => by simp only [List.map_append, List.map_cons, List.map_nil, List.sum_append, List.sum_cons, List.sum_nil, List.append_nil]; omega)
  refine sp_LeftTxns (o.at_ st10b) (ha.ext st10.ext) (by omega) hone fun w11 e11 => ?_
  have st11 := st10b.keep e11
  unfold F_towpathlaw06_LogfileEncodes_k0
  refine ⟨fun h => by simp at h, fun _ b4 w12 hb4 hw12 => ?_⟩
  have st12 : St ⟨w, []⟩ ((b4, bookC 0 ⟨none, 0, 0⟩ ⟨none, 0, 0⟩ ⟨none, 0, 0⟩) :: (tb ++ (wb ++ (rb3 ++ (rb2 ++ rb1))))) w12 := st11.alloc hb4 hw12
  refine ⟨st12.writable 0 rfl (by decide), fun w13 hw13 => ?_⟩
  have st13 : St ⟨w, []⟩ ((b4, bookC 0 ⟨none, 0, 0⟩ ⟨none, 0, 0⟩ ⟨none, 0, 0⟩) :: (tb ++ (wb ++ (rb3 ++ (rb2 ++ rb1))))) w13 := st12.put0 hw13
  have st13 : St ⟨w, []⟩ ((b4, bookC 0 ⟨none, 0, 0⟩ ⟨none, 0, 0⟩ ⟨none, 0, 0⟩) :: ([] ++ ([] ++ (tb ++ (wb ++ (rb1 ++ rb2)))))) w13 := st13.weak rb3 (perm_of_sum fun f_ => by simp only [List.map_append, List.map_cons, List.map_nil, List.sum_append, List.sum_cons, List.sum_nil, List.append_nil]; omega)
  refine sp_Book_Txns kind_new kind_new o st13 (by omega) (by simp; omega) (by decide) hone fun t1 its1 cs1 t2 its2 cs2 w14 o1 hl1 o2 hl2 st14 => ?_
  have st14 : St ⟨w, []⟩ ((b4, bookC (0 + ts.length + 1) ⟨none, 0, 0⟩ t1 t2) :: ([] ++ (rb1 ++ (cs1 ++ (cs2 ++ rb2))))) w14 := st14.perm (perm_of_sum fun f_ => by simp only [List.map_append, List.map_cons, List.map_nil, List.sum_append, List.sum_cons, List.sum_nil, List.append_nil]; omega)
  refine sp_KINDs_Byte (kind_new (Ph := Kept_Byte)) (xs := xs2.map bV) r1 st14 rfl rfl ⟨by omega, by omega⟩ (by decide) (by omega) fun t3 its3 cs3 w15 o3 hl3 st15 => ?_
  have st15 : St ⟨w, []⟩ ((b4, bookC (0 + ts.length + 1 + 1) t3 t1 t2) :: (cs3 ++ (cs1 ++ (cs2 ++ rb2)))) w15 := st15
  have st15 : St ⟨w, []⟩ ((b4, bookC (0 + ts.length + 1 + 1) t3 t1 t2) :: (cs3 ++ (rb2 ++ (cs1 ++ (cs2 ++ []))))) w15 := st15.perm (perm_of_sum fun f_ => by simp only [List.map_append, List.map_cons, List.map_nil, List.sum_append, List.sum_cons, List.sum_nil, List.append_nil]; omega)
  refine sp_KINDs_Byte o3 (xs := xs2.map bV) r2 st15 rfl rfl ⟨by omega, by omega⟩ (by rw [hl3]; decide) (by omega) fun t4 its4 cs4 w16 o4 hl4 st16 => ?_
  have st16 : St ⟨w, []⟩ ((b4, bookC (0 + ts.length + 1 + 1 + 1) t4 t1 t2) :: (cs4 ++ (cs1 ++ (cs2 ++ [])))) w16 := st16
  exact sp_Apart hT o4 (by rw [hl4, hl3]; decide) o1 (by simp at hl1; omega) o2 (by rw [hl2]; decide) st16 fun _ _ _ w17 st17 => ⟨rfl, st17.below⟩
end Go.Proofs.YtpdegdnigcnjiaaGreatDoor

