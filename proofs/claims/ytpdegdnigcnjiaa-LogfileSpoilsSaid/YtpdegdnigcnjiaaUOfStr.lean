/- The bytes of a text, in a row of one's own. -/
import Derived.Test.YtpdegdnigcnjiaaUOwn
namespace Go.Proofs.Ytpdegdnigcnjiaa
open Go
set_option linter.unusedVariables false
set_option linter.unusedSimpArgs false

theorem ofString_row {w0 : Base} {w w2 : World} {fr : List Chunk} {T : TypeId} {s : ByteArray} {sl : Slc} (st : St w0 fr w) (h : OfString T s w sl w2) :
    ∃ rb, RowC 1 sl (s.data.toList.map bV) rb ∧ sl.len = s.size ∧ St w0 (rb ++ fr) w2 := by
  obtain ⟨cap, w1, hc, rfl, hw1, hw2⟩ := h
  have hsz : s.data.toList.length = s.size := by simp
  have st1 : St w0 fr w.drew := st.keep (Qt.ext ⟨1, rfl⟩)
  have st2 : St w0 ((w.heap.size, strCells s ++ List.replicate (cap - s.size) (Value.int .u8 0)) :: fr) w1 := st1.alloc rfl hw1
  have hl : (strCells s ++ List.replicate (cap - s.size) (Value.int .u8 0)).length = cap := by
    rw [List.length_append, List.length_replicate]
    show (s.data.toList.map bV).length + _ = _
    rw [List.length_map, hsz]; omega
  have st3 := st2.freeze (w' := w2) (by rw [hl]; exact hw2)
  refine ⟨[(w.heap.size, strCells s ++ List.replicate (cap - s.size) (Value.int .u8 0))], .inr ⟨w.heap.size, [], List.replicate (cap - s.size) (Value.int .u8 0), [], rfl, ?_, ?_, ?_, hc⟩, rfl, st3⟩
  · simp; rfl
  · rw [List.length_map, hsz]; simp
  · rw [List.length_replicate]; simp [hsz]; try omega
end Go.Proofs.Ytpdegdnigcnjiaa
