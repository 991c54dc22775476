/- Chapter 06: logs: the model. -/
import Derived.Test.YtfmkemmgakdddaaGreatDoorUWrK
namespace Go.Proofs.YtfmkemmgakdddaaGreatDoor
open Go
set_option linter.unusedVariables false
set_option linter.unusedSimpArgs false

abbrev txW (n : Int) (s : Slc) : List Value := [Value.int .i64 n, Value.slice s.ptr s.len s.cap]
abbrev Tx := Int × List Wr
def chkL : Nat → List Tx → Int
  | _, [] => 0
  | i, t :: r => if okT t.1 t.2 then (if t.1 = (i : Int) then chkL (i + 1) r else 6) else 1
theorem chkL_zero : ∀ {ts : List Tx} {i : Nat}, chkL i ts = 0 → ∀ {k : Nat} {t : Tx}, ts[k]? = some t → okT t.1 t.2 ∧ t.1 = ((i + k : Nat) : Int)
  | [], _, _, k, t, h => by simp at h
  | x :: r, i, hc, k, t, h => by
    unfold chkL at hc
    by_cases h1 : okT x.1 x.2
    · rw [if_pos h1] at hc
      by_cases h2 : x.1 = (i : Int)
      · rw [if_pos h2] at hc
        cases k with
        | zero => have : x = t := by simpa using h
                  subst this; exact ⟨h1, h2⟩
        | succ k =>
          have h' : r[k]? = some t := by simpa using h
          obtain ⟨a, b⟩ := chkL_zero hc h'
          exact ⟨a, by rw [b]; omega⟩
      · rw [if_neg h2] at hc; cases hc
    · rw [if_neg h1] at hc; cases hc
theorem chkL_nn : ∀ (ts : List Tx) (i : Nat), chkL i ts = 0 ∨ chkL i ts = 1 ∨ chkL i ts = 6
  | [], _ => .inl rfl
  | x :: r, i => by
    unfold chkL
    split
    · split
      · exact chkL_nn r (i + 1)
      · exact .inr (.inr rfl)
    · exact .inr (.inl rfl)

/-- A list of transactions, as it lies in memory. -/
structure LAt (w : World) (sl : Slc) (ts : List Tx) (sls : List Slc) : Prop where
  len : ts.length = sls.length
  src : SrcAt w sl 2 ((ts.zip sls).flatMap fun p => txW p.1.1 p.2)
  wr : ∀ (i : Nat) (t : Tx) (s : Slc), ts[i]? = some t → sls[i]? = some s → SrcAt w s 3 (t.2.flatMap wV)
  cp : ∀ s ∈ sls, s.len ≤ s.cap ∧ s.len * 40 ≤ 140737488351232
theorem LAt.ext {w w' : World} {sl : Slc} {ts : List Tx} {sls : List Slc} (h : LAt w sl ts sls) (e : Ext w w') : LAt w' sl ts sls :=
  ⟨h.len, e.src h.src, fun i t s h1 h2 => e.src (h.wr i t s h1 h2), h.cp⟩
theorem LAt.slen {w : World} {sl : Slc} {ts : List Tx} {sls : List Slc} (h : LAt w sl ts sls) : sl.len = ts.length := by
  have := h.src.1
  rw [flatMap_len (sz := 2) (fun _ => rfl), List.length_zip, ← h.len, Nat.min_self] at this
  omega
theorem LAt.get {w : World} {sl : Slc} {ts : List Tx} {sls : List Slc} (h : LAt w sl ts sls) {p : Nat} (hp : p < sl.len) :
    IsAt sl.ptr ∧ ∃ t s, ts[p]? = some t ∧ sls[p]? = some s ∧ CellsAt w (pblk sl.ptr) (poff sl.ptr + p * 2) (txW t.1 s) ∧ SrcAt w s 3 (t.2.flatMap wV) ∧ s.len ≤ s.cap ∧ s.len * 40 ≤ 140737488351232 := by
  obtain ⟨a, x, hx, hc⟩ := SrcAt.getN h.src (fun _ => rfl) (by decide) (i := (p : Int)) (by omega) (by omega)
  rw [Int.toNat_natCast] at hx hc
  have hl := h.slen
  have hll := h.len
  have h1 : ts[p]? = some (ts[p]'(by omega)) := List.getElem?_eq_getElem (by omega)
  have h2 : sls[p]? = some (sls[p]'(by omega)) := List.getElem?_eq_getElem (by omega)
  rw [List.getElem?_zip_eq_some (z := (ts[p]'(by omega), sls[p]'(by omega))) |>.2 ⟨h1, h2⟩] at hx
  cases hx
  have hm := h.cp _ (List.mem_of_getElem? h2)
  exact ⟨a, _, _, h1, h2, hc, h.wr p _ _ h1 h2, hm.1, hm.2⟩

end Go.Proofs.YtfmkemmgakdddaaGreatDoor
