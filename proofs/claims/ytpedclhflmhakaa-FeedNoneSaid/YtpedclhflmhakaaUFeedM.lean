/- Chapter 16: feeds: the model. -/
import Derived.Test.YtpedclhflmhakaaULogS
namespace Go.Proofs.Ytpedclhflmhakaa
open Go
set_option linter.unusedVariables false
set_option linter.unusedSimpArgs false

structure FdM where
  ts : List Tx
  m0 : Nat
  at_ : Nat
  fed : Nat
  win : Nat
  bey : List Int
  held : Option Tx
  closed : Bool
structure FdM.Ok (m : FdM) : Prop where
  chk : chkL 1 m.ts = 0
  ma : m.m0 ≤ m.at_
  af : m.at_ ≤ m.fed
  fl : m.fed ≤ m.ts.length
  win : m.win ≤ 64
  held : ∀ t, m.held = some t → m.m0 < m.at_ ∧ m.ts[m.at_ - 1]? = some t
theorem FdM.Ok.len {m : FdM} (h : m.Ok) : m.ts.length ≤ 65536 := chkL_len h.chk
/-- The number of the one that is held. -/
theorem FdM.Ok.num {m : FdM} (h : m.Ok) {t : Tx} (ht : m.held = some t) : t.1 = (m.at_ : Int) ∧ 1 ≤ m.at_ := by
  obtain ⟨a, b⟩ := h.held t ht
  obtain ⟨_, c⟩ := chkL_zero h.chk b
  exact ⟨by rw [c]; omega, by omega⟩
def askL (m : FdM) : List Int := (List.range (m.at_ - m.m0)).map fun i => ((m.m0 + 1 + i : Nat) : Int)
theorem askL_len (m : FdM) : (askL m).length = m.at_ - m.m0 := by unfold askL; simp
theorem askL_more {m : FdM} (h : m.m0 ≤ m.at_) (t : Option Tx) : askL { m with at_ := m.at_ + 1, held := t } = askL m ++ [((m.at_ + 1 : Nat) : Int)] := by
  show (List.range (m.at_ + 1 - m.m0)).map (fun i => ((m.m0 + 1 + i : Nat) : Int)) = (List.range (m.at_ - m.m0)).map (fun i => ((m.m0 + 1 + i : Nat) : Int)) ++ _
  rw [show m.at_ + 1 - m.m0 = (m.at_ - m.m0) + 1 from by omega, List.range_succ, List.map_append, List.map_cons, List.map_nil]
  rw [show m.m0 + 1 + (m.at_ - m.m0) = m.at_ + 1 from by omega]
abbrev nearP (m : FdM) (t : Tx) (mark : Int) : Prop := t.1 - (m.win : Int) ≤ mark
abbrev zeroT : Tx := (0, [])

def moreM (m : Option FdM) (last : Int) : Int × Option FdM :=
  match m with
  | none => (2, none)
  | some m => if m.closed then (12, some m) else if last < (m.fed : Int) ∨ last > ((m.ts.length : Nat) : Int) then (1, some m) else (0, some { m with fed := last.toNat })
def canM (m : Option FdM) (mark : Int) : Int :=
  match m with
  | none => 0
  | some m => match m.held with
    | none => if m.closed then 0 else if m.at_ < m.fed then 1 else 0
    | some t => if t.1 ∈ m.bey then 2 else if nearP m t mark then 3 else 0
def readM (m : Option FdM) : Int × Int × Option FdM :=
  match m with
  | none => (0, 2, none)
  | some m => match m.held with
    | some _ => (0, 10, some m)
    | none => if m.closed then (0, 12, some m) else if m.at_ < m.fed then (((m.at_ + 1 : Nat) : Int), 0, some { m with at_ := m.at_ + 1, held := m.ts[m.at_]? }) else (0, 9, some m)
def skipM (m : Option FdM) : Int × Int × Option FdM :=
  match m with
  | none => (0, 2, none)
  | some m => match m.held with
    | none => (0, 9, some m)
    | some t => if t.1 ∈ m.bey then (t.1, 0, some { m with held := none }) else (0, 6, some m)
def dispM (m : Option FdM) (mark : Int) : Tx × Int × Option FdM :=
  match m with
  | none => (zeroT, 2, none)
  | some m => match m.held with
    | none => (zeroT, 9, some m)
    | some t => if t.1 ∈ m.bey ∨ ¬ nearP m t mark then (zeroT, 6, some m) else (t, 0, some { m with held := none })
def heldM (m : Option FdM) : Int :=
  match m with
  | none => 0
  | some m => match m.held with
    | none => 0
    | some t => t.1
def fedM (m : Option FdM) : Int :=
  match m with
  | none => 0
  | some m => (m.fed : Int)
def closeM (m : Option FdM) : Option FdM :=
  match m with
  | none => none
  | some m => some { m with closed := true }

theorem FdM.Ok.more {m : FdM} (h : m.Ok) {n : Nat} (h1 : m.fed ≤ n) (h2 : n ≤ m.ts.length) : FdM.Ok { m with fed := n } := ⟨h.chk, h.ma, by show m.at_ ≤ n; have := h.af; omega, h2, h.win, h.held⟩
theorem FdM.Ok.drop {m : FdM} (h : m.Ok) : FdM.Ok { m with held := none } := ⟨h.chk, h.ma, h.af, h.fl, h.win, fun t ht => (by cases ht)⟩
theorem FdM.Ok.close {m : FdM} (h : m.Ok) : FdM.Ok { m with closed := true } := ⟨h.chk, h.ma, h.af, h.fl, h.win, h.held⟩
theorem FdM.Ok.read {m : FdM} (h : m.Ok) (h1 : m.at_ < m.fed) : FdM.Ok { m with at_ := m.at_ + 1, held := m.ts[m.at_]? } :=
  ⟨h.chk, by show m.m0 ≤ m.at_ + 1; have := h.ma; omega, h1, h.fl, h.win, fun t ht => ⟨by show m.m0 < m.at_ + 1; have := h.ma; omega, ht⟩⟩

/-! ### In memory -/
def MapOk (w0 : Base) (mb : Nat) (bey : List Int) : Prop := ∃ es c, (mb, es, c) ∈ w0.mp ∧ MapInt es ∧ ∀ n, mapHas es n = decide (n ∈ bey)
def HeldP (t : Option Tx) (hp : Option Addr) (hcs : List Chunk) : Prop :=
  match t with
  | none => hp = none ∧ hcs = []
  | some t => ∃ hb s rb, hp = some ⟨hb, 0, none⟩ ∧ hcs = (hb, txW t.1 s) :: rb ∧ RowC 3 s (t.2.flatMap wV) rb
abbrev fdV (s : Option Addr) (a f w : Int) (m : Option Nat) (h : Option Addr) (c : Bool) : List Value := [Value.pointer s, iV a, iV f, iV w, Value.map m, Value.pointer h, Value.bool c]
def FdS (w0 : Base) (sb : Nat) (m : FdM) (b : Nat) (cs : List Chunk) : Prop :=
  ∃ mb hp hcs scs, m.Ok ∧ cs = (b, fdV (some ⟨sb, 0, none⟩) m.at_ m.fed m.win (some mb) hp m.closed) :: (hcs ++ scs) ∧ MapOk w0 mb m.bey ∧ SrcO sb m.ts (askL m) scs ∧ HeldP m.held hp hcs
def FdO (w0 : Base) (sp : Option Addr) (m : Option FdM) (f : Option Addr) (cs : List Chunk) : Prop :=
  match m with
  | none => (f = none ∧ cs = []) ∨ ∃ b, f = some ⟨b, 0, none⟩ ∧ cs = [(b, fdV none 0 0 0 none none false)]
  | some m => ∃ b sb, f = some ⟨b, 0, none⟩ ∧ sp = some ⟨sb, 0, none⟩ ∧ FdS w0 sb m b cs
end Go.Proofs.Ytpedclhflmhakaa
