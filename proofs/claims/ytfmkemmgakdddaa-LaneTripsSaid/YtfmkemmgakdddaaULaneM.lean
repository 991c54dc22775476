/- Chapter 14: lanes: the model. -/
import Derived.Test.YtfmkemmgakdddaaUWrK
import Derived.Test.YtfmkemmgakdddaaUConfK
namespace Go.Proofs.Ytfmkemmgakdddaa
open Go
set_option linter.unusedVariables false

/-! ### The writes that count -/
def keepW (x : Wr) (r : List Wr) : Bool := !(r.any fun y => decide (y.Key = x.Key))
def cntP : List Wr → Nat → List Wr
  | _, 0 => []
  | [], _ + 1 => []
  | x :: r, p + 1 => (if keepW x r = true then [x] else []) ++ cntP r p
theorem cntP_succ : ∀ {ws : List Wr} {p : Nat} {x : Wr}, ws[p]? = some x → cntP ws (p + 1) = cntP ws p ++ (if keepW x (ws.drop (p + 1)) = true then [x] else [])
  | [], p, x, h => by simp at h
  | y :: r, 0, x, h => by
    have : y = x := by simpa using h
    subst this
    show (if keepW y r = true then [y] else []) ++ cntP r 0 = [] ++ _
    cases r <;> simp [cntP]
  | y :: r, p + 1, x, h => by
    have h' : r[p]? = some x := by simpa using h
    show (if keepW y r = true then [y] else []) ++ cntP r (p + 1) = ((if keepW y r = true then [y] else []) ++ cntP r p) ++ _
    rw [cntP_succ h', List.append_assoc]; rfl
theorem cntP_zero (ws : List Wr) : cntP ws 0 = [] := by cases ws <;> rfl
def countW (ws : List Wr) : List Wr := cntP ws ws.length
theorem cntP_mem : ∀ {ws : List Wr} {p : Nat} {x : Wr}, x ∈ cntP ws p → x ∈ ws
  | [], 0, x, h => by cases h
  | [], p + 1, x, h => by cases h
  | y :: r, 0, x, h => by cases h
  | y :: r, p + 1, x, h => by
    have h : x ∈ (if keepW y r = true then [y] else []) ++ cntP r p := h
    rcases List.mem_append.1 h with h | h
    · split at h
      · have : x = y := by simpa using h
        subst this; exact List.mem_cons_self ..
      · cases h
    · exact List.mem_cons_of_mem _ (cntP_mem h)
theorem cntP_len : ∀ (ws : List Wr) (p : Nat), (cntP ws p).length ≤ p
  | [], 0 => Nat.le_refl _
  | [], p + 1 => Nat.zero_le _
  | y :: r, 0 => Nat.le_refl _
  | y :: r, p + 1 => by
    have := cntP_len r p
    show ((if keepW y r = true then [y] else []) ++ cntP r p).length ≤ p + 1
    rw [List.length_append]
    split
    · simp; omega
    · simp; omega

/-! ### The model -/
structure Hd where
  n : Int
  ws : List Wr
  sent : Nat
  acked : Nat
structure LnM where
  num : Int
  c : Cfg
  held : Option Hd
abbrev Ln := Option LnM
def takeM (m : Ln) (n : Int) (ws : List Wr) : Ln × Int := match m with
  | none => (none, 2)
  | some ⟨num, c, some h⟩ => (some ⟨num, c, some h⟩, 10)
  | some ⟨num, c, none⟩ => if okT n ws then (some ⟨num, c, some ⟨n, countW ws, 0, 0⟩⟩, 0) else (some ⟨num, c, none⟩, 1)
def zeroReq : T_api_Req := ⟨0, 0, 0, ⟨ByteArray.empty, ByteArray.empty, false⟩, ByteArray.empty, ByteArray.empty, ⟨none, 0, 0⟩⟩
def reqV (r : T_api_Req) : List Value := [Value.int .u8 r.Kind, Value.int .i64 r.From, Value.int .i64 r.Number, Value.string r.Write.Key, Value.string r.Write.Val, Value.bool r.Write.Drop, Value.string r.Key, Value.string r.End, Value.slice r.Beyond.ptr r.Beyond.len r.Beyond.cap]
def mkReq (num n : Int) (x : Wr) : T_api_Req := ⟨1, num, n, x, ByteArray.empty, ByteArray.empty, ⟨none, 0, 0⟩⟩
def nextM : Ln → Int × T_api_Req × Bool
  | some ⟨num, c, some h⟩ => match h.ws[h.sent]? with
    | some x => ((shardF c x.Key).1, mkReq num h.n x, true)
    | none => (0, zeroReq, false)
  | _ => (0, zeroReq, false)
def sentM : Ln → Ln × Int
  | none => (none, 2)
  | some ⟨num, c, some h⟩ => if h.sent < h.ws.length then (some ⟨num, c, some ⟨h.n, h.ws, h.sent + 1, h.acked⟩⟩, 0) else (some ⟨num, c, some h⟩, 9)
  | some ⟨num, c, none⟩ => (some ⟨num, c, none⟩, 9)
def ackedM : Ln → Ln × Int
  | none => (none, 2)
  | some ⟨num, c, some h⟩ => if h.acked < h.sent then (some ⟨num, c, some ⟨h.n, h.ws, h.sent, h.acked + 1⟩⟩, 0) else (some ⟨num, c, some h⟩, 9)
  | some ⟨num, c, none⟩ => (some ⟨num, c, none⟩, 9)
def readyM : Ln → Bool
  | some ⟨_, _, some h⟩ => decide (h.acked = h.ws.length)
  | _ => false
def doneM : Ln → Ln × Int × Int
  | none => (none, 0, 2)
  | some ⟨num, c, some h⟩ => if h.acked = h.ws.length then (some ⟨num, c, none⟩, h.n, 0) else (some ⟨num, c, some h⟩, 0, 10)
  | some ⟨num, c, none⟩ => (some ⟨num, c, none⟩, 0, 9)
def holdsM : Ln → Int
  | some ⟨_, _, some h⟩ => h.n
  | _ => 0
structure OkH (h : Hd) : Prop where
  s : h.sent ≤ h.ws.length
  a : h.acked ≤ h.sent
  n : 1 ≤ h.n
  l : h.ws.length ≤ 32
  k : ∀ x ∈ h.ws, x.Key.size ≤ 64
theorem okH_new {n : Int} {ws : List Wr} (h : okT n ws) : OkH ⟨n, countW ws, 0, 0⟩ := by
  have h1 := cntP_len ws ws.length
  have h2 := h.2.2.1
  exact ⟨Nat.zero_le _, Nat.le_refl _, h.1, by show (cntP ws ws.length).length ≤ 32; omega, fun x hx => (h.2.2.2 x (cntP_mem hx)).2.1⟩
end Go.Proofs.Ytfmkemmgakdddaa
