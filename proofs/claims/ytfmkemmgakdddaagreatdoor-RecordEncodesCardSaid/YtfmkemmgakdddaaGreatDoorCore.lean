/- The engine's core: frames known by some slots, and rules that step through Go code by small closed checks. -/
import Derived.WalkKit
import Derived.BigQuiet
import Derived.Deep.Quiet
import Derived.SizedLaws
import Derived.StillTail
import Derived.OrdersHeld
import Derived.Laws.BytesString
import Derived.Below
import Derived.Lib.Overlaps
import Derived.MapKept
import Derived.OrdersIn
import Derived.RangeFuncRecord
import Derived.Lib.ConvBytes
namespace Go.Proofs.YtfmkemmgakdddaaGreatDoor
open Go
set_option linter.unusedSimpArgs false
set_option linter.unusedVariables false
set_option linter.unusedSectionVars false

/-! ### Numbers: Go's operations on bits -/
def band (k : IntKind) (x y : Int) : Int := k.wrap (BitVec.ofInt k.bits x &&& BitVec.ofInt k.bits y).toNat
def bor (k : IntKind) (x y : Int) : Int := k.wrap (BitVec.ofInt k.bits x ||| BitVec.ofInt k.bits y).toNat
def bxor (k : IntKind) (x y : Int) : Int := k.wrap (BitVec.ofInt k.bits x ^^^ BitVec.ofInt k.bits y).toNat
def bandnot (k : IntKind) (x y : Int) : Int := k.wrap (BitVec.ofInt k.bits x &&& ~~~ BitVec.ofInt k.bits y).toNat

/-! ### Frames known by some slots -/
abbrev Env := List (Nat × Value)

def Agrees (n : Nat) (t : Array Value) (l : Env) : Prop := t.size = n ∧ ∀ p ∈ l, t.getD p.1 undef = p.2

/-- What kind of frame is walked: a round's (ro), with these deferred calls (ds), by the fenced rules (y); a return may end it so (esc). -/
class Rnd where
  ro : Option Nat
  ds : List Deferred
  y : Bool
  esc : Act → World → Prop
instance rnd0 : Rnd := ⟨none, [], false, fun _ _ => False⟩
abbrev Rnd.F [r : Rnd] : Fence := { Fence.wide with round := r.ro }

section
variable [Rnd]
def CW (P : Program) (c : Code) (Q : Exit → Act → World → Prop) (a : Act) (w : World) : Prop :=
  match (Rnd.y : Bool) with
  | true => c.wpIn Rnd.F 0 P Q a w
  | false => c.wp P Q a w
section
variable {P : Program} {Q Q' : Exit → Act → World → Prop} {a : Act} {w : World} {c x y : Code} {id : Nat}
theorem cw_mono (h : CW P c Q a w) (hq : ∀ e a w, Q e a w → Q' e a w) : CW P c Q' a w := by
  unfold CW at h ⊢
  split at h
  · exact wpIn_mono h hq
  · exact wp_mono h hq
theorem cw_skip (h : Q .normal a w) : CW P .skip Q a w := by
  unfold CW; split
  · exact wpIn_skip h
  · exact wp_skip h
theorem cw_exit (h : Q (.exit id) a w) : CW P (.exit id) Q a w := by
  unfold CW; split
  · exact wpIn_exit h
  · exact wp_exit h
theorem cw_ret (h : Q .ret a w) : CW P .ret Q a w := by
  unfold CW; split
  · exact wpIn_ret h
  · exact wp_ret h
theorem cw_seq (h : CW P x (Exit.then (CW P y Q) Q) a w) : CW P (.seq x y) Q a w := by
  unfold CW at h ⊢
  split at h
  · rename_i hy
    refine wpIn_seq ?_
    simp only [hy] at h
    exact h
  · rename_i hy
    refine wp_seq ?_
    simp only [hy] at h
    exact h
theorem cw_block (h : CW P c (Exit.inBlock id Q) a w) : CW P (.block id c) Q a w := by
  unfold CW at h ⊢
  split at h
  · exact wpIn_block h
  · exact wp_block h
theorem cw_cond_split {o : Operand} {t : Bool} (hc : a.eval o = .bool t) (ht : t = true → CW P x Q a w) (hf : t = false → CW P y Q a w) : CW P (.cond o x y) Q a w := by
  unfold CW at ht hf ⊢
  split
  · rename_i hy
    simp only [hy] at ht hf
    exact wpIn_cond_split hc ht hf
  · rename_i hy
    simp only [hy] at ht hf
    exact wp_cond_split hc ht hf
theorem cw_loop (I : Act → World → Prop) (μ : Act → World → Nat) (h₀ : I a w)
    (round : ∀ a w, I a w → CW P c (Exit.then (fun a' w' => I a' w' ∧ μ a' w' < μ a w) Q) a w) : CW P (.loop c) Q a w := by
  unfold CW at round ⊢
  split
  · rename_i hy
    simp only [hy] at round
    exact wpIn_loop I μ h₀ round
  · rename_i hy
    simp only [hy] at round
    exact wp_loop I μ h₀ round
/-- The operations of a region, one after another. -/
def OpsR (P : Program) (ops : Array Oper) (Q : Exit → Act → World → Prop) (l : List Nat) (a : Act) (w : World) : Prop :=
  match (Rnd.y : Bool) with
  | true => wpOpsIn Rnd.F 0 P ops Q l a w
  | false => wpOps P ops Q l a w
theorem cw_region {ops : Array Oper} (h : OpsR P ops Q (List.range ops.size) a w) : CW P (.region id ops false) Q a w := by
  unfold OpsR at h
  unfold CW
  split at h
  · exact wpIn_region h
  · exact wp_region h
end

def EPost (n : Nat) (Q : Exit → Env → World → Prop) : Exit → Act → World → Prop :=
  fun e a w => (a.defers = Rnd.ds ∧ ∃ l, Agrees n a.tmps l ∧ Q e l w) ∨ (e = .ret ∧ Rnd.esc a w)

def WpE (P : Program) (n : Nat) (c : Code) (Q : Exit → Env → World → Prop) (l : Env) (w : World) : Prop :=
  ∀ t, Agrees n t l → CW P c (EPost n Q) ⟨t, Rnd.ds⟩ w

theorem EPost.act {n : Nat} {Q : Exit → Env → World → Prop} {e : Exit} {a : Act} {w : World} (h : EPost n Q e a w) :
    (∃ t l, a = ⟨t, Rnd.ds⟩ ∧ Agrees n t l ∧ Q e l w) ∨ (e = .ret ∧ Rnd.esc a w) := by
  rcases h with ⟨hd, l, h1, h2⟩ | h
  · obtain ⟨t, d⟩ := a
    simp only at hd
    subst hd
    exact .inl ⟨t, l, rfl, h1, h2⟩
  · exact .inr h

theorem EPost.mk {n : Nat} {Q : Exit → Env → World → Prop} {e : Exit} {t : Array Value} {w : World} {l : Env} (h : Agrees n t l) (hq : Q e l w) :
    EPost n Q e ⟨t, Rnd.ds⟩ w := .inl ⟨rfl, l, h, hq⟩

def efind : Env → Nat → Option Value
  | [], _ => none
  | (j, v) :: r, i => bif Nat.beq i j then some v else efind r i

theorem efind_mem : ∀ {l : Env} {i : Nat} {v : Value}, efind l i = some v → (i, v) ∈ l
  | (j, u) :: _, i, v, h => by
    unfold efind at h
    cases hb : Nat.beq i j with
    | true =>
      rw [hb] at h
      have : i = j := Nat.eq_of_beq_eq_true hb
      subst this
      simp only [cond_true, Option.some.injEq] at h
      subst h
      exact List.mem_cons_self ..
    | false =>
      rw [hb] at h
      simp only [cond_false] at h
      exact List.mem_cons_of_mem _ (efind_mem h)

/-- The check of a smaller environment. -/
def Sub (l l' : Env) : Prop := l'.map (fun p => efind l p.1) = l'.map (fun p => some p.2)

theorem Sub.mk {l l' : Env} (h : l'.map (fun p => efind l p.1) = l'.map (fun p => some p.2)) : Sub l l' := h

theorem Sub.agrees {n : Nat} {t : Array Value} {l l' : Env} (h : Sub l l') (ha : Agrees n t l) : Agrees n t l' := by
  refine ⟨ha.1, fun p hp => ?_⟩
  have : efind l p.1 = some p.2 := by
    have := List.map_inj_left.1 h p hp
    exact this
  exact ha.2 _ (efind_mem this)

theorem wpE_prune {P : Program} {n : Nat} {c : Code} {Q : Exit → Env → World → Prop} {l l' : Env} {w : World} (hs : Sub l l')
    (h : WpE P n c Q l' w) : WpE P n c Q l w := fun t ha => h t (hs.agrees ha)

theorem wpE_mono {P : Program} {n : Nat} {c : Code} {Q Q' : Exit → Env → World → Prop} {l : Env} {w : World} (hq : ∀ e l w, Q e l w → Q' e l w)
    (h : WpE P n c Q l w) : WpE P n c Q' l w := fun t ha =>
  cw_mono (h t ha) fun _ _ _ he => he.elim (fun ⟨h0, l, h1, h2⟩ => .inl ⟨h0, l, h1, hq _ _ _ h2⟩) .inr

/-! ### Structure -/
def Code.l : Code → Code
  | .seq a _ => a | .block _ a => a | .loop a => a | .scope a => a | .cond _ a _ => a | .rangeFunc _ _ a _ => a | _ => .skip
def Code.r : Code → Code
  | .seq _ b => b | .cond _ _ b => b | .rangeFunc _ _ _ b => b | _ => .skip
def Code.ops : Code → Array Oper
  | .region _ o _ => o | _ => #[]

def seqQ (P : Program) (n : Nat) (y : Code) (Q : Exit → Env → World → Prop) : Exit → Env → World → Prop
  | .normal, l, w => WpE P n y Q l w
  | e, l, w => Q e l w

theorem wpE_seq {P : Program} {n : Nat} {c x y : Code} {Q : Exit → Env → World → Prop} {l : Env} {w : World} (hc : c = .seq x y)
    (h : WpE P n x (seqQ P n y Q) l w) : WpE P n c Q l w := by
  subst hc
  intro t ha
  refine cw_seq (cw_mono (h t ha) fun e a w' he => ?_)
  rcases he.act with ⟨t', l', rfl, h1, h2⟩ | ⟨rfl, h1⟩
  · cases e with
    | normal => exact h2 t' h1
    | _ => exact EPost.mk h1 h2
  · exact .inr ⟨rfl, h1⟩

def cutQ (J : Env → World → Prop) (Q : Exit → Env → World → Prop) : Exit → Env → World → Prop
  | .normal, l, w => J l w
  | e, l, w => Q e l w

theorem wpE_seq_cut {P : Program} {n : Nat} {c x y : Code} {Q : Exit → Env → World → Prop} {l : Env} {w : World} (hc : c = .seq x y)
    (J : Env → World → Prop) (h : WpE P n x (cutQ (fun l w => ∃ l', Sub l l' ∧ J l' w) Q) l w) (hy : ∀ l w, J l w → WpE P n y Q l w) : WpE P n c Q l w :=
  wpE_seq hc (wpE_mono (fun e l w hq => by
    cases e with
    | normal => obtain ⟨l', hs, h'⟩ := hq; exact wpE_prune hs (hy _ _ h')
    | _ => exact hq) h)

theorem wpE_skip {P : Program} {n : Nat} {c : Code} {Q : Exit → Env → World → Prop} {l : Env} {w : World} (hc : c = .skip)
    (h : Q .normal l w) : WpE P n c Q l w := by
  subst hc; exact fun t ha => cw_skip (EPost.mk ha h)

theorem wpE_exit {P : Program} {n id : Nat} {c : Code} {Q : Exit → Env → World → Prop} {l : Env} {w : World} (hc : c = .exit id)
    (h : Q (.exit id) l w) : WpE P n c Q l w := by
  subst hc; exact fun t ha => cw_exit (EPost.mk ha h)

theorem wpE_ret {P : Program} {n : Nat} {c : Code} {Q : Exit → Env → World → Prop} {l : Env} {w : World} (hc : c = .ret)
    (h : Q .ret l w) : WpE P n c Q l w := by
  subst hc; exact fun t ha => cw_ret (EPost.mk ha h)

def blockQ (id : Nat) (Q : Exit → Env → World → Prop) : Exit → Env → World → Prop
  | .exit id', l, w => bif Nat.beq id' id then Q .normal l w else Q (.exit id') l w
  | e, l, w => Q e l w

theorem wpE_block {P : Program} {n id : Nat} {c x : Code} {Q : Exit → Env → World → Prop} {l : Env} {w : World} (hc : c = .block id x)
    (h : WpE P n x (blockQ id Q) l w) : WpE P n c Q l w := by
  subst hc
  intro t ha
  refine cw_block (cw_mono (h t ha) fun e a w' he => ?_)
  rcases he.act with ⟨t', l', rfl, h1, h2⟩ | ⟨rfl, h1⟩
  · cases e with
    | exit id' =>
      simp only [Exit.inBlock]
      simp only [blockQ] at h2
      by_cases hid : id' = id
      · subst hid
        rw [if_pos rfl]
        rw [show Nat.beq id' id' = true from by simp] at h2
        exact EPost.mk h1 h2
      · rw [if_neg hid]
        rw [show Nat.beq id' id = false from by
          cases hb : Nat.beq id' id with
          | true => exact absurd (Nat.eq_of_beq_eq_true hb) hid
          | false => rfl] at h2
        exact EPost.mk h1 h2
    | _ => exact EPost.mk h1 h2
  · exact .inr ⟨rfl, h1⟩

/-- A block whose normal end is cut: x is the block, y what follows. -/
theorem wpE_seq_block_cut {P : Program} {n id : Nat} {c b x y : Code} {Q : Exit → Env → World → Prop} {l : Env} {w : World} (hc : c = .seq b y) (hb : b = .block id x)
    (J : Env → World → Prop) (h : WpE P n x (blockQ id (cutQ (fun l w => ∃ l', Sub l l' ∧ J l' w) Q)) l w) (hy : ∀ l w, J l w → WpE P n y Q l w) : WpE P n c Q l w :=
  wpE_seq_cut hc J (wpE_block hb h) hy

def evalE (l : Env) : Operand → Option Value
  | .tmp s => efind l s
  | .const v => some v
  | .global g => some (.pointer (some ⟨g, 0, none⟩))
  | .func f => some (.func (.func f) #[] #[])

theorem evalE_eval {n : Nat} {t : Array Value} {l : Env} {ds : List Deferred} (ha : Agrees n t l) {x : Operand} {v : Value} (h : evalE l x = some v) : Act.eval ⟨t, ds⟩ x = v := by
  cases x with
  | tmp s => exact ha.2 (s, v) (efind_mem h)
  | const u => exact Option.some.inj h
  | global g => exact Option.some.inj h
  | func f => exact Option.some.inj h

theorem wpE_cond {P : Program} {n : Nat} {c x y : Code} {o : Operand} {b : Bool} {Q : Exit → Env → World → Prop} {l : Env} {w : World} (hc : c = .cond o x y)
    (hb : evalE l o = some (.bool b)) (ht : b = true → WpE P n x Q l w) (hf : b = false → WpE P n y Q l w) : WpE P n c Q l w := by
  subst hc
  exact fun t ha => cw_cond_split (evalE_eval ha hb) (fun h => ht h t ha) (fun h => hf h t ha)

/-- A loop: an invariant over environments, with a number that goes down. -/
def loopQ (IE : Nat → Env → World → Prop) (m : Nat) (Q : Exit → Env → World → Prop) : Exit → Env → World → Prop
  | .normal, l, w => ∃ m', m' < m ∧ ∃ l', Sub l l' ∧ IE m' l' w
  | e, l, w => Q e l w

theorem wpE_loop {P : Program} {n : Nat} {c x : Code} {Q : Exit → Env → World → Prop} {l : Env} {w : World} (hc : c = .loop x)
    (IE : Nat → Env → World → Prop) {m : Nat} {l' : Env} (hs : Sub l l') (h0 : IE m l' w)
    (round : ∀ m l w, IE m l w → WpE P n x (loopQ IE m Q) l w) : WpE P n c Q l w := by
  subst hc
  intro t ha
  have ha' := hs.agrees ha
  -- the measure: the least number for which the invariant holds
  have key : ∀ (a : Act) (w : World), (∃ m l, a.defers = Rnd.ds ∧ Agrees n a.tmps l ∧ IE m l w) → ∃ m, (∃ l, a.defers = Rnd.ds ∧ Agrees n a.tmps l ∧ IE m l w) ∧ ∀ k, k < m → ¬ ∃ l, a.defers = Rnd.ds ∧ Agrees n a.tmps l ∧ IE k l w := by
    intro a w hex
    classical
    obtain ⟨m, hm⟩ := hex
    induction m using Nat.strongRecOn with
    | _ m ih =>
      by_cases h : ∃ k, k < m ∧ ∃ l, a.defers = Rnd.ds ∧ Agrees n a.tmps l ∧ IE k l w
      · obtain ⟨k, hk, hl⟩ := h; exact ih k hk hl
      · exact ⟨m, hm, fun k hk hl => h ⟨k, hk, hl⟩⟩
  classical
  let μ : Act → World → Nat := fun a w => if h : ∃ m l, a.defers = Rnd.ds ∧ Agrees n a.tmps l ∧ IE m l w then Classical.choose (key a w h) else 0
  refine cw_loop (fun a w => ∃ m l, a.defers = Rnd.ds ∧ Agrees n a.tmps l ∧ IE m l w) μ ⟨m, l', rfl, ha', h0⟩ ?_
  intro a w hI
  have hspec := Classical.choose_spec (key a w hI)
  have hμ : μ a w = Classical.choose (key a w hI) := dif_pos hI
  rw [← hμ] at hspec
  obtain ⟨⟨l1, hd1, hag1, hIE1⟩, _⟩ := hspec
  obtain ⟨t1, d1⟩ := a
  simp only at hd1
  subst hd1
  refine cw_mono (round _ l1 w hIE1 t1 hag1) fun e a' w' he => ?_
  rcases he.act with ⟨t', l2, rfl, h1, h2⟩ | ⟨rfl, h1⟩
  rotate_left
  · exact .inr ⟨rfl, h1⟩
  cases e with
  | normal =>
    obtain ⟨m', hm', l3, hs3, hI3⟩ := h2
    have hex : ∃ m l, (⟨t', Rnd.ds⟩ : Act).defers = Rnd.ds ∧ Agrees n (⟨t', Rnd.ds⟩ : Act).tmps l ∧ IE m l w' := ⟨m', l3, rfl, hs3.agrees h1, hI3⟩
    refine ⟨hex, ?_⟩
    have hspec2 := Classical.choose_spec (key ⟨t', Rnd.ds⟩ w' hex)
    have hμ2 : μ ⟨t', Rnd.ds⟩ w' = Classical.choose (key ⟨t', Rnd.ds⟩ w' hex) := dif_pos hex
    rw [hμ2]
    refine Nat.lt_of_le_of_lt ?_ hm'
    rcases Nat.lt_or_ge m' (Classical.choose (key ⟨t', Rnd.ds⟩ w' hex)) with hlt | hge
    · exact absurd ⟨l3, rfl, hs3.agrees h1, hI3⟩ (hspec2.2 m' hlt)
    · exact hge
  | _ => exact EPost.mk h1 h2

theorem seqQ_ret {P : Program} {n : Nat} {y : Code} {Q : Exit → Env → World → Prop} {l : Env} {w : World} (h : Q .ret l w) : seqQ P n y Q .ret l w := h
theorem blockQ_ret {id : Nat} {Q : Exit → Env → World → Prop} {l : Env} {w : World} (h : Q .ret l w) : blockQ id Q .ret l w := h
theorem loopQ_ret {IE : Nat → Env → World → Prop} {m : Nat} {Q : Exit → Env → World → Prop} {l : Env} {w : World} (h : Q .ret l w) : loopQ IE m Q .ret l w := h
theorem cutQ_ret {J : Env → World → Prop} {Q : Exit → Env → World → Prop} {l : Env} {w : World} (h : Q .ret l w) : cutQ J Q .ret l w := h
theorem seqQ_exit {P : Program} {n : Nat} {y : Code} {Q : Exit → Env → World → Prop} {id : Nat} {l : Env} {w : World} (h : Q (.exit id) l w) : seqQ P n y Q (.exit id) l w := h
theorem loopQ_exit {IE : Nat → Env → World → Prop} {m : Nat} {Q : Exit → Env → World → Prop} {id : Nat} {l : Env} {w : World} (h : Q (.exit id) l w) : loopQ IE m Q (.exit id) l w := h
theorem cutQ_exit {J : Env → World → Prop} {Q : Exit → Env → World → Prop} {id : Nat} {l : Env} {w : World} (h : Q (.exit id) l w) : cutQ J Q (.exit id) l w := h
theorem blockQ_hit {id : Nat} {Q : Exit → Env → World → Prop} {l : Env} {w : World} (h : Q .normal l w) : blockQ id Q (.exit id) l w := by
  show bif Nat.beq id id then Q .normal l w else Q (.exit id) l w
  rw [show Nat.beq id id = true from by simp]
  exact h
theorem blockQ_miss {id id' : Nat} {Q : Exit → Env → World → Prop} {l : Env} {w : World} (hn : Nat.beq id' id = false) (h : Q (.exit id') l w) : blockQ id Q (.exit id') l w := by
  show bif Nat.beq id' id then Q .normal l w else Q (.exit id') l w
  rw [hn]
  exact h

/-! ### A function's call -/
def retQ (P : Program) (fn : Func) (R : Value → World → Prop) : Exit → Env → World → Prop
  | .ret, l, w | .normal, l, w => ∀ t, (∃ n, Agrees n t l) → ∃ v, (results fn t).run P w = .ok v w ∧ R v w
  | _, _, _ => False

def startEnv (args : List Value) : Env := args.zipIdx.map fun p => (p.2, p.1)

end
theorem calls_of_wpE {P : Program} {f : FuncId} {fn : Func} {c : Code} {args : List Value} {w : World} {R : Value → World → Prop}
    (hf : P.funcs[f]? = some fn) (hb : fn.body = some c) (n : Nat) (hn : fn.ntmps = n) (hsz : Nat.ble args.length n = true) (l : Env) (hl : startEnv args = l)
    (h : WpE P n c (retQ P fn R) l w) : Calls P f args.toArray w (fun e w' => ∃ v, e = .returned v ∧ R v w') := by
  refine calls_of_wp hf hb ?_
  have hsz' : args.length ≤ n := Nat.le_of_ble_eq_true hsz
  have hag : Agrees n (args.toArray ++ Array.replicate (fn.ntmps - args.toArray.size) undef) l := by
    subst hl
    refine ⟨by simp; omega, fun p hp => ?_⟩
    simp only [startEnv, List.mem_map] at hp
    obtain ⟨⟨v, i⟩, hm, rfl⟩ := hp
    have hi := List.mem_zipIdx_iff_getElem?.1 hm
    simp only at hi ⊢
    have hlt : i < args.length := (List.getElem?_eq_some_iff.1 hi).1
    rw [Array.getD_eq_getD_getElem?, Array.getElem?_append_left (by simpa using hlt)]
    simp [hi]
  refine wp_mono (h _ hag) fun e a w' he => ?_
  rcases he with ⟨hd, l', h1, h2⟩ | ⟨_, h1⟩
  rotate_left
  · exact h1.elim
  obtain ⟨t', d'⟩ := a
  have hd : d' = [] := hd
  subst hd
  cases e with
  | normal => obtain ⟨v, hv, hR⟩ := h2 t' ⟨n, h1⟩; exact ⟨rfl, v, hv, v, rfl, hR⟩
  | ret => obtain ⟨v, hv, hR⟩ := h2 t' ⟨n, h1⟩; exact ⟨rfl, v, hv, v, rfl, hR⟩
  | exit id => exact h2.elim
  | goto id => exact h2.elim
  | panic ch => exact h2.elim
  | outgrown => exact h2.elim

section
variable [Rnd]
/-! ### Inside a region -/
abbrev Gd := List (Nat × Bool)
abbrev GEnv := List (Nat × Gd × Value)

def gfind : GEnv → Nat → Option (Gd × Value)
  | [], _ => none
  | (j, x) :: r, i => bif Nat.beq i j then some x else gfind r i

def Holds (t : Array Value) (φ : Gd) : Prop := ∀ p ∈ φ, t.getD p.1 undef = .bool p.2

structure Inv (n : Nat) (t : Array Value) (ge : GEnv) : Prop where
  size : t.size = n
  ok : ∀ s φ v, gfind ge s = some (φ, v) → (Holds t φ → t.getD s undef = v) ∧ (¬ Holds t φ → t.getD s undef = undef)

def RegG (P : Program) (n : Nat) (ops : Array Oper) (Q : Exit → Act → World → Prop) (i : Nat) (ge : GEnv) (w : World) : Prop :=
  ∀ t, Inv n t ge → OpsR P ops Q (List.range' i (ops.size - i)) ⟨t, Rnd.ds⟩ w

def toG (l : Env) : GEnv := l.map fun p => (p.1, [], p.2)

theorem gfind_toG {l : Env} {s : Nat} {φ : Gd} {v : Value} : gfind (toG l) s = some (φ, v) → φ = [] ∧ efind l s = some v := by
  induction l with
  | nil => intro h; cases h
  | cons p l ih =>
    intro h
    simp only [toG, List.map_cons, gfind] at h
    unfold efind
    cases hb : Nat.beq s p.1 with
    | true =>
      rw [hb] at h
      simp only [cond_true, Option.some.injEq, Prod.mk.injEq] at h
      exact ⟨h.1.symm, by rw [← h.2]; rfl⟩
    | false =>
      rw [hb] at h
      exact ih h

theorem Agrees.inv {n : Nat} {t : Array Value} {l : Env} (ha : Agrees n t l) : Inv n t (toG l) := by
  refine ⟨ha.1, fun s φ v h => ?_⟩
  obtain ⟨rfl, h2⟩ := gfind_toG h
  have := ha.2 (s, v) (efind_mem h2)
  exact ⟨fun _ => this, fun hn => absurd (fun p hp => by cases hp) hn⟩

theorem wpE_region {P : Program} {n id : Nat} {c : Code} {ops : Array Oper} {Q : Exit → Env → World → Prop} {l : Env} {w : World} (hc : c = .region id ops false)
    (h : RegG P n ops (EPost n Q) 0 (toG l) w) : WpE P n c Q l w := by
  subst hc
  intro t ha
  refine cw_region ?_
  have := h t ha.inv
  rwa [List.range_eq_range']

/-- The region's end: what is known of its slots. -/
theorem reg_end {P : Program} {n i : Nat} {ops : Array Oper} {Q : Exit → Env → World → Prop} {ge : GEnv} {w : World} (l : Env) (hi : ops.size = i)
    (hl : l.map (fun p => gfind ge p.1) = l.map (fun p => some ([], p.2))) (h : Q .normal l w) : RegG P n ops (EPost n Q) i ge w := by
  intro t hinv
  subst hi
  rw [Nat.sub_self]
  have : EPost n Q .normal ⟨t, Rnd.ds⟩ w := EPost.mk ⟨hinv.size, fun p hp => by
    have := List.map_inj_left.1 hl p hp
    exact (hinv.ok _ _ _ this).1 (fun p hp => by cases hp)⟩ h
  unfold OpsR
  split <;> exact this

/-! #### Operations that neither read nor write memory -/
def plainVal (P : Program) {α : Type} : Sem α → Option α
  | .pure a => some a
  | .program k => plainVal P (k P)
  | .mark _ k => plainVal P k
  | _ => none

theorem plainVal_run {P : Program} {α : Type} (s : Sem α) {a : α} (h : plainVal P s = some a) (w : World) : s.run P w = .ok a w := by
  induction s with
  | pure b => simp only [plainVal, Option.some.injEq] at h; subst h; rfl
  | program k ih => exact ih P h
  | mark m k ih => exact ih h
  | _ => cases h

def avail (ge : GEnv) (φ : Gd) : Operand → Bool
  | .tmp s => match gfind ge s with
    | some (ψ, _) => ψ.all fun p => φ.any fun q => Nat.beq p.1 q.1 && (p.2 == q.2)
    | none => false
  | _ => true

def rho (ge : GEnv) : Operand → Value
  | .tmp s => match gfind ge s with
    | some (_, v) => v
    | none => undef
  | .const v => v
  | .global g => .pointer (some ⟨g, 0, none⟩)
  | .func f => .func (.func f) #[] #[]

theorem avail_eval {n : Nat} {t : Array Value} {ge : GEnv} {φ : Gd} (hinv : Inv n t ge) (hφ : Holds t φ) {x : Operand} (h : avail ge φ x = true) :
    Act.eval ⟨t, Rnd.ds⟩ x = rho ge x := by
  cases x with
  | tmp s =>
    simp only [avail] at h
    simp only [rho, Act.eval]
    cases hg : gfind ge s with
    | none => rw [hg] at h; cases h
    | some pv =>
      obtain ⟨ψ, v⟩ := pv
      rw [hg] at h
      refine (hinv.ok s ψ v hg).1 fun p hp => ?_
      have := List.all_eq_true.1 h p hp
      obtain ⟨q, hq, he⟩ := List.any_eq_true.1 this
      simp only [Bool.and_eq_true, beq_iff_eq] at he
      have h1 : p.1 = q.1 := Nat.eq_of_beq_eq_true he.1
      have h2 := he.2
      have := hφ q hq
      rw [h1, h2]; exact this
  | const u => rfl
  | global g => rfl
  | func f => rfl

def notSelect : Op → Bool
  | .select .. => false
  | .defer .. => false
  | _ => true

theorem notSelect_spec {o : Oper} (h : notSelect o.op = true) : ∀ cs b, o.op ≠ .select cs b := by
  intro cs b he
  rw [he] at h
  cases h
theorem notSelect_defer {o : Oper} (h : notSelect o.op = true) : ∀ c, o.op ≠ .defer c := by
  intro cs he
  rw [he] at h
  cases h
theorem value_defer {P : Program} {o : Oper} {ρ : Operand → Value} {w w' : World} {v : Value} (h : (execOp ρ o).run P w = .ok (.value v) w') : ∀ c, o.op ≠ .defer c := by
  intro c he
  unfold execOp at h
  rw [he] at h
  simp only [Sem.run_bind] at h
  cases hr : (resolve ρ c o.type).run P w with
  | ok d w1 => rw [hr] at h; simp [Result.andThen, Sem.run_pure] at h
  | halt x w1 => rw [hr] at h; simp [Result.andThen] at h

def freeOf (ge : GEnv) (d : Nat) : Bool := ge.all fun e => e.2.1.all fun p => !Nat.beq p.1 d

theorem freeOf_spec {ge : GEnv} {d : Nat} (h : freeOf ge d = true) {s : Nat} {φ : Gd} {v : Value} (hg : gfind ge s = some (φ, v)) : ∀ p ∈ φ, p.1 ≠ d := by
  induction ge with
  | nil => cases hg
  | cons e ge ih =>
    simp only [freeOf, List.all_cons, Bool.and_eq_true] at h
    obtain ⟨j, x⟩ := e
    simp only [gfind] at hg
    cases hb : Nat.beq s j with
    | true =>
      rw [hb] at hg
      simp only [cond_true, Option.some.injEq] at hg
      intro p hp hpd
      have h1 := h.1
      simp only [hg] at h1
      have := List.all_eq_true.1 h1 p hp
      subst hpd
      simp at this
    | false =>
      rw [hb] at hg
      exact ih h.2 hg

theorem Holds.put {t : Array Value} {φ : Gd} {d : Nat} {v : Value} (hd : ∀ p ∈ φ, p.1 ≠ d) : Holds (t.setIfInBounds d v) φ ↔ Holds t φ := by
  have : ∀ p ∈ φ, (t.setIfInBounds d v).getD p.1 undef = t.getD p.1 undef := fun p hp => by
    rw [Array.getD_eq_getD_getElem?, Array.getD_eq_getD_getElem?, Array.getElem?_setIfInBounds_ne (fun h => hd p hp h.symm)]
  exact ⟨fun h p hp => (this p hp) ▸ h p hp, fun h p hp => (this p hp).trans (h p hp)⟩

/-- One slot is written: its value is known under the guards φ, and is 'undef' where they fail. -/
theorem Inv.put {n : Nat} {t : Array Value} {ge : GEnv} {d : Nat} {φ : Gd} {v u : Value} (hinv : Inv n t ge) (hd : Nat.blt d n = true) (hf : freeOf ge d = true)
    (hφd : ∀ p ∈ φ, p.1 ≠ d) (h1 : Holds t φ → u = v) (h2 : ¬ Holds t φ → u = undef) : Inv n (t.setIfInBounds d u) ((d, φ, v) :: ge) := by
  have hlt : d < t.size := by rw [hinv.size]; simpa [Nat.blt_eq] using hd
  refine ⟨by simpa using hinv.size, fun s ψ x hg => ?_⟩
  simp only [gfind] at hg
  cases hb : Nat.beq s d with
  | true =>
    rw [hb] at hg
    have : s = d := Nat.eq_of_beq_eq_true hb
    subst this
    simp only [cond_true, Option.some.injEq, Prod.mk.injEq] at hg
    obtain ⟨rfl, rfl⟩ := hg
    have e : (t.setIfInBounds s u).getD s undef = u := by
      rw [Array.getD_eq_getD_getElem?, Array.getElem?_setIfInBounds_self_of_lt hlt]; rfl
    rw [e, Holds.put hφd]
    exact ⟨h1, h2⟩
  | false =>
    rw [hb] at hg
    simp only [cond_false] at hg
    have hne : s ≠ d := fun h => by rw [h] at hb; simp at hb
    have e : (t.setIfInBounds d u).getD s undef = t.getD s undef := by
      rw [Array.getD_eq_getD_getElem?, Array.getD_eq_getD_getElem?, Array.getElem?_setIfInBounds_ne (fun h => hne h.symm)]
    rw [e, Holds.put (freeOf_spec hf hg)]
    exact hinv.ok _ _ _ hg

def pickV (a b : Operand) (va vb : Value) : Value → Option Value
  | .bool x => match a, b with
    | .const (.bool true), _ => match vb with
      | .bool y => some (.bool (x || y))
      | _ => none
    | _, .const (.bool false) => match va with
      | .bool y => some (.bool (x && y))
      | _ => none
    | _, _ => none
  | _ => none

/-- The guards of an operation: those of the slot that it names, and that one. -/
def ogd (ops : Array Oper) (ge : GEnv) (o : Oper) : Option Gd :=
  match o.guard with
  | none => some []
  | some (j, want) => match (ops[j]?).bind (·.dst) with
    | none => none
    | some s => match gfind ge s with
      | none => none
      | some (ψ, _) => some ((s, want) :: ψ)

def isB (want : Bool) : Value → Bool
  | .bool c => c == want
  | _ => false

def isNo (want : Bool) : Value → Bool
  | .bool c => c == !want
  | .tuple _ => true
  | _ => false

/-- Is the guard of an operation known to say 'want' or not? -/
def gsure (ops : Array Oper) (ge : GEnv) (o : Oper) (yes : Bool) : Bool :=
  match o.guard with
  | none => yes
  | some (j, want) => match (ops[j]?).bind (·.dst) with
    | none => false
    | some s => match gfind ge s with
      | some ([], v) => bif yes then isB want v else isNo want v
      | some _ => false
      | none => false

def ogd2 (ops : Array Oper) (ge : GEnv) (o : Oper) : Option Gd := bif gsure ops ge o true then some [] else none

def plainOp (P : Program) (ge : GEnv) (o : Oper) : Option Value :=
  match plainVal P (execOp (rho ge) o) with
  | some (.value v) => some v
  | _ => none

inductive Mode where
  | plain | pick | sure | skip | spick

def stepP (P : Program) (n : Nat) (ops : Array Oper) (m : Mode) (i : Nat) (ge : GEnv) : Option GEnv :=
  match ops[i]? with
  | none => none
  | some o => match o.dst with
    | none => none
    | some d => bif Nat.blt d n && freeOf ge d then
        match m with
        | .skip => bif gsure ops ge o false then some ((d, [], undef) :: ge) else none
        | .sure => bif gsure ops ge o true && notSelect o.op && o.op.operands.toList.all (avail ge []) then
            match plainOp P ge o with
            | some v => some ((d, [], v) :: ge)
            | none => none
          else none
        | .plain => match ogd ops ge o with
          | none => none
          | some φ => bif φ.all (fun p => !Nat.beq p.1 d) && notSelect o.op && o.op.operands.toList.all (avail ge φ) then
              match plainOp P ge o with
              | some v => some ((d, φ, v) :: ge)
              | none => none
            else none
        | .pick => match o.op with
          | .pick (.tmp s) a b => match ogd ops ge o with
            | none => none
            | some φ => bif φ.all (fun p => !Nat.beq p.1 d) && avail ge φ (.tmp s) && avail ge ((s, true) :: φ) a && avail ge ((s, false) :: φ) b then
                match pickV a b (rho ge a) (rho ge b) (rho ge (.tmp s)) with
                | some v => some ((d, φ, v) :: ge)
                | none => none
              else none
          | _ => none
        | .spick => match o.op with
          | .pick (.tmp s) a b => match ogd2 ops ge o with
            | none => none
            | some φ => bif φ.all (fun p => !Nat.beq p.1 d) && avail ge φ (.tmp s) && avail ge ((s, true) :: φ) a && avail ge ((s, false) :: φ) b then
                match pickV a b (rho ge a) (rho ge b) (rho ge (.tmp s)) with
                | some v => some ((d, φ, v) :: ge)
                | none => none
              else none
          | _ => none
      else none

def stepsP (P : Program) (n : Nat) (ops : Array Oper) : List Mode → Nat → GEnv → Option GEnv
  | [], _, ge => some ge
  | m :: ms, i, ge => match stepP P n ops m i ge with
    | some ge' => stepsP P n ops ms (i + 1) ge'
    | none => none

theorem yielded_spec {ops : Array Oper} {t : Array Value} {j s : Nat} (hs : (ops[j]?).bind (·.dst) = some s) (b : Bool) :
    yielded ops t j = some b ↔ t.getD s undef = .bool b := by
  unfold yielded
  rw [hs]
  simp only [Option.bind_some, Array.getD_eq_getD_getElem?]
  cases h : t[s]? with
  | none => simp [undef]
  | some v => cases v <;> simp [undef]

theorem ogd_wanted {n : Nat} {ops : Array Oper} {t : Array Value} {ge : GEnv} (hinv : Inv n t ge) {o : Oper} {φ : Gd} (h : ogd ops ge o = some φ) :
    (Region.wanted o (yielded ops t) = true ↔ Holds t φ) := by
  unfold ogd at h
  unfold Region.wanted
  cases hg : o.guard with
  | none => rw [hg] at h; simp only [Option.some.injEq] at h; subst h; simp [Holds]
  | some jw =>
    obtain ⟨j, want⟩ := jw
    rw [hg] at h
    simp only at h ⊢
    cases hs : (ops[j]?).bind (·.dst) with
    | none => rw [hs] at h; cases h
    | some s =>
      rw [hs] at h
      simp only at h
      cases hf : gfind ge s with
      | none => rw [hf] at h; cases h
      | some pv =>
        obtain ⟨ψ, v⟩ := pv
        rw [hf] at h
        simp only [Option.some.injEq] at h
        subst h
        rw [beq_iff_eq, yielded_spec hs]
        constructor
        · intro hb p hp
          rcases List.mem_cons.1 hp with rfl | hp
          · exact hb
          · by_cases hh : Holds t ψ
            · exact hh p hp
            · have := (hinv.ok s ψ v hf).2 hh
              rw [this] at hb
              cases hb
        · intro hh
          exact hh (s, want) (List.mem_cons_self ..)

theorem gsure_wanted {n : Nat} {ops : Array Oper} {t : Array Value} {ge : GEnv} (hinv : Inv n t ge) {o : Oper} {yes : Bool} (h : gsure ops ge o yes = true) :
    Region.wanted o (yielded ops t) = yes := by
  unfold gsure at h
  unfold Region.wanted
  cases hg : o.guard with
  | none => rw [hg] at h; simp only at h ⊢; exact h.symm
  | some jw =>
    obtain ⟨j, want⟩ := jw
    rw [hg] at h
    simp only at h ⊢
    cases hs : (ops[j]?).bind (·.dst) with
    | none => rw [hs] at h; cases h
    | some s =>
      rw [hs] at h
      simp only at h
      cases hf : gfind ge s with
      | none => rw [hf] at h; cases h
      | some pv =>
        obtain ⟨ψ, v⟩ := pv
        rw [hf] at h
        cases ψ with
        | cons a b => simp only at h; cases h
        | nil =>
          simp only at h
          have hv := (hinv.ok s [] v hf).1 (fun p hp => by cases hp)
          cases yes with
          | true =>
            simp only [cond_true] at h
            cases v <;> simp only [isB] at h <;> try (cases h; done)
            rename_i c
            have hc := beq_iff_eq.1 h
            subst hc
            have hy := (yielded_spec hs _).2 hv
            rw [hy]
            simp
          | false =>
            simp only [cond_false] at h
            cases v <;> simp only [isNo] at h <;> try (cases h; done)
            · rename_i c
              have hc := beq_iff_eq.1 h
              subst hc
              have hy := (yielded_spec hs _).2 hv
              rw [hy]
              cases want <;> rfl
            · rename_i vs
              have hy : yielded ops t j ≠ some want := fun hy => by
                have := (yielded_spec hs _).1 hy
                rw [hv] at this
                cases this
              simpa using hy

theorem ogd2_wanted {n : Nat} {ops : Array Oper} {t : Array Value} {ge : GEnv} (hinv : Inv n t ge) {o : Oper} {φ : Gd} (h : ogd2 ops ge o = some φ) :
    (Region.wanted o (yielded ops t) = true ↔ Holds t φ) := by
  unfold ogd2 at h
  cases hg : gsure ops ge o true with
  | true =>
    rw [hg] at h
    simp only [cond_true, Option.some.injEq] at h
    subst h
    exact ⟨fun _ p hp => (by cases hp), fun _ => gsure_wanted hinv hg⟩
  | false => rw [hg] at h; cases h

theorem range'_step {i k : Nat} (h : i < k) : List.range' i (k - i) = i :: List.range' (i + 1) (k - (i + 1)) := by
  have : k - i = (k - (i + 1)) + 1 := by omega
  rw [this, List.range'_succ]

theorem getElem?_lt {ops : Array Oper} {i : Nat} {o : Oper} (h : ops[i]? = some o) : i < ops.size := by
  rcases Nat.lt_or_ge i ops.size with h' | h'
  · exact h'
  · rw [Array.getElem?_eq_none h'] at h; cases h

theorem wpOps_value {P : Program} {ops : Array Oper} {Q : Exit → Act → World → Prop} {i d : Nat} {o : Oper} {t : Array Value} {w w' : World} {v : Value} (ho : ops[i]? = some o)
    (hd : o.dst = some d) (hw : Region.wanted o (yielded ops t) = true) (hr : (execOp (Act.eval ⟨t, Rnd.ds⟩) o).run P w = .ok (.value v) w')
    (h : OpsR P ops Q (List.range' (i + 1) (ops.size - (i + 1))) ⟨t.setIfInBounds d v, Rnd.ds⟩ w') : OpsR P ops Q (List.range' i (ops.size - i)) ⟨t, Rnd.ds⟩ w := by
  rw [range'_step (getElem?_lt ho)]
  unfold OpsR at h ⊢
  split at h
  · simp only [wpOpsIn, ho]
    rw [if_pos hw]
    refine ⟨fun _ _ => trivial, ?_⟩
    rw [Oper.semAt_eq _ _ _ (value_defer hr), hr]
    show wpOpsIn _ 0 P ops Q _ (Act.put ⟨t, Rnd.ds⟩ o.dst v) w'
    rw [hd]
    exact h
  · simp only [wpOps, ho]
    rw [if_pos hw]
    refine .inl ?_
    unfold Oper.wp
    rw [hr]
    show wpOps P ops Q _ (Act.put ⟨t, Rnd.ds⟩ o.dst v) w'
    rw [hd]
    exact h

theorem wpOps_skipped {P : Program} {ops : Array Oper} {Q : Exit → Act → World → Prop} {i d : Nat} {o : Oper} {t : Array Value} {w : World} (ho : ops[i]? = some o)
    (hd : o.dst = some d) (hw : Region.wanted o (yielded ops t) = false)
    (h : OpsR P ops Q (List.range' (i + 1) (ops.size - (i + 1))) ⟨t.setIfInBounds d undef, Rnd.ds⟩ w) : OpsR P ops Q (List.range' i (ops.size - i)) ⟨t, Rnd.ds⟩ w := by
  rw [range'_step (getElem?_lt ho)]
  unfold OpsR at h ⊢
  split at h
  · simp only [wpOpsIn, ho]
    rw [hw, if_neg (by decide)]
    refine ⟨fun _ _ => trivial, ?_⟩
    show wpOpsIn _ 0 P ops Q _ (Act.put ⟨t, Rnd.ds⟩ o.dst undef) w
    rw [hd]
    exact h
  · simp only [wpOps, ho]
    rw [hw, if_neg (by decide)]
    show wpOps P ops Q _ (Act.put ⟨t, Rnd.ds⟩ o.dst undef) w
    rw [hd]
    exact h

theorem plainOp_run {P : Program} {ge : GEnv} {o : Oper} {v : Value} (h : plainOp P ge o = some v) (w : World) : (execOp (rho ge) o).run P w = .ok (.value v) w := by
  unfold plainOp at h
  split at h
  · rename_i u hu
    simp only [Option.some.injEq] at h
    subst h
    exact plainVal_run _ hu w
  · cases h

theorem exec_rho {n : Nat} {t : Array Value} {ge : GEnv} {φ : Gd} (hinv : Inv n t ge) (hφ : Holds t φ) {o : Oper} (hsel : notSelect o.op = true)
    (hav : o.op.operands.toList.all (avail ge φ) = true) : execOp (Act.eval ⟨t, Rnd.ds⟩) o = execOp (rho ge) o :=
  execOp_congr o (notSelect_spec hsel) fun x hx => avail_eval hinv hφ (List.all_eq_true.1 hav x (by simpa using hx))

theorem bif_some {c : Bool} {α : Type} {x : Option α} {y : α} (h : (bif c then x else none) = some y) : c = true ∧ x = some y := by
  cases c
  · cases h
  · exact ⟨rfl, h⟩

/-- One step: a value is put into its slot, or the operation is passed over. -/
structure StepLaw1 (P : Program) (ops : Array Oper) (i : Nat) (X X' : Array Value → Prop) (D : Nat → Prop) : Prop where
  value : ∀ {d : Nat} {o : Oper} {t : Array Value} {v : Value}, ops[i]? = some o → o.dst = some d → D d → Region.wanted o (yielded ops t) = true →
    (∀ w, (execOp (Act.eval ⟨t, Rnd.ds⟩) o).run P w = .ok (.value v) w) → X' (t.setIfInBounds d v) → X t
  skip : ∀ {d : Nat} {o : Oper} {t : Array Value}, ops[i]? = some o → o.dst = some d → D d → Region.wanted o (yielded ops t) = false →
    X' (t.setIfInBounds d undef) → X t

/-- What steps from operation to operation: a value is put into its slot, or the operation is passed over. -/
structure StepLaw (P : Program) (ops : Array Oper) (X : Nat → Array Value → Prop) : Prop where
  value : ∀ {i d : Nat} {o : Oper} {t : Array Value} {v : Value}, ops[i]? = some o → o.dst = some d → Region.wanted o (yielded ops t) = true →
    (∀ w, (execOp (Act.eval ⟨t, Rnd.ds⟩) o).run P w = .ok (.value v) w) → X (i + 1) (t.setIfInBounds d v) → X i t
  skip : ∀ {i d : Nat} {o : Oper} {t : Array Value}, ops[i]? = some o → o.dst = some d → Region.wanted o (yielded ops t) = false →
    X (i + 1) (t.setIfInBounds d undef) → X i t

theorem StepLaw.at {P : Program} {ops : Array Oper} {X : Nat → Array Value → Prop} (h : StepLaw P ops X) (i : Nat) (D : Nat → Prop) : StepLaw1 P ops i (X i) (X (i + 1)) D :=
  ⟨fun ho hd _ hw hr hx => h.value ho hd hw hr hx, fun ho hd _ hw hx => h.skip ho hd hw hx⟩

theorem lawG {P : Program} {ops : Array Oper} {Q : Exit → Act → World → Prop} {w : World} :
    StepLaw P ops (fun i t => OpsR P ops Q (List.range' i (ops.size - i)) ⟨t, Rnd.ds⟩ w) :=
  ⟨fun ho hd hw hr h => wpOps_value ho hd hw (hr w) h, fun ho hd hw h => wpOps_skipped ho hd hw h⟩

def RegX (X : Nat → Array Value → Prop) (n i : Nat) (ge : GEnv) : Prop := ∀ t, Inv n t ge → X i t

theorem stepP_sound1 {P : Program} {n : Nat} {ops : Array Oper} {i : Nat} {X X' : Array Value → Prop} (law : StepLaw1 P ops i X X' (fun d => d < n)) {m : Mode} {ge ge' : GEnv}
    (h : stepP P n ops m i ge = some ge') (hn : ∀ t, Inv n t ge' → X' t) : ∀ t, Inv n t ge → X t := by
  intro t hinv
  unfold stepP at h
  cases ho : ops[i]? with
  | none => rw [ho] at h; cases h
  | some o =>
    rw [ho] at h
    simp only at h
    cases hd : o.dst with
    | none => rw [hd] at h; cases h
    | some d =>
      rw [hd] at h
      simp only at h
      obtain ⟨hc, h⟩ := bif_some h
      simp only [Bool.and_eq_true] at hc
      obtain ⟨hdn, hfree⟩ := hc
      have hdl : d < n := by simpa [Nat.blt_eq] using hdn
      cases m with
      | skip =>
        simp only at h
        obtain ⟨hs, h⟩ := bif_some h
        simp only [Option.some.injEq] at h
        subst h
        exact law.skip ho hd hdl (gsure_wanted hinv hs) (hn _ (hinv.put hdn hfree (fun p hp => by cases hp) (fun _ => rfl) (fun hh => absurd (fun p hp => by cases hp) hh)))
      | sure =>
        simp only at h
        obtain ⟨hs, h⟩ := bif_some h
        simp only [Bool.and_eq_true] at hs
        cases hp : plainOp P ge o with
        | none => rw [hp] at h; cases h
        | some v =>
          rw [hp] at h
          simp only [Option.some.injEq] at h
          subst h
          have hH : Holds t [] := fun p hp => by cases hp
          refine law.value (v := v) ho hd hdl (gsure_wanted hinv hs.1.1) (fun w => ?_) (hn _ (hinv.put (v := v) (u := v) hdn hfree (fun p hp => by cases hp) (fun _ => rfl) (fun hh => absurd hH hh)))
          rw [exec_rho hinv hH hs.1.2 hs.2]
          exact plainOp_run hp w
      | plain =>
        simp only at h
        cases hφ : ogd ops ge o with
        | none => rw [hφ] at h; cases h
        | some φ =>
          rw [hφ] at h
          simp only at h
          obtain ⟨hs, h⟩ := bif_some h
          simp only [Bool.and_eq_true] at hs
          cases hp : plainOp P ge o with
          | none => rw [hp] at h; cases h
          | some v =>
            rw [hp] at h
            simp only [Option.some.injEq] at h
            subst h
            have hφd : ∀ p ∈ φ, p.1 ≠ d := fun p hp hpd => by
              have := List.all_eq_true.1 hs.1.1 p hp
              subst hpd
              simp at this
            have hw := ogd_wanted (ops := ops) hinv hφ
            by_cases hH : Holds t φ
            · refine law.value (v := v) ho hd hdl (hw.2 hH) (fun w => ?_) (hn _ (hinv.put (v := v) (u := v) hdn hfree hφd (fun _ => rfl) (fun hh => absurd hH hh)))
              rw [exec_rho hinv hH hs.1.2 hs.2]
              exact plainOp_run hp w
            · have hw' : Region.wanted o (yielded ops t) = false := by
                cases hb : Region.wanted o (yielded ops t) with
                | true => exact absurd (hw.1 hb) hH
                | false => rfl
              exact law.skip ho hd hdl hw' (hn _ (hinv.put hdn hfree hφd (fun hh => absurd hh hH) (fun _ => rfl)))
      | pick =>
        simp only at h
        split at h
        · rename_i s a b hop
          cases hφ : ogd ops ge o with
          | none => rw [hφ] at h; cases h
          | some φ =>
            rw [hφ] at h
            simp only at h
            obtain ⟨hs, h⟩ := bif_some h
            simp only [Bool.and_eq_true] at hs
            cases hp : pickV a b (rho ge a) (rho ge b) (rho ge (.tmp s)) with
            | none => rw [hp] at h; cases h
            | some v =>
              rw [hp] at h
              simp only [Option.some.injEq] at h
              subst h
              have hφd : ∀ p ∈ φ, p.1 ≠ d := fun p hp hpd => by
                have := List.all_eq_true.1 hs.1.1.1 p hp
                subst hpd
                simp at this
              have hw := ogd_wanted (ops := ops) hinv hφ
              by_cases hH : Holds t φ
              · refine law.value ho hd hdl (hw.2 hH) (v := v) (fun w => ?_) (hn _ (hinv.put (v := v) (u := v) hdn hfree hφd (fun _ => rfl) (fun hh => absurd hH hh)))
                have hcv := avail_eval hinv hH hs.1.1.2
                have hexec : execOp (Act.eval ⟨t, Rnd.ds⟩) o = (do pure (.value (if ← asBool (Act.eval ⟨t, Rnd.ds⟩ (.tmp s)) then Act.eval ⟨t, Rnd.ds⟩ a else Act.eval ⟨t, Rnd.ds⟩ b)) : Sem Next) := by
                  unfold execOp; rw [hop]
                rw [hexec, hcv]
                generalize hx : rho ge (.tmp s) = vc at hp hcv
                cases vc <;> simp only [pickV] at hp <;> try (cases hp; done)
                rename_i x
                have hev : Act.eval ⟨t, Rnd.ds⟩ (.tmp s) = .bool x := hcv
                have hHs : Holds t ((s, x) :: φ) := fun p hp => by
                  rcases List.mem_cons.1 hp with rfl | hp
                  · exact hev
                  · exact hH p hp
                have hA : x = true → Act.eval ⟨t, Rnd.ds⟩ a = rho ge a := fun hxt => by subst hxt; exact avail_eval hinv hHs hs.1.2
                have hB : x = false → Act.eval ⟨t, Rnd.ds⟩ b = rho ge b := fun hxt => by subst hxt; exact avail_eval hinv hHs hs.2
                have goal : (if x then Act.eval ⟨t, Rnd.ds⟩ a else Act.eval ⟨t, Rnd.ds⟩ b) = v := by
                  split at hp
                  · rename_i a' b' 
                    cases hvb : rho ge b with
                    | bool y =>
                      rw [hvb] at hp
                      simp only [Option.some.injEq] at hp
                      subst hp
                      cases x with
                      | true => rfl
                      | false => simp only [Bool.false_eq_true, if_false, Bool.false_or]; rw [hB rfl, hvb]
                    | _ => rw [hvb] at hp; cases hp
                  · cases hva : rho ge a with
                    | bool y =>
                      rw [hva] at hp
                      simp only [Option.some.injEq] at hp
                      subst hp
                      cases x with
                      | true => simp only [if_true, Bool.true_and]; rw [hA rfl, hva]
                      | false => rfl
                    | _ => rw [hva] at hp; cases hp
                  · cases hp
                rw [← goal]
                rfl
              · have hw' : Region.wanted o (yielded ops t) = false := by
                  cases hb : Region.wanted o (yielded ops t) with
                  | true => exact absurd (hw.1 hb) hH
                  | false => rfl
                exact law.skip ho hd hdl hw' (hn _ (hinv.put hdn hfree hφd (fun hh => absurd hh hH) (fun _ => rfl)))
        · cases h
      | spick =>
        simp only at h
        split at h
        · rename_i s a b hop
          cases hφ : ogd2 ops ge o with
          | none => rw [hφ] at h; cases h
          | some φ =>
            rw [hφ] at h
            simp only at h
            obtain ⟨hs, h⟩ := bif_some h
            simp only [Bool.and_eq_true] at hs
            cases hp : pickV a b (rho ge a) (rho ge b) (rho ge (.tmp s)) with
            | none => rw [hp] at h; cases h
            | some v =>
              rw [hp] at h
              simp only [Option.some.injEq] at h
              subst h
              have hφd : ∀ p ∈ φ, p.1 ≠ d := fun p hp hpd => by
                have := List.all_eq_true.1 hs.1.1.1 p hp
                subst hpd
                simp at this
              have hw := ogd2_wanted (ops := ops) hinv hφ
              by_cases hH : Holds t φ
              · refine law.value ho hd hdl (hw.2 hH) (v := v) (fun w => ?_) (hn _ (hinv.put (v := v) (u := v) hdn hfree hφd (fun _ => rfl) (fun hh => absurd hH hh)))
                have hcv := avail_eval hinv hH hs.1.1.2
                have hexec : execOp (Act.eval ⟨t, Rnd.ds⟩) o = (do pure (.value (if ← asBool (Act.eval ⟨t, Rnd.ds⟩ (.tmp s)) then Act.eval ⟨t, Rnd.ds⟩ a else Act.eval ⟨t, Rnd.ds⟩ b)) : Sem Next) := by
                  unfold execOp; rw [hop]
                rw [hexec, hcv]
                generalize hx : rho ge (.tmp s) = vc at hp hcv
                cases vc <;> simp only [pickV] at hp <;> try (cases hp; done)
                rename_i x
                have hev : Act.eval ⟨t, Rnd.ds⟩ (.tmp s) = .bool x := hcv
                have hHs : Holds t ((s, x) :: φ) := fun p hp => by
                  rcases List.mem_cons.1 hp with rfl | hp
                  · exact hev
                  · exact hH p hp
                have hA : x = true → Act.eval ⟨t, Rnd.ds⟩ a = rho ge a := fun hxt => by subst hxt; exact avail_eval hinv hHs hs.1.2
                have hB : x = false → Act.eval ⟨t, Rnd.ds⟩ b = rho ge b := fun hxt => by subst hxt; exact avail_eval hinv hHs hs.2
                have goal : (if x then Act.eval ⟨t, Rnd.ds⟩ a else Act.eval ⟨t, Rnd.ds⟩ b) = v := by
                  split at hp
                  · rename_i a' b' 
                    cases hvb : rho ge b with
                    | bool y =>
                      rw [hvb] at hp
                      simp only [Option.some.injEq] at hp
                      subst hp
                      cases x with
                      | true => rfl
                      | false => simp only [Bool.false_eq_true, if_false, Bool.false_or]; rw [hB rfl, hvb]
                    | _ => rw [hvb] at hp; cases hp
                  · cases hva : rho ge a with
                    | bool y =>
                      rw [hva] at hp
                      simp only [Option.some.injEq] at hp
                      subst hp
                      cases x with
                      | true => simp only [if_true, Bool.true_and]; rw [hA rfl, hva]
                      | false => rfl
                    | _ => rw [hva] at hp; cases hp
                  · cases hp
                rw [← goal]
                rfl
              · have hw' : Region.wanted o (yielded ops t) = false := by
                  cases hb : Region.wanted o (yielded ops t) with
                  | true => exact absurd (hw.1 hb) hH
                  | false => rfl
                exact law.skip ho hd hdl hw' (hn _ (hinv.put hdn hfree hφd (fun hh => absurd hh hH) (fun _ => rfl)))
        · cases h

theorem stepP_sound {P : Program} {n : Nat} {ops : Array Oper} {X : Nat → Array Value → Prop} (law : StepLaw P ops X) {m : Mode} {i : Nat} {ge ge' : GEnv}
    (h : stepP P n ops m i ge = some ge') (hn : RegX X n (i + 1) ge') : RegX X n i ge := stepP_sound1 (law.at i _) h hn

theorem stepsP_sound {P : Program} {n : Nat} {ops : Array Oper} {X : Nat → Array Value → Prop} (law : StepLaw P ops X) : ∀ (ms : List Mode) (i : Nat) (ge ge' : GEnv),
    stepsP P n ops ms i ge = some ge' → RegX X n (i + ms.length) ge' → RegX X n i ge
  | [], i, ge, ge', h, hn => by simp only [stepsP, Option.some.injEq] at h; subst h; exact hn
  | m :: ms, i, ge, ge', h, hn => by
    simp only [stepsP] at h
    cases h1 : stepP P n ops m i ge with
    | none => rw [h1] at h; cases h
    | some g1 =>
      rw [h1] at h
      exact stepP_sound law h1 (stepsP_sound law ms (i + 1) g1 ge' h (by rw [List.length_cons] at hn; rwa [Nat.add_assoc, Nat.add_comm 1]))

theorem Inv.prune {n : Nat} {t : Array Value} {ge ge' : GEnv} (hinv : Inv n t ge) (h : ge'.map (fun p => gfind ge p.1) = ge'.map (fun p => some p.2)) : Inv n t ge' := by
  refine ⟨hinv.size, fun s φ v hg => ?_⟩
  have hmem : ∀ {g : GEnv} {s : Nat} {x : Gd × Value}, gfind g s = some x → (s, x) ∈ g := by
    intro g
    induction g with
    | nil => intro s x h; cases h
    | cons e g ih =>
      intro s x h
      obtain ⟨j, y⟩ := e
      simp only [gfind] at h
      cases hb : Nat.beq s j with
      | true =>
        rw [hb] at h
        have : s = j := Nat.eq_of_beq_eq_true hb
        subst this
        simp only [cond_true, Option.some.injEq] at h
        subst h
        exact List.mem_cons_self ..
      | false => rw [hb] at h; exact List.mem_cons_of_mem _ (ih h)
  have := List.map_inj_left.1 h _ (hmem hg)
  exact hinv.ok _ _ _ this

theorem regX_run {P : Program} {n : Nat} {ops : Array Oper} {X : Nat → Array Value → Prop} (law : StepLaw P ops X) {i : Nat} {ge : GEnv} (ms : List Mode) (j : Nat) (ge' : GEnv)
    (hj : i + ms.length = j) (h : (stepsP P n ops ms i ge).map (fun g => ge'.map (fun p => gfind g p.1)) = some (ge'.map (fun p => some p.2)))
    (hn : RegX X n j ge') : RegX X n i ge := by
  cases hs : stepsP P n ops ms i ge with
  | none => rw [hs] at h; cases h
  | some g =>
    rw [hs] at h
    simp only [Option.map_some, Option.some.injEq] at h
    subst hj
    exact stepsP_sound law ms i ge g hs fun t hinv => hn t (hinv.prune h)

/-- THE RULE: run operations i, i+1, .. by kernel, keep what is wanted. -/
theorem reg_run {P : Program} {n : Nat} {ops : Array Oper} {Q : Exit → Act → World → Prop} {i : Nat} {ge : GEnv} {w : World} (ms : List Mode) (j : Nat) (ge' : GEnv)
    (hj : i + ms.length = j) (h : (stepsP P n ops ms i ge).map (fun g => ge'.map (fun p => gfind g p.1)) = some (ge'.map (fun p => some p.2)))
    (hn : RegG P n ops Q j ge' w) : RegG P n ops Q i ge w := regX_run lawG ms j ge' hj h hn

/-- A Bool in a slot becomes known: entries under its guards lose them, or are nothing. -/
def resolve1 (s : Nat) (c : Bool) (j : Nat) (x : Gd × Value) : Gd × Value :=
  bif Nat.beq j s then ([], .bool c)
  else bif x.1.any (fun p => Nat.beq p.1 s && (p.2 != c)) then ([], undef)
  else (x.1.filter (fun p => !Nat.beq p.1 s), x.2)

def resolve (s : Nat) (c : Bool) (ge : GEnv) : GEnv := ge.map fun e => (e.1, resolve1 s c e.1 e.2)

theorem gfind_resolve (s : Nat) (c : Bool) : ∀ (ge : GEnv) (j : Nat), gfind (resolve s c ge) j = (gfind ge j).map (resolve1 s c j)
  | [], _ => rfl
  | (k, x) :: r, j => by
    simp only [resolve, List.map_cons, gfind]
    cases hb : Nat.beq j k with
    | true =>
      have : j = k := Nat.eq_of_beq_eq_true hb
      subst this
      rfl
    | false => exact gfind_resolve s c r j

theorem resolve_inv {n : Nat} {t : Array Value} {ge : GEnv} {s : Nat} {c : Bool} (hinv : Inv n t ge) (hs : t.getD s undef = .bool c) : Inv n t (resolve s c ge) := by
  refine ⟨hinv.size, fun j φ v h => ?_⟩
  rw [gfind_resolve] at h
  cases hg : gfind ge j with
  | none => rw [hg] at h; cases h
  | some x =>
    obtain ⟨φ0, v0⟩ := x
    rw [hg] at h
    simp only [Option.map_some, Option.some.injEq, resolve1] at h
    have h0 := hinv.ok j φ0 v0 hg
    cases h1 : Nat.beq j s with
    | true =>
      have : j = s := Nat.eq_of_beq_eq_true h1
      subst this
      rw [h1] at h
      simp only [cond_true, Prod.mk.injEq] at h
      obtain ⟨rfl, rfl⟩ := h
      exact ⟨fun _ => hs, fun hn => absurd (fun p hp => by cases hp) hn⟩
    | false =>
      rw [h1] at h
      simp only [cond_false] at h
      cases h2 : φ0.any (fun p => Nat.beq p.1 s && (p.2 != c)) with
      | true =>
        rw [h2] at h
        simp only [cond_true, Prod.mk.injEq] at h
        obtain ⟨rfl, rfl⟩ := h
        obtain ⟨p, hp, he⟩ := List.any_eq_true.1 h2
        simp only [Bool.and_eq_true, bne_iff_ne] at he
        have hps : p.1 = s := Nat.eq_of_beq_eq_true he.1
        have hnot : ¬ Holds t φ0 := fun hh => by
          have := hh p hp
          rw [hps, hs] at this
          simp only [Value.bool.injEq] at this
          exact he.2 this.symm
        exact ⟨fun _ => h0.2 hnot, fun hn => absurd (fun p hp => by cases hp) hn⟩
      | false =>
        rw [h2] at h
        simp only [cond_false, Prod.mk.injEq] at h
        obtain ⟨rfl, rfl⟩ := h
        have hiff : Holds t (φ0.filter (fun p => !Nat.beq p.1 s)) ↔ Holds t φ0 := by
          constructor
          · intro hh p hp
            cases hb : Nat.beq p.1 s with
            | false => exact hh p (List.mem_filter.2 ⟨hp, by simp [hb]⟩)
            | true =>
              have hps : p.1 = s := Nat.eq_of_beq_eq_true hb
              have hno : (Nat.beq p.1 s && (p.2 != c)) = false := by
                cases hx : (Nat.beq p.1 s && (p.2 != c)) with
                | false => rfl
                | true =>
                  have : φ0.any (fun p => Nat.beq p.1 s && (p.2 != c)) = true := List.any_eq_true.2 ⟨p, hp, hx⟩
                  rw [h2] at this; cases this
              rw [hb] at hno
              simp only [Bool.true_and, bne_eq_false_iff_eq] at hno
              rw [hps, hs, hno]
          · intro hh p hp
            exact hh p (List.mem_filter.1 hp).1
        rw [hiff]; exact h0

theorem regX_split {X : Nat → Array Value → Prop} {n i : Nat} {ge : GEnv} (s : Nat) (b : Bool)
    (hs : gfind ge s = some ([], .bool b)) (ht : b = true → RegX X n i (resolve s true ge)) (hf : b = false → RegX X n i (resolve s false ge)) : RegX X n i ge := by
  intro t hinv
  have hv := (hinv.ok s _ _ hs).1 (fun p hp => by cases hp)
  cases b with
  | true => exact ht rfl t (resolve_inv hinv hv)
  | false => exact hf rfl t (resolve_inv hinv hv)

/-- Part on a Bool in a slot. -/
theorem reg_split {P : Program} {n : Nat} {ops : Array Oper} {Q : Exit → Act → World → Prop} {i : Nat} {ge : GEnv} {w : World} (s : Nat) (b : Bool)
    (hs : gfind ge s = some ([], .bool b)) (ht : b = true → RegG P n ops Q i (resolve s true ge) w) (hf : b = false → RegG P n ops Q i (resolve s false ge) w) :
    RegG P n ops Q i ge w := regX_split (X := fun i t => OpsR P ops Q (List.range' i (ops.size - i)) ⟨t, Rnd.ds⟩ w) s b hs ht hf

/-! #### Operations that read or write memory, and calls -/
def ex (op : Op) (ty : TypeId) (ρ : Operand → Value) : Sem Next := execOp ρ ⟨none, op, ty, "", #[], none⟩

theorem ex_eq (ρ : Operand → Value) (o : Oper) : execOp ρ o = ex o.op o.type ρ := by
  obtain ⟨d, op, ty, p, a, g⟩ := o
  unfold ex execOp
  cases op <;> rfl

def opAt (n : Nat) (ops : Array Oper) (ge : GEnv) (i : Nat) : Option (Op × TypeId × Option Nat) :=
  match ops[i]? with
  | none => none
  | some o => bif gsure ops ge o true && notSelect o.op && o.op.operands.toList.all (avail ge []) && (match o.dst with
      | none => true
      | some d => Nat.blt d n && freeOf ge d) then some (o.op, o.type, o.dst) else none

def putG (dst : Option Nat) (v : Value) (ge : GEnv) : GEnv :=
  match dst with
  | some d => (d, [], v) :: ge
  | none => ge

def OpS (P : Program) (op : Op) (ty : TypeId) (ρ : Operand → Value) (w : World) (K : Value → World → Prop) : Prop :=
  match (ex op ty ρ).run P w with
  | .ok (.value v) w' => K v w'
  | .ok .skip w' => K undef w'
  | .ok (.enter f args) w' => Calls P f args w' (fun e w'' => ∃ v, e = .returned v ∧ K v w'')
  | _ => False

theorem reg_op {P : Program} {n : Nat} {ops : Array Oper} {Q : Exit → Act → World → Prop} {i : Nat} {ge : GEnv} {w : World} {op : Op} {ty : TypeId} {dst : Option Nat}
    (ho : opAt n ops ge i = some (op, ty, dst)) (h : OpS P op ty (rho ge) w (fun v w' => RegG P n ops Q (i + 1) (putG dst v ge) w')) : RegG P n ops Q i ge w := by
  intro t hinv
  unfold opAt at ho
  cases hoi : ops[i]? with
  | none => rw [hoi] at ho; cases ho
  | some o =>
    rw [hoi] at ho
    simp only at ho
    obtain ⟨hc, ho⟩ := bif_some ho
    simp only [Bool.and_eq_true] at hc
    obtain ⟨⟨⟨hg, hsel⟩, hav⟩, hdst⟩ := hc
    simp only [Option.some.injEq, Prod.mk.injEq] at ho
    obtain ⟨hop, hty, hds⟩ := ho
    have hH : Holds t [] := fun p hp => by cases hp
    have hexec := exec_rho hinv hH hsel hav
    have hw := gsure_wanted (ops := ops) hinv hg
    rw [range'_step (getElem?_lt hoi)]
    have hput : ∀ v w', RegG P n ops Q (i + 1) (putG dst v ge) w' → OpsR P ops Q (List.range' (i + 1) (ops.size - (i + 1))) (Act.put ⟨t, Rnd.ds⟩ o.dst v) w' := by
      intro v w' hr
      rw [hds] at hdst ⊢
      cases dst with
      | none => exact hr t hinv
      | some d =>
        simp only [Bool.and_eq_true] at hdst
        exact hr _ (hinv.put (v := v) (u := v) hdst.1 hdst.2 (fun p hp => by cases hp) (fun _ => rfl) (fun hh => absurd hH hh))
    unfold OpsR at hput ⊢
    split
    · rename_i hy
      simp only [hy] at hput
      simp only [wpOpsIn, hoi]
      rw [if_pos hw]
      refine ⟨fun _ _ => trivial, ?_⟩
      rw [Oper.semAt_eq _ _ _ (notSelect_defer hsel), hexec, ex_eq, hop, hty]
      unfold OpS at h
      generalize (ex op ty (rho ge)).run P w = r at h ⊢
      cases r with
      | halt x w' => exact h.elim
      | ok nx w' =>
        cases nx with
        | value v => exact hput _ _ h
        | skip => exact hput _ _ h
        | enter f args =>
          refine ⟨fun h => (by cases h), callsIn_wide.2 (Calls.mono h ?_)⟩
          rintro e w'' ⟨v, rfl, hr⟩
          exact hput _ _ hr
        | _ => exact h.elim
    · rename_i hy
      simp only [hy] at hput
      simp only [wpOps, hoi]
      rw [if_pos hw]
      refine .inl ?_
      unfold Oper.wp
      rw [hexec, ex_eq, hop, hty]
      unfold OpS at h
      generalize (ex op ty (rho ge)).run P w = r at h ⊢
      cases r with
      | halt x w' => exact h.elim
      | ok nx w' =>
        cases nx with
        | value v => exact hput _ _ h
        | skip => exact hput _ _ h
        | enter f args =>
          refine Calls.mono h ?_
          rintro e w'' ⟨v, rfl, hr⟩
          exact hput _ _ hr
        | _ => exact h.elim

/-- An operation that the kernel runs by itself, the world a variable: new blocks, constants. -/
theorem reg_exec {P : Program} {n : Nat} {ops : Array Oper} {Q : Exit → Act → World → Prop} {i : Nat} {ge : GEnv} {w : World} {op : Op} {ty : TypeId} {dst : Option Nat}
    (v : Value) (w' : World) (ho : opAt n ops ge i = some (op, ty, dst)) (hr : (ex op ty (rho ge)).run P w = .ok (.value v) w')
    (h : RegG P n ops Q (i + 1) (putG dst v ge) w') : RegG P n ops Q i ge w :=
  reg_op ho (by unfold OpS; rw [hr]; exact h)

theorem reg_enter {P : Program} {n : Nat} {ops : Array Oper} {Q : Exit → Act → World → Prop} {i : Nat} {ge : GEnv} {w : World} {op : Op} {ty : TypeId} {dst : Option Nat}
    (f : FuncId) (args : Array Value) (ho : opAt n ops ge i = some (op, ty, dst)) (hr : ∀ ww, (ex op ty (rho ge)).run P ww = .ok (.enter f args) ww)
    (h : Calls P f args w (fun e w' => ∃ v, e = .returned v ∧ RegG P n ops Q (i + 1) (putG dst v ge) w')) : RegG P n ops Q i ge w :=
  reg_op ho (by unfold OpS; rw [hr]; exact h)

theorem reg_val {P : Program} {n : Nat} {ops : Array Oper} {Q : Exit → Act → World → Prop} {i : Nat} {ge : GEnv} {w : World} {op : Op} {ty : TypeId} {dst : Option Nat}
    (v : Value) (ho : opAt n ops ge i = some (op, ty, dst)) (hr : ∀ ww, (ex op ty (rho ge)).run P ww = .ok (.value v) ww)
    (h : RegG P n ops Q (i + 1) (putG dst v ge) w) : RegG P n ops Q i ge w :=
  reg_exec v w ho (hr w) h

/-- An operation that makes one new block. -/
theorem reg_new {P : Program} {n : Nat} {ops : Array Oper} {Q : Exit → Act → World → Prop} {i : Nat} {ge : GEnv} {w : World} {op : Op} {ty : TypeId} {dst : Option Nat}
    (f : Nat → Value) (o : Obj) (ho : opAt n ops ge i = some (op, ty, dst)) (hr : (ex op ty (rho ge)).run P w = .ok (.value (f w.heap.size)) { w with heap := w.heap.push o })
    (h : ∀ b w', b = w.heap.size → w' = w.alloc o → RegG P n ops Q (i + 1) (putG dst (f b) ge) w') : RegG P n ops Q i ge w :=
  reg_exec _ _ ho hr (h _ _ rfl rfl)

theorem reg_conv {P : Program} {n : Nat} {ops : Array Oper} {Q : Exit → Act → World → Prop} {i : Nat} {ge : GEnv} {w : World} (ge' : GEnv) (he : ge = ge')
    (h : RegG P n ops Q i ge' w) : RegG P n ops Q i ge w := he ▸ h

end
section
variable [Rnd]

/-! #### Memory: what a program reads and writes -/
structure Slc where
  ptr : Option Addr
  len : Nat
  cap : Nat

def pblk (p : Option Addr) : Nat := (p.getD ⟨0, 0, none⟩).block
def poff (p : Option Addr) : Nat := (p.getD ⟨0, 0, none⟩).off
/-- It leads to a cell. -/
abbrev IsAt (p : Option Addr) : Prop := p = some ⟨pblk p, poff p, none⟩

def CellsAt (w : World) (b : Nat) : Nat → List Value → Prop
  | _, [] => True
  | o, v :: r => w.cell? ⟨b, o, none⟩ = some v ∧ CellsAt w b (o + 1) r

def Writable (w : World) (b o k : Nat) : Prop := ∀ i, i < k → (∃ v, w.cell? ⟨b, o + i, none⟩ = some v) ∧ w.frozen? ⟨b, o + i, none⟩ = false

def World.puts (b : Nat) : Nat → List Value → World → World
  | _, [], w => w
  | o, v :: r, w => World.puts b (o + 1) r (w.setCell ⟨b, o, none⟩ v)

def plain1 (P : Program) (t : TypeId) : Bool :=
  match P.underlying t with
  | some (.struct _) | some (.array ..) | none => false
  | _ => true

def aggT (P : Program) (t : TypeId) : Bool :=
  match P.underlying t with
  | some (.struct _) | some (.array ..) => true
  | _ => false

def sizeP (P : Program) (t : TypeId) : Option Nat := (P.info? t).map (·.size)

def oneCell : Value → Bool
  | .agg _ | .tuple _ => false
  | _ => true

def oneCells (vs : List Value) : Bool := vs.all oneCell

theorem run_underlying {P : Program} {t : TypeId} {d : TypeDesc} (h : P.underlying t = some d) (w : World) : (underlying t).run P w = .ok d w := by
  simp [underlying, program, Sem.run, bind, Sem.bind, h, pure]

theorem run_sizeOf {P : Program} {t : TypeId} {k : Nat} (h : sizeP P t = some k) (w : World) : (sizeOf t).run P w = .ok k w := by
  unfold sizeP at h
  cases hi : P.info? t with
  | none => rw [hi] at h; cases h
  | some i =>
    rw [hi] at h
    simp only [Option.map_some, Option.some.injEq] at h
    simp [sizeOf, typeInfo, program, Sem.run, bind, Sem.bind, hi, pure, h]

theorem run_isAgg_false {P : Program} {t : TypeId} (h : plain1 P t = true) (w : World) : (isAgg t).run P w = .ok false w := by
  unfold plain1 at h
  cases hu : P.underlying t with
  | none => rw [hu] at h; cases h
  | some d =>
    rw [hu] at h
    cases d <;> first | (cases h; done) | simp [isAgg, underlying, program, Sem.run, bind, Sem.bind, hu, pure]

theorem run_isAgg_true {P : Program} {t : TypeId} (h : aggT P t = true) (w : World) : (isAgg t).run P w = .ok true w := by
  unfold aggT at h
  cases hu : P.underlying t with
  | none => rw [hu] at h; cases h
  | some d =>
    rw [hu] at h
    cases d <;> first | (cases h; done) | simp [isAgg, underlying, program, Sem.run, bind, Sem.bind, hu, pure]

theorem run_map {P : Program} {α β : Type} (f : α → β) (s : Sem α) (w : World) : (Functor.map f s).run P w = match s.run P w with
      | .ok a w' => .ok (f a) w'
      | .halt h w' => .halt h w' := by
  show (s >>= fun a => pure (f a)).run P w = _
  rw [Sem.run_bind]
  cases s.run P w <;> rfl

theorem run_bind' {P : Program} {α β : Type} (s : Sem α) (f : α → Sem β) (w : World) :
    (s >>= f).run P w = match s.run P w with
      | .ok a w' => (f a).run P w'
      | .halt h w' => .halt h w' := by
  rw [Sem.run_bind]; rfl

theorem addr_add (b o k : Nat) : Addr.add ⟨b, o, none⟩ k = ⟨b, o + k, none⟩ := by
  unfold Addr.add
  split
  · rename_i h; subst h; rfl
  · rfl

theorem run_loadCellsFrom {P : Program} {w : World} {b o : Nat} : ∀ (vs : List Value) (i : Nat) (acc : Array Value), CellsAt w b (o + i) vs →
    (loadCellsFrom ⟨b, o, none⟩ i vs.length acc).run P w = .ok (acc ++ vs.toArray) w
  | [], i, acc, _ => by simp [loadCellsFrom, pure, Sem.run]
  | v :: vs, i, acc, h => by
    rw [List.length_cons, loadCellsFrom, run_bind']
    have h1 : (load (Addr.add ⟨b, o, none⟩ i)).run P w = .ok v w := by
      rw [addr_add]
      simp [load, Sem.run, h.1]
    rw [h1]
    simp only
    rw [run_loadCellsFrom vs (i + 1) _ (by have := h.2; rwa [Nat.add_assoc] at this)]
    simp

theorem run_loadCells {P : Program} {w : World} {b o : Nat} {vs : List Value} (h : CellsAt w b o vs) {k : Nat} (hk : vs.length = k) :
    (loadCells ⟨b, o, none⟩ k).run P w = .ok vs.toArray w := by
  subst hk
  unfold loadCells
  rw [run_loadCellsFrom vs 0 _ (by simpa using h)]
  simp

theorem cell?_setCell_ne {w : World} {b o o' : Nat} {v : Value} (h : o ≠ o') : (w.setCell ⟨b, o, none⟩ v).cell? ⟨b, o', none⟩ = w.cell? ⟨b, o', none⟩ := by
  unfold World.setCell World.cell?
  simp only [Array.getElem?_modify]
  simp only [if_true]
  cases w.heap[b]? with
  | none => rfl
  | some ob => cases ob <;> simp [Array.getElem?_setIfInBounds_ne h]

theorem frozen?_setCell {w : World} {b o : Nat} {v : Value} (a : Addr) : (w.setCell ⟨b, o, none⟩ v).frozen? a = w.frozen? a := by
  unfold World.setCell World.frozen?
  simp only [Array.getElem?_modify]
  by_cases hb : b = a.block
  · subst hb
    simp only [if_true]
    cases w.heap[a.block]? with
    | none => rfl
    | some ob => cases ob <;> rfl
  · rw [if_neg hb]

theorem Writable.tail {w : World} {b o k : Nat} {v : Value} (h : Writable w b o (k + 1)) : Writable (w.setCell ⟨b, o, none⟩ v) b (o + 1) k := by
  intro i hi
  have := h (i + 1) (by omega)
  rw [show o + (i + 1) = o + 1 + i from by omega] at this
  rw [cell?_setCell_ne (by omega), frozen?_setCell]
  exact this

theorem run_storeCells {P : Program} {b o : Nat} : ∀ (vs : List Value) (i : Nat) (w : World), Writable w b (o + i) vs.length → oneCells vs = true →
    (storeCells ⟨b, o, none⟩ vs i).run P w = .ok () (World.puts b (o + i) vs w)
  | [], i, w, _, _ => by simp [storeCells, pure, Sem.run, World.puts]
  | v :: vs, i, w, h, h1 => by
    simp only [oneCells, List.all_cons, Bool.and_eq_true] at h1
    rw [storeCells, run_bind', addr_add]
    have hw := h 0 (by simp)
    rw [Nat.add_zero] at hw
    obtain ⟨⟨u, hu⟩, hf⟩ := hw
    have hs : (store ⟨b, o + i, none⟩ v).run P w = .ok () (w.setCell ⟨b, o + i, none⟩ v) := by
      unfold store
      have hone := h1.1
      cases v <;> first | (cases hone; done) | simp [Sem.run, hu, hf]
    rw [hs]
    simp only [World.puts]
    have := run_storeCells (P := P) (b := b) (o := o) vs (i + 1) (w.setCell ⟨b, o + i, none⟩ v) (by rw [← Nat.add_assoc]; exact Writable.tail (by simpa using h)) h1.2
    rw [this, ← Nat.add_assoc]

section
variable {P : Program} {n : Nat} {ops : Array Oper} {Q : Exit → Act → World → Prop} {i : Nat} {ge : GEnv} {w : World} {ty : TypeId} {dst : Option Nat}

theorem run_load1 {t : TypeId} {a : Operand} {b o : Nat} {v : Value} (ha : rho ge a = .pointer (some ⟨b, o, none⟩))
    (ht : plain1 P t = true) (hc : w.cell? ⟨b, o, none⟩ = some v) : (ex (.load t a) ty (rho ge)).run P w = .ok (.value v) w := by
  unfold ex execOp Instr.loadAt
  simp only [ha]
  simp [run_bind', Instr.sureAddr, loadVar, run_isAgg_false ht, load, Sem.run, hc, pure]

theorem reg_load1 {t : TypeId} {a : Operand} {b o : Nat} {v : Value} (ho : opAt n ops ge i = some (.load t a, ty, dst)) (ha : rho ge a = .pointer (some ⟨b, o, none⟩))
    (ht : plain1 P t = true) (hc : w.cell? ⟨b, o, none⟩ = some v) (h : RegG P n ops Q (i + 1) (putG dst v ge) w) : RegG P n ops Q i ge w :=
  reg_op ho (by
    unfold OpS; rw [run_load1 ha ht hc]; exact h)

theorem run_loadN {t : TypeId} {a : Operand} {b o k : Nat} {vs : List Value} (ha : rho ge a = .pointer (some ⟨b, o, none⟩))
    (ht : aggT P t = true) (hs : sizeP P t = some k) (hk : vs.length = k) (hc : CellsAt w b o vs) : (ex (.load t a) ty (rho ge)).run P w = .ok (.value (.agg vs.toArray)) w := by
  subst hk
  unfold ex execOp Instr.loadAt
  simp only [ha]
  simp [run_bind', Instr.sureAddr, loadVar, run_isAgg_true ht, run_sizeOf hs, run_loadCells hc rfl, Sem.run, pure]

theorem reg_loadN {t : TypeId} {a : Operand} {b o k : Nat} (vs : List Value) (ho : opAt n ops ge i = some (.load t a, ty, dst)) (ha : rho ge a = .pointer (some ⟨b, o, none⟩))
    (ht : aggT P t = true) (hs : sizeP P t = some k) (hk : vs.length = k) (hc : CellsAt w b o vs) (h : RegG P n ops Q (i + 1) (putG dst (.agg vs.toArray) ge) w) : RegG P n ops Q i ge w :=
  reg_op ho (by
    unfold OpS; rw [run_loadN ha ht hs hk hc]; exact h)

theorem ops_store {K : Value → World → Prop} {t : TypeId} {a x : Operand} {b o k : Nat} {vs : List Value} (ha : rho ge a = .pointer (some ⟨b, o, none⟩))
    (hx : (rho ge x).cells = vs.toArray) (hs : sizeP P t = some k) (hk : vs.length = k) (h1 : oneCells vs = true) (hw : Writable w b o k)
    (h : ∀ w', w' = World.puts b o vs w → K undef w') : OpS P (.store t a x) ty (rho ge) w K := by
    subst hk
    have hx : (rho ge x).cells.toList = vs := by rw [hx]
    replace h := h _ rfl
    have hr : (ex (.store t a x) ty (rho ge)).run P w = .ok .skip (World.puts b o vs w) := by
      unfold ex execOp Instr.storeAt
      simp only [ha]
      have hlen : (rho ge x).cells.size = vs.length := by rw [← hx]; simp
      simp only [run_bind', Instr.sureAddr, storeVar, run_sizeOf hs, Sem.run, pure, hlen, ne_eq, not_true_eq_false, if_false]
      rw [hx, run_storeCells vs 0 w (by simpa using hw) h1]
      simp
    unfold OpS; rw [hr]; exact h
theorem reg_store {t : TypeId} {a x : Operand} {b o k : Nat} (vs : List Value) (ho : opAt n ops ge i = some (.store t a x, ty, dst)) (ha : rho ge a = .pointer (some ⟨b, o, none⟩))
    (hx : (rho ge x).cells = vs.toArray) (hs : sizeP P t = some k) (hk : vs.length = k) (h1 : oneCells vs = true) (hw : Writable w b o k)
    (h : ∀ w', w' = World.puts b o vs w → RegG P n ops Q (i + 1) (putG dst undef ge) w') : RegG P n ops Q i ge w :=
  reg_op ho (ops_store ha hx hs hk h1 hw h)

theorem run_indexS {t e : TypeId} {x ix : Operand} {b o l c sz : Nat} {k : IntKind} {j : Int}
    (hx : rho ge x = .slice (some ⟨b, o, none⟩) l c) (hi : rho ge ix = .int k j) (ht : P.underlying t = some (.slice e)) (hs : sizeP P e = some sz)
    (h0 : 0 ≤ j) (h1 : j < l) : (ex (.indexAddr t x ix) ty (rho ge)).run P w = .ok (.value (.pointer (some ⟨b, o + j.toNat * sz, none⟩))) w := by
  unfold ex execOp Instr.indexAt
  simp only [hx, hi]
  simp only [run_bind', asIntOf, run_underlying ht, Sem.run, pure]
  rw [if_pos ⟨h0, h1⟩]
  simp [run_bind', run_sizeOf hs, Sem.run, pure, addr_add]

theorem reg_indexS {t e : TypeId} {x ix : Operand} {b o l c sz : Nat} {k : IntKind} {j : Int} (ho : opAt n ops ge i = some (.indexAddr t x ix, ty, dst))
    (hx : rho ge x = .slice (some ⟨b, o, none⟩) l c) (hi : rho ge ix = .int k j) (ht : P.underlying t = some (.slice e)) (hs : sizeP P e = some sz)
    (h0 : 0 ≤ j) (h1 : j < l) (h : RegG P n ops Q (i + 1) (putG dst (.pointer (some ⟨b, o + j.toNat * sz, none⟩)) ge) w) : RegG P n ops Q i ge w :=
  reg_op ho (by
    unfold OpS; rw [run_indexS hx hi ht hs h0 h1]; exact h)

theorem reg_indexS1 {t e : TypeId} {x ix : Operand} {b o l c : Nat} {k : IntKind} {j : Int} (ho : opAt n ops ge i = some (.indexAddr t x ix, ty, dst))
    (hx : rho ge x = .slice (some ⟨b, o, none⟩) l c) (hi : rho ge ix = .int k j) (ht : P.underlying t = some (.slice e)) (hs : sizeP P e = some 1)
    (h0 : 0 ≤ j) (h1 : j < l) (h : RegG P n ops Q (i + 1) (putG dst (.pointer (some ⟨b, o + j.toNat, none⟩)) ge) w) : RegG P n ops Q i ge w :=
  reg_indexS ho hx hi ht hs h0 h1 (by simpa using h)

theorem run_indexA {t e : TypeId} {x ix : Operand} {b o len sz : Nat} {k : IntKind} {j : Int}
    (hx : rho ge x = .pointer (some ⟨b, o, none⟩)) (hi : rho ge ix = .int k j) (ht : P.underlying t = some (.array len e)) (hs : sizeP P e = some sz)
    (h0 : 0 ≤ j) (h1 : j < len) : (ex (.indexAddr t x ix) ty (rho ge)).run P w = .ok (.value (.pointer (some ⟨b, o + j.toNat * sz, none⟩))) w := by
  unfold ex execOp Instr.indexAt
  simp only [hx, hi]
  simp only [run_bind', asIntOf, run_underlying ht, Sem.run, pure, Instr.sureAddr]
  rw [if_pos ⟨h0, h1⟩]
  simp [run_bind', run_sizeOf hs, Sem.run, pure, addr_add]

theorem reg_indexA {t e : TypeId} {x ix : Operand} {b o len sz : Nat} {k : IntKind} {j : Int} (ho : opAt n ops ge i = some (.indexAddr t x ix, ty, dst))
    (hx : rho ge x = .pointer (some ⟨b, o, none⟩)) (hi : rho ge ix = .int k j) (ht : P.underlying t = some (.array len e)) (hs : sizeP P e = some sz)
    (h0 : 0 ≤ j) (h1 : j < len) (h : RegG P n ops Q (i + 1) (putG dst (.pointer (some ⟨b, o + j.toNat * sz, none⟩)) ge) w) : RegG P n ops Q i ge w :=
  reg_op ho (by
    unfold OpS; rw [run_indexA hx hi ht hs h0 h1]; exact h)

theorem reg_indexA1 {t e : TypeId} {x ix : Operand} {b o len : Nat} {k : IntKind} {j : Int} (ho : opAt n ops ge i = some (.indexAddr t x ix, ty, dst))
    (hx : rho ge x = .pointer (some ⟨b, o, none⟩)) (hi : rho ge ix = .int k j) (ht : P.underlying t = some (.array len e)) (hs : sizeP P e = some 1)
    (h0 : 0 ≤ j) (h1 : j < len) (h : RegG P n ops Q (i + 1) (putG dst (.pointer (some ⟨b, o + j.toNat, none⟩)) ge) w) : RegG P n ops Q i ge w :=
  reg_indexA ho hx hi ht hs h0 h1 (by simpa using h)

/-- Byte i of a string, as a number. -/
def byteAt (s : ByteArray) (i : Int) : Int := ((s.data.toList.getD i.toNat 0).toNat : Int)

theorem run_indexStr {t : TypeId} {x ix : Operand} {s : ByteArray} {k : IntKind} {j : Int}
    (hx : rho ge x = .string s) (hi : rho ge ix = .int k j) (ht : P.underlying t = some .string) (h0 : 0 ≤ j) (h1 : j < s.size) :
    (ex (.index t x ix) ty (rho ge)).run P w = .ok (.value (.int .u8 (byteAt s j))) w := by
  unfold ex execOp Instr.index
  simp only [hx, hi]
  have hlt : j.toNat < s.size := by omega
  have hget : (if 0 ≤ j then s[j.toNat]? else none) = some (s[j.toNat]'hlt) := by rw [if_pos h0]; exact getElem?_pos s _ hlt
  have hb : byteAt s j = ((s[j.toNat]'hlt).toNat : Int) := by
    unfold byteAt
    rw [List.getD_eq_getElem?_getD, List.getElem?_eq_getElem (by simpa using hlt)]
    rfl
  simp only [run_bind', asIntOf, run_underlying ht, Sem.run, pure, hget, hb]

theorem reg_indexStr {t : TypeId} {x ix : Operand} {s : ByteArray} {k : IntKind} {j : Int} (ho : opAt n ops ge i = some (.index t x ix, ty, dst))
    (hx : rho ge x = .string s) (hi : rho ge ix = .int k j) (ht : P.underlying t = some .string) (h0 : 0 ≤ j) (h1 : j < s.size)
    (h : RegG P n ops Q (i + 1) (putG dst (.int .u8 (byteAt s j)) ge) w) : RegG P n ops Q i ge w :=
  reg_op ho (by unfold OpS; rw [run_indexStr hx hi ht h0 h1]; exact h)

/-- s[:h] -/
theorem reg_sliceHi {t e : TypeId} {x hi : Operand} {p : Option Addr} {l c sz : Nat} {k : IntKind} {j : Int} (ho : opAt n ops ge i = some (.slice t x none (some hi) none, ty, dst))
    (hx : rho ge x = .slice p l c) (hh : rho ge hi = .int k j) (ht : P.underlying t = some (.slice e)) (hs : sizeP P e = some sz)
    (h0 : 0 ≤ j) (h1 : j ≤ c) (h : RegG P n ops Q (i + 1) (putG dst (.slice p j.toNat c) ge) w) : RegG P n ops Q i ge w :=
  reg_op ho (by
    have hr : (ex (.slice t x none (some hi) none) ty (rho ge)).run P w = .ok (.value (.slice p j.toNat c)) w := by
      unfold ex execOp Instr.sliceAt
      simp only [hx, Option.map_none, Option.map_some]
      simp only [run_bind', run_underlying ht, Sem.run, pure, Instr.slice, Instr.sliceBounds, Instr.sliceBound, hh, asIntOf]
      rw [if_pos ⟨h0, h1⟩]
      simp only [run_bind', Sem.run, pure, run_sizeOf hs, Nat.zero_mul, Nat.sub_zero]
      have hadd : p.map (fun a => a.add 0) = p := by cases p <;> simp [Addr.add]
      split <;> simp_all
    unfold OpS; rw [hr]; exact h)

end

/-! ### What a call hands back -/
def ResAt (P : Program) (l : Env) (w : World) : List ResultVar → List Value → Prop
  | [], [] => True
  | .tmp s :: r, v :: vs => efind l s = some v ∧ ResAt P l w r vs
  | .cell a t :: r, v :: vs => ∃ b o cs, efind l a = some (.pointer (some ⟨b, o, none⟩)) ∧ CellsAt w b o cs ∧ sizeP P t = some cs.length ∧
      ((aggT P t = true ∧ v = .agg cs.toArray) ∨ (plain1 P t = true ∧ cs = [v])) ∧ ResAt P l w r vs
  | _, _ => False

theorem sizeP_of {P : Program} {t : TypeId} {k : Nat} {cs : List Value} (h : sizeP P t = some k) (hk : cs.length = k) : sizeP P t = some cs.length := by rw [hk]; exact h

def resVar (t : Array Value) : ResultVar → Sem Value
  | .tmp s => pure (t.getD s undef)
  | .cell a ty => do loadVar ty (← asAddr (t.getD a undef))

theorem run_resAt {P : Program} {l : Env} {w : World} {n : Nat} {t : Array Value} (ha : Agrees n t l) : ∀ (rs : List ResultVar) (vs : List Value), ResAt P l w rs vs →
    (rs.mapM (resVar t)).run P w = .ok vs w
  | [], [], _ => by simp [pure, Sem.run]
  | [], _ :: _, h => h.elim
  | .tmp s :: r, [], h => h.elim
  | .cell a ty :: r, [], h => h.elim
  | .tmp s :: r, v :: vs, h => by
    have h1 : t.getD s undef = v := ha.2 (s, v) (efind_mem h.1)
    have hv : (resVar t (.tmp s)).run P w = .ok v w := by simp only [resVar, h1]; rfl
    rw [List.mapM_cons, run_bind', hv]
    simp only
    rw [run_bind', run_resAt ha r vs h.2]
    rfl
  | .cell a ty :: r, v :: vs, h => by
    obtain ⟨b, o, cs, h1, h2, h3, h4, h5⟩ := h
    have h1 : t.getD a undef = .pointer (some ⟨b, o, none⟩) := ha.2 (a, _) (efind_mem h1)
    have hl : (loadVar ty ⟨b, o, none⟩).run P w = .ok v w := by
      unfold loadVar
      rcases h4 with ⟨ht, rfl⟩ | ⟨ht, rfl⟩
      · simp [run_bind', run_isAgg_true ht, run_sizeOf h3, run_loadCells h2 rfl, pure, Sem.run]
      · rw [run_bind', run_isAgg_false ht]
        simp [load, Sem.run, h2.1]
    have hv : (resVar t (.cell a ty)).run P w = .ok v w := by
      simp only [resVar, h1, run_bind', asAddr, pure, Sem.run, hl]
    rw [List.mapM_cons, run_bind', hv]
    simp only
    rw [run_bind', run_resAt ha r vs h5]
    rfl

theorem run_results {P : Program} {l : Env} {w : World} {n : Nat} {t : Array Value} {fn : Func} {vs : List Value} (ha : Agrees n t l) (h : ResAt P l w fn.results.toList vs) :
    (results fn t).run P w = .ok (if h : vs.toArray.size = 1 then vs.toArray[0] else .tuple vs.toArray) w := by
  have e : results fn t = (fn.results.mapM (resVar t) >>= fun vs => pure (if h : vs.size = 1 then vs[0] else .tuple vs)) := rfl
  rw [e, run_bind', ← Array.toArray_toList (xs := fn.results), List.mapM_toArray, run_map, run_resAt ha fn.results.toList vs h]
  rfl

theorem retS {P : Program} {fn : Func} {R : Value → World → Prop} {l : Env} {w : World} {rs : List ResultVar} {v : Value} (hr : fn.results.toList = rs) (h : ResAt P l w rs [v])
    (hR : R v w) : retQ P fn R .ret l w := by
  intro t ⟨n, ha⟩
  subst hr
  exact ⟨v, run_results ha h, hR⟩

theorem retQ_normal {P : Program} {fn : Func} {R : Value → World → Prop} {l : Env} {w : World} (h : retQ P fn R .ret l w) : retQ P fn R .normal l w := h
theorem retT {P : Program} {fn : Func} {R : Value → World → Prop} {l : Env} {w : World} {rs : List ResultVar} {vs : List Value} (hr : fn.results.toList = rs) (h : ResAt P l w rs vs)
    (h1 : Nat.beq vs.length 1 = false) (hR : R (.tuple vs.toArray) w) : retQ P fn R .ret l w := by
  intro t ⟨n, ha⟩
  subst hr
  refine ⟨.tuple vs.toArray, ?_, hR⟩
  rw [run_results ha h, dif_neg]
  intro hh
  have : vs.length = 1 := by simpa using hh
  rw [this] at h1
  cases h1
end

/-! ### A region that draws its order: the walk in the text's order serves every order -/
theorem cell_lt {w : World} {b o : Nat} {v : Value} (h : w.cell? ⟨b, o, none⟩ = some v) : b < w.heap.size := by
  rcases Nat.lt_or_ge b w.heap.size with h' | h'
  · exact h'
  · unfold World.cell? at h; rw [Array.getElem?_eq_none h'] at h; cases h
/-- Nothing that was there has turned. -/
abbrev Ext (w w' : World) : Prop := RowKit.Below w.heap.size w w'
theorem Ext.refl (w : World) : Ext w w := RowKit.Below.refl _ w
theorem Ext.trans {a b c : World} (h : Ext a b) (k : Ext b c) : Ext a c := RowKit.Below.trans h (k.mono h.size)
theorem Ext.cell {w w' : World} (h : Ext w w') {b o : Nat} {v : Value} (hc : w.cell? ⟨b, o, none⟩ = some v) : w'.cell? ⟨b, o, none⟩ = some v := by
  have := RowKit.Below.cell h (p := ⟨b, o, none⟩) (cell_lt hc)
  rw [this]; exact hc
theorem Ext.cells {w w' : World} (h : Ext w w') {b : Nat} : ∀ {o : Nat} {vs : List Value}, CellsAt w b o vs → CellsAt w' b o vs
  | _, [], _ => trivial
  | _, _ :: _, hc => ⟨h.cell hc.1, h.cells hc.2⟩

def RegQ (P : Program) (n : Nat) (ops : Array Oper) (m : Nat) (C : World → Prop) (Q : Act → Prop) (i : Nat) (ge : GEnv) (w : World) : Prop :=
  (∀ w', C w' → Ext w w') → ∀ t, Inv n t ge → i ≤ m ∧ wpQuiet P ops C Q ((ops.toList.take m).drop i) ⟨t, []⟩

theorem drop_step {ops : Array Oper} {i m : Nat} {o : Oper} (h : ops[i]? = some o) (hm : i + 1 ≤ m) : (ops.toList.take m).drop i = o :: (ops.toList.take m).drop (i + 1) := by
  have hlt := getElem?_lt h
  have h1 : (ops.toList.take m)[i]? = some o := by rw [List.getElem?_take, if_pos (by omega), Array.getElem?_toList]; exact h
  obtain ⟨h2, h3⟩ := List.getElem?_eq_some_iff.1 h1
  rw [List.drop_eq_getElem_cons h2, h3]

theorem lawQ {P : Program} {ops : Array Oper} {m : Nat} {C : World → Prop} {Q : Act → Prop} :
    StepLaw P ops (fun i t => i ≤ m ∧ wpQuiet P ops C Q ((ops.toList.take m).drop i) ⟨t, []⟩) := by
  constructor
  · intro i d o t v ho hd hw hr h
    refine ⟨Nat.le_of_succ_le h.1, ?_⟩
    show wpQuiet P ops C Q _ ⟨t, []⟩
    rw [drop_step ho h.1]
    unfold wpQuiet
    rw [if_pos hw]
    refine ⟨v, fun w _ => ?_, ?_⟩
    · have hr : ∀ w, (execOp (Act.eval ⟨t, []⟩) o).run P w = .ok (.value v) w := hr
      unfold Oper.quietAt; rw [hr w]; exact ⟨rfl, rfl⟩
    · rw [hd]; exact h.2
  · intro i d o t ho hd hw h
    refine ⟨Nat.le_of_succ_le h.1, ?_⟩
    show wpQuiet P ops C Q _ ⟨t, []⟩
    rw [drop_step ho h.1]
    unfold wpQuiet
    rw [hw, if_neg (by decide), hd]
    exact h.2

theorem wpE_drawregion {P : Program} {n id : Nat} {c : Code} {ops : Array Oper} {Q : Exit → Env → World → Prop} {l : Env} {w : World} (hc : c = .region id ops true)
    (hm : P.follows .mixedOrders = true) (hB : Region.lexB .any ops = true)
    (h : RegQ P n ops ops.size (Ext w) (fun a => ∀ w', Ext w w' → EPost n Q .normal a w') 0 (toG l) w) : WpE P n c Q l w := by
  subst hc
  intro t ha
  refine wp_region_quiet (C := Ext w) hm hB ((RowKit.Below.refl _ w).drew) ?_
  have := (h (fun _ h => h) t ha.inv).2
  rw [List.drop_zero, List.take_of_length_le (by simp)] at this
  exact this

theorem still_of_quiet {P : Program} {ops : Array Oper} {w : World} {Q : Act → Prop} : ∀ (l : List Oper) (a : Act), wpQuiet P ops (fun w' => w' = w) Q l a → wpStill P ops w Q l a
  | [], _, h => h
  | o :: l, a, h => by
    unfold wpQuiet at h
    unfold wpStill
    by_cases hw : Region.wanted o (yielded ops a.tmps) = true
    · rw [if_pos hw] at h ⊢
      obtain ⟨v, h1, h2⟩ := h
      have h1 := h1 w rfl
      have h2 := still_of_quiet l _ h2
      unfold Oper.quietAt at h1
      unfold Oper.still
      generalize (execOp a.eval o).run P w = r at *
      cases r with
      | ok n w' =>
        cases n <;> simp only [Oper.quietUpon] at h1 <;> simp only [Oper.stillUpon]
        case value u => obtain ⟨e1, e2⟩ := h1; subst e2; exact ⟨e1, h2⟩
        case skip => obtain ⟨e1, e2⟩ := h1; subst e2; exact ⟨e1, h2⟩
        case enter f args => obtain ⟨e1, e2⟩ := h1; exact ⟨e1, v, e2, h2⟩
      | halt x w' => simp only [Oper.quietUpon] at h1
    · rw [if_neg hw] at h ⊢
      exact still_of_quiet l _ h

/-- A region that draws, and writes in its tail, from number m on. -/
theorem wpE_tailregion {P : Program} {n id : Nat} {c : Code} {ops : Array Oper} {Q : Exit → Env → World → Prop} {l : Env} {w : World} (hc : c = .region id ops true)
    (m : Nat) (hm : P.follows .mixedOrders = true) (hB : Region.lexTailB .any ops m = true)
    (h : ∀ w1, (∃ k, w1 = w.drewN k) → RegQ P n ops m (fun w' => w' = w1) (fun a => wpOps P ops (EPost n Q) (List.range' m (ops.size - m)) a w1) 0 (toG l) w1) : WpE P n c Q l w := by
  subst hc
  intro t ha
  have h := (h w.drew ⟨1, rfl⟩ (fun w' hw => hw ▸ Ext.refl _) t ha.inv).2
  rw [List.drop_zero] at h
  refine wp_region_still_tail (l := ops.toList) m hm hB ?_
  have e : List.range' m (ops.size - m) = List.range' m (ops.toList.drop m).length := by simp
  rw [e] at h
  have e2 := wpOps_eq_wpList (P := P) (ops := ops) (Q := EPost n Q) (ops.toList.drop m) m (fun j => by simp [List.getElem?_drop])
  rw [e2] at h
  exact still_of_quiet _ _ h

section
variable {P : Program} {n : Nat} {ops : Array Oper} {m : Nat} {C : World → Prop} {Q : Act → Prop} {i : Nat} {ge : GEnv} {w : World}
theorem qreg_run (ms : List Mode) (j : Nat) (ge' : GEnv)
    (hj : i + ms.length = j) (h : (stepsP P n ops ms i ge).map (fun g => ge'.map (fun p => gfind g p.1)) = some (ge'.map (fun p => some p.2)))
    (hn : RegQ P n ops m C Q j ge' w) : RegQ P n ops m C Q i ge w := fun hC => regX_run lawQ ms j ge' hj h (hn hC)

theorem qreg_split (s : Nat) (b : Bool)
    (hs : gfind ge s = some ([], .bool b)) (ht : b = true → RegQ P n ops m C Q i (resolve s true ge) w) (hf : b = false → RegQ P n ops m C Q i (resolve s false ge) w) :
    RegQ P n ops m C Q i ge w := fun hC => regX_split (X := fun i t => i ≤ m ∧ wpQuiet P ops C Q ((ops.toList.take m).drop i) ⟨t, []⟩) s b hs (fun h => ht h hC) (fun h => hf h hC)

theorem qreg_conv (ge' : GEnv) (he : ge = ge')
    (h : RegQ P n ops m C Q i ge' w) : RegQ P n ops m C Q i ge w := he ▸ h

/-- From the reading head to the writing tail. -/
theorem qreg_tail {Q : Exit → Env → World → Prop} (hi : i = m) (h : RegG P n ops (EPost n Q) i ge w) :
    RegQ P n ops m (fun w' => w' = w) (fun a => wpOps P ops (EPost n Q) (List.range' m (ops.size - m)) a w) i ge w := by
  subst hi
  intro _ t hinv
  refine ⟨Nat.le_refl _, ?_⟩
  rw [List.drop_of_length_le (by simp; omega)]
  exact h t hinv
end

theorem qreg_end {P : Program} {n i : Nat} {ops : Array Oper} {Q : Exit → Env → World → Prop} {ge : GEnv} {w : World} (l : Env) (hi : ops.size = i)
    (hl : l.map (fun p => gfind ge p.1) = l.map (fun p => some ([], p.2))) (h : ∀ w', Ext w w' → Q .normal l w') :
    RegQ P n ops ops.size (Ext w) (fun a => ∀ w', Ext w w' → EPost n Q .normal a w') i ge w := by
  intro _ t hinv
  refine ⟨by omega, ?_⟩
  rw [List.drop_of_length_le (by simp; omega)]
  intro w' hw'
  refine EPost.mk ⟨hinv.size, fun p hp => ?_⟩ (h w' hw')
  have := List.map_inj_left.1 hl p hp
  exact (hinv.ok _ _ _ this).1 (fun p hp => by cases hp)

theorem qreg_gen {P : Program} {n : Nat} {ops : Array Oper} {m : Nat} {C : World → Prop} {Q : Act → Prop} {i : Nat} {ge : GEnv} {w : World} {op : Op} {ty : TypeId} {dst : Option Nat} (v : Value)
    (ho : opAt n ops ge i = some (op, ty, dst)) (hr : ∀ w', C w' → Ext w w' → Oper.quietUpon P C w' v ((ex op ty (rho ge)).run P w'))
    (h : RegQ P n ops m C Q (i + 1) (putG dst v ge) w) : RegQ P n ops m C Q i ge w := by
  intro hC t hinv
  unfold opAt at ho
  cases hoi : ops[i]? with
  | none => rw [hoi] at ho; cases ho
  | some o =>
    rw [hoi] at ho
    simp only at ho
    obtain ⟨hc, ho⟩ := bif_some ho
    simp only [Bool.and_eq_true] at hc
    obtain ⟨⟨⟨hg, hsel⟩, hav⟩, hdst⟩ := hc
    simp only [Option.some.injEq, Prod.mk.injEq] at ho
    obtain ⟨hop, hty, hds⟩ := ho
    have hH : Holds t [] := fun p hp => by cases hp
    have hexec : execOp (Act.eval ⟨t, []⟩) o = execOp (rho ge) o := exec_rho hinv hH hsel hav
    have hw := gsure_wanted (ops := ops) hinv hg
    have key : i + 1 ≤ m ∧ wpQuiet P ops C Q ((ops.toList.take m).drop (i + 1)) (Act.put ⟨t, []⟩ o.dst v) := by
      rw [hds] at hdst ⊢
      cases dst with
      | none => exact h hC t hinv
      | some d =>
        simp only [Bool.and_eq_true] at hdst
        exact h hC _ (hinv.put (v := v) (u := v) hdst.1 hdst.2 (fun p hp => by cases hp) (fun _ => rfl) (fun hh => absurd hH hh))
    refine ⟨Nat.le_of_succ_le key.1, ?_⟩
    rw [drop_step hoi key.1]
    unfold wpQuiet
    rw [if_pos hw]
    refine ⟨v, fun w' hw' => ?_, key.2⟩
    unfold Oper.quietAt
    rw [hexec, ex_eq, hop, hty]
    exact hr w' hw' (hC w' hw')

/-- An operation that reads: its run in every world of the class. -/
theorem qreg_op {P : Program} {n : Nat} {ops : Array Oper} {m : Nat} {C : World → Prop} {Q : Act → Prop} {i : Nat} {ge : GEnv} {w : World} {op : Op} {ty : TypeId} {dst : Option Nat} (v : Value)
    (ho : opAt n ops ge i = some (op, ty, dst)) (hr : ∀ w', Ext w w' → (ex op ty (rho ge)).run P w' = .ok (.value v) w')
    (h : RegQ P n ops m C Q (i + 1) (putG dst v ge) w) : RegQ P n ops m C Q i ge w :=
  qreg_gen v ho (fun w' _ he => by rw [hr w' he]; exact ⟨rfl, rfl⟩) h

/-- A call that leaves old memory as it was: one value in every such world. -/
theorem qreg_enter {P : Program} {n : Nat} {ops : Array Oper} {m : Nat} {Q : Act → Prop} {i : Nat} {ge : GEnv} {w : World} {op : Op} {ty : TypeId} {dst : Option Nat} (f : FuncId) (args : Array Value) (v : Value)
    (ho : opAt n ops ge i = some (op, ty, dst)) (hx : ∀ ww, (ex op ty (rho ge)).run P ww = .ok (.enter f args) ww)
    (hcall : ∀ w', Ext w w' → Calls P f args w' (fun e w'' => e = .returned v ∧ Ext w' w''))
    (h : RegQ P n ops m (Ext w) Q (i + 1) (putG dst v ge) w) : RegQ P n ops m (Ext w) Q i ge w :=
  qreg_gen v ho (fun w' hw he => by
    rw [hx w']
    exact ⟨rfl, (hcall w' he).mono fun e w'' hh => ⟨hh.1, he.trans hh.2⟩⟩) h

section
variable {P : Program} {n : Nat} {ops : Array Oper} {m : Nat} {C : World → Prop} {Q : Act → Prop} {i : Nat} {ge : GEnv} {w : World} {ty : TypeId} {dst : Option Nat}

theorem qreg_val {op : Op} (v : Value) (ho : opAt n ops ge i = some (op, ty, dst)) (hr : ∀ ww, (ex op ty (rho ge)).run P ww = .ok (.value v) ww)
    (h : RegQ P n ops m C Q (i + 1) (putG dst v ge) w) : RegQ P n ops m C Q i ge w := qreg_op v ho (fun _ _ => hr _) h

theorem qreg_load1 {t : TypeId} {a : Operand} {b o : Nat} {v : Value} (ho : opAt n ops ge i = some (.load t a, ty, dst)) (ha : rho ge a = .pointer (some ⟨b, o, none⟩))
    (ht : plain1 P t = true) (hc : w.cell? ⟨b, o, none⟩ = some v) (h : RegQ P n ops m C Q (i + 1) (putG dst v ge) w) : RegQ P n ops m C Q i ge w :=
  qreg_op v ho (fun _ he => run_load1 ha ht (he.cell hc)) h

theorem CellsAt.drewN {w : World} {b k : Nat} : ∀ {vs : List Value} {o : Nat}, CellsAt w b o vs → CellsAt (w.drewN k) b o vs
  | [], _, _ => trivial
  | _ :: _, _, h => ⟨h.1, CellsAt.drewN h.2⟩

theorem qreg_loadN {t : TypeId} {a : Operand} {b o k : Nat} (vs : List Value) (ho : opAt n ops ge i = some (.load t a, ty, dst)) (ha : rho ge a = .pointer (some ⟨b, o, none⟩))
    (ht : aggT P t = true) (hs : sizeP P t = some k) (hk : vs.length = k) (hc : CellsAt w b o vs) (h : RegQ P n ops m C Q (i + 1) (putG dst (.agg vs.toArray) ge) w) : RegQ P n ops m C Q i ge w :=
  qreg_op _ ho (fun _ he => run_loadN ha ht hs hk (he.cells hc)) h

theorem qreg_indexS {t e : TypeId} {x ix : Operand} {b o l c sz : Nat} {k : IntKind} {j : Int} (ho : opAt n ops ge i = some (.indexAddr t x ix, ty, dst))
    (hx : rho ge x = .slice (some ⟨b, o, none⟩) l c) (hi : rho ge ix = .int k j) (ht : P.underlying t = some (.slice e)) (hs : sizeP P e = some sz)
    (h0 : 0 ≤ j) (h1 : j < l) (h : RegQ P n ops m C Q (i + 1) (putG dst (.pointer (some ⟨b, o + j.toNat * sz, none⟩)) ge) w) : RegQ P n ops m C Q i ge w :=
  qreg_op _ ho (fun _ _ => run_indexS hx hi ht hs h0 h1) h

theorem qreg_indexS1 {t e : TypeId} {x ix : Operand} {b o l c : Nat} {k : IntKind} {j : Int} (ho : opAt n ops ge i = some (.indexAddr t x ix, ty, dst))
    (hx : rho ge x = .slice (some ⟨b, o, none⟩) l c) (hi : rho ge ix = .int k j) (ht : P.underlying t = some (.slice e)) (hs : sizeP P e = some 1)
    (h0 : 0 ≤ j) (h1 : j < l) (h : RegQ P n ops m C Q (i + 1) (putG dst (.pointer (some ⟨b, o + j.toNat, none⟩)) ge) w) : RegQ P n ops m C Q i ge w :=
  qreg_indexS ho hx hi ht hs h0 h1 (by simpa using h)

theorem qreg_indexA {t e : TypeId} {x ix : Operand} {b o len sz : Nat} {k : IntKind} {j : Int} (ho : opAt n ops ge i = some (.indexAddr t x ix, ty, dst))
    (hx : rho ge x = .pointer (some ⟨b, o, none⟩)) (hi : rho ge ix = .int k j) (ht : P.underlying t = some (.array len e)) (hs : sizeP P e = some sz)
    (h0 : 0 ≤ j) (h1 : j < len) (h : RegQ P n ops m C Q (i + 1) (putG dst (.pointer (some ⟨b, o + j.toNat * sz, none⟩)) ge) w) : RegQ P n ops m C Q i ge w :=
  qreg_op _ ho (fun _ _ => run_indexA hx hi ht hs h0 h1) h

theorem qreg_indexA1 {t e : TypeId} {x ix : Operand} {b o len : Nat} {k : IntKind} {j : Int} (ho : opAt n ops ge i = some (.indexAddr t x ix, ty, dst))
    (hx : rho ge x = .pointer (some ⟨b, o, none⟩)) (hi : rho ge ix = .int k j) (ht : P.underlying t = some (.array len e)) (hs : sizeP P e = some 1)
    (h0 : 0 ≤ j) (h1 : j < len) (h : RegQ P n ops m C Q (i + 1) (putG dst (.pointer (some ⟨b, o + j.toNat, none⟩)) ge) w) : RegQ P n ops m C Q i ge w :=
  qreg_indexA ho hx hi ht hs h0 h1 (by simpa using h)

theorem qreg_indexStr {t : TypeId} {x ix : Operand} {s : ByteArray} {k : IntKind} {j : Int} (ho : opAt n ops ge i = some (.index t x ix, ty, dst))
    (hx : rho ge x = .string s) (hi : rho ge ix = .int k j) (ht : P.underlying t = some .string) (h0 : 0 ≤ j) (h1 : j < s.size)
    (h : RegQ P n ops m C Q (i + 1) (putG dst (.int .u8 (byteAt s j)) ge) w) : RegQ P n ops m C Q i ge w :=
  qreg_op _ ho (fun _ _ => run_indexStr hx hi ht h0 h1) h
end
section
variable [Rnd]

/-! ### Single operations -/
section
variable {P : Program} {ge : GEnv} {ty xt yt : TypeId} {x y : Operand}

theorem run_shl {k k' : IntKind} {a b : Int} {m : Nat} (hx : rho ge x = .int k a) (hy : rho ge y = .int k' b) (hk : k.bits = m) (h0 : 0 ≤ b) (w : World) :
    (ex (.binOp .shl xt x y yt) ty (rho ge)).run P w = .ok (.value (.int k (k.wrap (a * 2 ^ (min b.toNat m))))) w := by
  subst hk
  unfold ex execOp
  simp only [hx, hy]
  simp only [run_bind', eqGuard, binOp, Op.shift]
  have hb : ¬ b < 0 := by omega
  simp [Sem.run, pure, hb]

theorem run_shr {k k' : IntKind} {a b : Int} {m : Nat} (hx : rho ge x = .int k a) (hy : rho ge y = .int k' b) (hk : k.bits = m) (h0 : 0 ≤ b) (w : World) :
    (ex (.binOp .shr xt x y yt) ty (rho ge)).run P w = .ok (.value (.int k (Int.fdiv a (2 ^ (min b.toNat m))))) w := by
  subst hk
  unfold ex execOp
  simp only [hx, hy]
  simp only [run_bind', eqGuard, binOp, Op.shift]
  have hb : ¬ b < 0 := by omega
  simp [Sem.run, pure, hb]

theorem run_quo {k : IntKind} {a b : Int} (hx : rho ge x = .int k a) (hy : rho ge y = .int k b) (h0 : b ≠ 0) (w : World) :
    (ex (.binOp .quo xt x y yt) ty (rho ge)).run P w = .ok (.value (.int k (k.wrap (Int.tdiv a b)))) w := by
  unfold ex execOp
  simp only [hx, hy]
  simp only [run_bind', eqGuard, binOp, Op.intDiv]
  simp [Sem.run, pure, h0]

theorem run_rem {k : IntKind} {a b : Int} (hx : rho ge x = .int k a) (hy : rho ge y = .int k b) (h0 : b ≠ 0) (w : World) :
    (ex (.binOp .rem xt x y yt) ty (rho ge)).run P w = .ok (.value (.int k (Int.tmod a b))) w := by
  unfold ex execOp
  simp only [hx, hy]
  simp only [run_bind', eqGuard, binOp, Op.intDiv]
  simp [Sem.run, pure, h0]

theorem run_stradd {a b : ByteArray} (hx : rho ge x = .string a) (hy : rho ge y = .string b) (h0 : ((a.size + b.size : Nat) : Int) ≤ 9223372036854775807) (w : World) :
    (ex (.binOp .add xt x y yt) ty (rho ge)).run P w = .ok (.value (.string (a ++ b))) w := by
  unfold ex execOp
  simp only [hx, hy]
  simp only [run_bind', eqGuard, binOp, Op.stringOp]
  have hm : IntKind.i64.max = 9223372036854775807 := by decide
  have hb : ¬ ((a.size + b.size : Nat) : Int) > IntKind.i64.max := by omega
  rw [if_neg hb]
  simp [Sem.run, pure]
end
end
section
variable [Rnd]

/-! ### What came in -/
/-- What is said of a datum's sizes: each string, slice and map in it is within the form's reach. -/
def Light {H : Type} (P : Program) (t : TypeId) (d : DataW H) : Prop := ∀ n ∈ d.weights P t, n ≤ reachBytes

theorem light_arg {H : Type} {P : Program} {ts : List TypeId} {ds : List (DataW H)} (h : (DataW.weightsEach P ts ds).all (· ≤ reachBytes) = true) {j : Nat} {t : TypeId} {d : DataW H}
    (ht : ts[j]? = some t) (hd : ds[j]? = some d) : Light P t d := fun n hn => by
  have := List.all_eq_true.1 h n (DataW.weights_mem_each ht hd n hn)
  simpa using this

theorem light_field {H : Type} {P : Program} {t : TypeId} {fs : Array Field} {xs : List (DataW H × List MemPlace)} (hs : P.underlying t = some (.struct fs)) (h : Light P t (.agg (xs.map (·.1)))) {i : Nat} {f : Field} {y : DataW H × List MemPlace}
    (hf : fs[i]? = some f) (hy : xs[i]? = some y) : Light P f.type y.1 := fun n hn => by
  refine h n ?_
  simp only [DataW.weights, hs]
  refine DataW.weights_mem_each (ts := fs.toList.map (·.type)) (j := i) (t := f.type) (d := y.1) ?_ ?_ n hn
  · rw [List.getElem?_map, Array.getElem?_toList, hf]; rfl
  · rw [List.getElem?_map, hy]; rfl

theorem weightsAll_mem {H : Type} {P : Program} {e : TypeId} : ∀ {l : List (DataW H)} {d : DataW H}, d ∈ l → ∀ n ∈ d.weights P e, n ∈ DataW.weightsAll P e l
  | x :: l, d, hd, n, hn => by
    simp only [DataW.weightsAll, List.mem_append]
    rcases List.mem_cons.1 hd with rfl | hd
    · exact .inl hn
    · exact .inr (weightsAll_mem hd n hn)

/-- A slice that came in: nil; or each element up to the capacity lies there; and it is within the form's reach. -/
def OkSl (w : World) (s : Slc) (sz by_ : Nat) (E : List Value → Prop) : Prop :=
  (s.ptr = none ∧ s.len = 0 ∧ s.cap = 0) ∨
  (s.len ≤ s.cap ∧ s.cap ≤ 9223372036854775807 ∧ s.cap * by_ ≤ 140737488351232 ∧ ∃ a, s.ptr = some a ∧ ∀ i, i < s.cap → ∃ es, w.cells? 0 (a.add (i * sz)) sz = some es ∧ E es)

theorem ok_slice {H : Type} {enc : TypeId × Value → H} {P : Program} {w : World} {fuel : Nat} {t e : TypeId} {cs : List Value} {y : DataW H × List MemPlace} {sz by_ : Nat} {E : List Value → Prop}
    (ht : P.underlying t = some (.slice e)) (hs : P.cellsOf e = sz) (hb : P.bytesOf e = by_) (h : DataW.trod enc P w 0 (fun _ => true) true fuel t cs = some y) (hl : Light P t y.1)
    (hE : ∀ (n : Nat) (es : List Value) (z : DataW H × List MemPlace), DataW.trod enc P w 0 (fun _ => true) true n e es = some z → Light P e z.1 → E es) :
    ∃ s : Slc, cs = [.slice s.ptr s.len s.cap] ∧ OkSl w s sz by_ E := by
  subst hs
  subst hb
  rcases DataW.trod_slice ht h with ⟨rfl, _⟩ | ⟨a, len, cap, elems, rest, n, _, rfl, hy, _, hlc, hm, hlen, hel, hsp, _⟩
  · exact ⟨⟨none, 0, 0⟩, rfl, .inl ⟨rfl, rfl, rfl⟩⟩
  · obtain ⟨hr, hj⟩ := hsp rfl
    subst hy
    have hwt : (elems.length + rest.length) * P.bytesOf e ≤ reachBytes := by
      have := hl ((elems.length + rest.length) * P.bytesOf e) (by simp [DataW.weights, ht])
      exact this
    have hall : ∀ z ∈ elems ++ rest, Light P e z.1 := by
      intro z hz k hk
      refine hl k ?_
      simp only [DataW.weights, ht, List.mem_cons, List.mem_append]
      rcases List.mem_append.1 hz with hz | hz
      · exact .inr (.inl (weightsAll_mem (List.mem_map.2 ⟨z, hz, rfl⟩) k hk))
      · exact .inr (.inr (weightsAll_mem (List.mem_map.2 ⟨z, hz, rfl⟩) k hk))
    refine ⟨⟨some a, len, cap⟩, rfl, .inr ⟨hlc, hm, ?_, a, rfl, fun i hi => ?_⟩⟩
    · have : elems.length + rest.length = cap := by omega
      rw [this] at hwt
      exact hwt
    have key : ∀ {o : Option (DataW H × List MemPlace)}, (w.cells? 0 (a.add (i * P.cellsOf e)) (P.cellsOf e)).bind (DataW.trod enc P w 0 (fun _ => true) true n e) = o → (∃ z, o = some z ∧ Light P e z.1) →
        ∃ es, w.cells? 0 (a.add (i * P.cellsOf e)) (P.cellsOf e) = some es ∧ E es := by
      intro o ho hs
      subst ho
      cases hc : w.cells? 0 (a.add (i * P.cellsOf e)) (P.cellsOf e) with
      | none => rw [hc] at hs; obtain ⟨z, hz, _⟩ := hs; cases hz
      | some es =>
        rw [hc] at hs
        simp only [Option.bind_some] at hs
        obtain ⟨z, hz, hlz⟩ := hs
        exact ⟨es, rfl, hE n es z hz hlz⟩
    rcases Nat.lt_or_ge i len with hlt | hge
    · refine key (hel i hlt) ⟨elems[i]'(by omega), List.getElem?_eq_getElem (by omega), hall _ (List.mem_append_left _ (List.getElem_mem _))⟩
    · have := hj (i - len) (by simp only [Slc.cap] at hi; omega)
      rw [show len + (i - len) = i from by omega] at this
      refine key this ⟨rest[i - len]'(by simp only [Slc.cap] at hi; omega), List.getElem?_eq_getElem (by simp only [Slc.cap] at hi; omega), hall _ (List.mem_append_right _ (List.getElem_mem _))⟩

theorem wf_bounds {k : IntKind} {n : Int} (h : (Lit.int k n).wf = true) : (match k with
    | .i8 => -128 ≤ n ∧ n ≤ 127 | .i16 => -32768 ≤ n ∧ n ≤ 32767 | .i32 => -2147483648 ≤ n ∧ n ≤ 2147483647 | .i64 => -9223372036854775808 ≤ n ∧ n ≤ 9223372036854775807
    | .u8 => 0 ≤ n ∧ n ≤ 255 | .u16 => 0 ≤ n ∧ n ≤ 65535 | .u32 => 0 ≤ n ∧ n ≤ 4294967295 | .u64 => 0 ≤ n ∧ n ≤ 18446744073709551615) := by
  cases k <;> simp [Lit.wf, IntKind.min, IntKind.max, IntKind.bits, IntKind.signed] at h ⊢ <;> omega
end
section
variable [Rnd]

/-! ### Slices: making, cutting, appending, copying -/
def repCells (k : Nat) (zs : List Value) : Array Value := (List.replicate k zs).flatten.toArray

theorem repCells_eq (zs : List Value) (k : Nat) : ((Array.range (k * zs.length)).map (fun i => zs.toArray[i % zs.toArray.size]!)) = repCells k zs := by
  apply Array.ext'
  simp only [Array.toList_map, Array.toList_range, repCells]
  induction k with
  | zero => simp
  | succ k ih =>
    rw [List.replicate_succ', List.flatten_append, ← ih, Nat.add_mul, Nat.one_mul, List.range_add, List.map_append]
    congr 1
    simp only [List.map_map, List.flatten_cons, List.flatten_nil, List.append_nil]
    apply List.ext_getElem
    · simp
    · intro i h1 h2
      simp only [List.length_map, List.length_range] at h1
      simp only [List.getElem_map, List.getElem_range, Function.comp, List.size_toArray]
      rw [Nat.add_comm, Nat.add_mul_mod_self_right, Nat.mod_eq_of_lt h1]
      simp [h1]

def zeroP (P : Program) (t : TypeId) : Option (List Value) := ((P.info? t).bind (·.zero)).map (·.cells.toList)
def bytesP (P : Program) (t : TypeId) : Option Nat := (P.info? t).map (·.bytes)

theorem run_zeroValue {P : Program} {t : TypeId} {zs : List Value} (h : zeroP P t = some zs) (w : World) : ∃ v, (zeroValue t).run P w = .ok v w ∧ v.cells = zs.toArray := by
  unfold zeroP at h
  cases hi : P.info? t with
  | none => rw [hi] at h; cases h
  | some i =>
    rw [hi] at h
    simp only [Option.bind_some] at h
    cases hz : i.zero with
    | none => rw [hz] at h; cases h
    | some v =>
      rw [hz] at h
      simp only [Option.map_some, Option.some.injEq] at h
      refine ⟨v, ?_, by rw [← h]⟩
      simp [zeroValue, typeInfo, program, Sem.run, bind, Sem.bind, hi, hz, pure]

theorem run_typeInfo {P : Program} {t : TypeId} {by_ : Nat} (h : bytesP P t = some by_) (w : World) : ∃ i, (typeInfo t).run P w = .ok i w ∧ i.bytes = by_ := by
  unfold bytesP at h
  cases hi : P.info? t with
  | none => rw [hi] at h; cases h
  | some i =>
    rw [hi] at h
    simp only [Option.map_some, Option.some.injEq] at h
    exact ⟨i, by simp [typeInfo, program, Sem.run, bind, Sem.bind, hi, pure], h⟩

theorem run_askRoom (P : Program) (n : Nat) (w : World) : (askRoom n).run P w = .ok () w := by
  unfold askRoom mark
  split <;> rfl

section
variable {P : Program} {n : Nat} {ops : Array Oper} {Q : Exit → Act → World → Prop} {i : Nat} {ge : GEnv} {w : World} {ty : TypeId} {dst : Option Nat}

theorem reg_makeSlice {t e : TypeId} {lo co : Operand} {l c : Int} {sz by_ : Nat} {zs : List Value} (ho : opAt n ops ge i = some (.makeSlice t lo co, ty, dst))
    (hl : rho ge lo = .int .i64 l) (hc : rho ge co = .int .i64 c) (ht : P.underlying t = some (.slice e)) (hs : sizeP P e = some sz) (hb : bytesP P e = some by_) (hz : zeroP P e = some zs)
    (hn : zs.length = sz) (hb1 : Nat.ble 1 by_ = true) (h0 : 0 ≤ l) (h1 : l ≤ c) (h2 : (by_ : Int) * c ≤ 281474976710656)
    (h : ∀ b w', b = w.heap.size → w' = w.alloc (Obj.cells (repCells c.toNat zs) e (0, 0)) → RegG P n ops Q (i + 1) (putG dst (.slice (some ⟨b, 0, none⟩) l.toNat c.toNat) ge) w') : RegG P n ops Q i ge w := by
  refine reg_op ho ?_
  subst hn
  have hby : 1 ≤ by_ := Nat.le_of_ble_eq_true hb1
  have hcb : c ≤ 281474976710656 := by
    have : 1 * c ≤ (by_ : Int) * c := Int.mul_le_mul_of_nonneg_right (by omega) (by omega)
    omega
  have hwl : IntKind.i64.wrap l = l := IntWalk.i64_in _ (by omega)
  have hwc : IntKind.i64.wrap c = c := IntWalk.i64_in _ (by omega)
  obtain ⟨v, hv, hvc⟩ := run_zeroValue hz w
  obtain ⟨inf, hinf, hbe⟩ := run_typeInfo hb w
  have hr : (ex (.makeSlice t lo co) ty (rho ge)).run P w = .ok (.value (.slice (some ⟨w.heap.size, 0, none⟩) l.toNat c.toNat)) (w.alloc (Obj.cells (repCells c.toNat zs) e (0, 0))) := by
    unfold ex execOp Instr.makeSlice
    simp only [hl, hc]
    simp only [run_bind', run_underlying ht, asInt, asIntOf, pure, Sem.run, hinf, hbe, hwl, hwc]
    have k1 : (decide (c < 0) || decide ((by_ : Int) * c > 2 ^ 48)) = false := by
      simp only [Bool.or_eq_false_iff, decide_eq_false_iff_not]
      have : (2 : Int) ^ 48 = 281474976710656 := by decide
      rw [this]; omega
    have k2 : ¬ ((decide (c < 0) || decide ((by_ : Int) * c > 2 ^ 48)) = true ∨ l < 0) := by
      rw [k1]; simp; omega
    simp only [k1, Bool.false_or, Bool.or_eq_true, decide_eq_true_eq]
    rw [if_neg (by omega)]
    simp only [run_bind', run_askRoom, run_sizeOf hs]
    by_cases hz0 : c.toNat * zs.length = 0
    · rw [if_pos hz0]
      simp only [pure, Sem.run, newRow, newObj, run_bind']
      have e1 : repCells c.toNat zs = #[] := by
        rw [← repCells_eq, hz0]; simp
      have e2 : ∀ f : Nat → Value, Array.map f (Array.range 0) = #[] := fun f => by simp
      rw [hz0, e1, e2]
      rfl
    · rw [if_neg hz0]
      simp only [run_bind', hv, pure, Sem.run, newRow, newObj, hvc]
      rw [repCells_eq]
      rfl
  unfold OpS
  rw [hr]
  exact h _ _ rfl rfl

/-- x[lo:hi:max] -/
def Slc.cut (sz : Nat) (s : Slc) (lo hi mx : Int) : Slc :=
  ⟨if mx.toNat = lo.toNat then s.ptr else s.ptr.map (·.add (lo.toNat * sz)), hi.toNat - lo.toNat, mx.toNat - lo.toNat⟩

theorem run_sliceBound {P : Program} {k : IntKind} {j : Int} {y : Nat} {code : BoundsCode} (h0 : 0 ≤ j) (h1 : j ≤ y) (w : World) : (Instr.sliceBound (.int k j) y code).run P w = .ok j.toNat w := by
  unfold Instr.sliceBound
  simp only [run_bind', asIntOf, pure, Sem.run]
  rw [if_pos ⟨h0, h1⟩]
  rfl

theorem run_sliceAll {t e : TypeId} {x : Operand} {lo hi mx : Option Operand} {s : Slc} {sz : Nat} {l h m : Nat} (hx : rho ge x = .slice s.ptr s.len s.cap) (ht : P.underlying t = some (.slice e)) (hs : sizeP P e = some sz)
    (hb : (Instr.sliceBounds true s.len s.cap (lo.map (rho ge)) (hi.map (rho ge)) (mx.map (rho ge))).run P w = .ok (l, h, m) w) :
    (ex (.slice t x lo hi mx) ty (rho ge)).run P w = .ok (.value (.slice (if m = l then s.ptr else s.ptr.map (·.add (l * sz))) (h - l) (m - l))) w := by
  unfold ex execOp Instr.sliceAt
  simp only [hx]
  simp only [run_bind', run_underlying ht, Instr.slice]
  simp only [run_bind', run_underlying ht, hb, run_sizeOf hs, pure, Sem.run]

theorem run_slice {t e : TypeId} {x lo : Operand} {s : Slc} {sz : Nat} {k : IntKind} {a : Int} (hx : rho ge x = .slice s.ptr s.len s.cap) (hl : rho ge lo = .int k a) (ht : P.underlying t = some (.slice e)) (hs : sizeP P e = some sz)
    (hc : 0 ≤ a ∧ a ≤ ((s.len : Nat) : Int) ∧ ((s.len : Nat) : Int) ≤ ((s.cap : Nat) : Int) ∧ ((s.cap : Nat) : Int) ≤ ((s.cap : Nat) : Int)) :
    (ex (.slice t x (some lo) none none) ty (rho ge)).run P w = .ok (.value (.slice (Slc.cut sz s a s.len s.cap).ptr (Slc.cut sz s a s.len s.cap).len (Slc.cut sz s a s.len s.cap).cap)) w := by
  rw [run_sliceAll (l := a.toNat) (h := s.len) (m := s.cap) hx ht hs]
  · unfold Slc.cut; simp
  · simp only [Instr.sliceBounds, Option.map_some, Option.map_none, hl, run_bind', pure, Sem.run, run_sliceBound hc.1 hc.2.1]

theorem run_sliceH {t e : TypeId} {x lo hi : Operand} {s : Slc} {sz : Nat} {k k' : IntKind} {a b : Int} (hx : rho ge x = .slice s.ptr s.len s.cap) (hl : rho ge lo = .int k a) (hh : rho ge hi = .int k' b) (ht : P.underlying t = some (.slice e)) (hs : sizeP P e = some sz)
    (hc : 0 ≤ a ∧ a ≤ b ∧ b ≤ ((s.cap : Nat) : Int) ∧ ((s.cap : Nat) : Int) ≤ ((s.cap : Nat) : Int)) :
    (ex (.slice t x (some lo) (some hi) none) ty (rho ge)).run P w = .ok (.value (.slice (Slc.cut sz s a b s.cap).ptr (Slc.cut sz s a b s.cap).len (Slc.cut sz s a b s.cap).cap)) w := by
  rw [run_sliceAll (l := a.toNat) (h := b.toNat) (m := s.cap) hx ht hs]
  · unfold Slc.cut; simp
  · simp only [Instr.sliceBounds, Option.map_some, Option.map_none, hl, hh, run_bind', pure, Sem.run, run_sliceBound (show 0 ≤ b by omega) hc.2.2.1]
    rw [run_sliceBound hc.1 (by omega)]

theorem run_sliceHM {t e : TypeId} {x lo hi mx : Operand} {s : Slc} {sz : Nat} {k k' k'' : IntKind} {a b c : Int} (hx : rho ge x = .slice s.ptr s.len s.cap) (hl : rho ge lo = .int k a) (hh : rho ge hi = .int k' b) (hm : rho ge mx = .int k'' c) (ht : P.underlying t = some (.slice e)) (hs : sizeP P e = some sz)
    (hc : 0 ≤ a ∧ a ≤ b ∧ b ≤ c ∧ c ≤ ((s.cap : Nat) : Int)) :
    (ex (.slice t x (some lo) (some hi) (some mx)) ty (rho ge)).run P w = .ok (.value (.slice (Slc.cut sz s a b c).ptr (Slc.cut sz s a b c).len (Slc.cut sz s a b c).cap)) w := by
  rw [run_sliceAll (l := a.toNat) (h := b.toNat) (m := c.toNat) hx ht hs]
  · unfold Slc.cut; simp
  · simp only [Instr.sliceBounds, Option.map_some, hl, hh, hm, run_bind', pure, Sem.run, run_sliceBound (show 0 ≤ c by omega) hc.2.2.2]
    rw [run_sliceBound (show 0 ≤ b by omega) (by omega)]
    simp only
    rw [run_sliceBound hc.1 (by omega)]

theorem reg_slice {t e : TypeId} {x lo : Operand} {s : Slc} {sz : Nat} {k : IntKind} {a : Int} (ho : opAt n ops ge i = some (.slice t x (some lo) none none, ty, dst))
    (hx : rho ge x = .slice s.ptr s.len s.cap) (hl : rho ge lo = .int k a) (ht : P.underlying t = some (.slice e)) (hs : sizeP P e = some sz)
    (hc : 0 ≤ a ∧ a ≤ ((s.len : Nat) : Int) ∧ ((s.len : Nat) : Int) ≤ ((s.cap : Nat) : Int) ∧ ((s.cap : Nat) : Int) ≤ ((s.cap : Nat) : Int))
    (h : ∀ r, r = Slc.cut sz s a s.len s.cap → RegG P n ops Q (i + 1) (putG dst (.slice r.ptr r.len r.cap) ge) w) : RegG P n ops Q i ge w :=
  reg_op ho (by unfold OpS; rw [run_slice hx hl ht hs hc]; exact h _ rfl)
theorem reg_sliceH {t e : TypeId} {x lo hi : Operand} {s : Slc} {sz : Nat} {k k' : IntKind} {a b : Int} (ho : opAt n ops ge i = some (.slice t x (some lo) (some hi) none, ty, dst))
    (hx : rho ge x = .slice s.ptr s.len s.cap) (hl : rho ge lo = .int k a) (hh : rho ge hi = .int k' b) (ht : P.underlying t = some (.slice e)) (hs : sizeP P e = some sz)
    (hc : 0 ≤ a ∧ a ≤ b ∧ b ≤ ((s.cap : Nat) : Int) ∧ ((s.cap : Nat) : Int) ≤ ((s.cap : Nat) : Int))
    (h : ∀ r, r = Slc.cut sz s a b s.cap → RegG P n ops Q (i + 1) (putG dst (.slice r.ptr r.len r.cap) ge) w) : RegG P n ops Q i ge w :=
  reg_op ho (by unfold OpS; rw [run_sliceH hx hl hh ht hs hc]; exact h _ rfl)
theorem reg_sliceHM {t e : TypeId} {x lo hi mx : Operand} {s : Slc} {sz : Nat} {k k' k'' : IntKind} {a b c : Int} (ho : opAt n ops ge i = some (.slice t x (some lo) (some hi) (some mx), ty, dst))
    (hx : rho ge x = .slice s.ptr s.len s.cap) (hl : rho ge lo = .int k a) (hh : rho ge hi = .int k' b) (hm : rho ge mx = .int k'' c) (ht : P.underlying t = some (.slice e)) (hs : sizeP P e = some sz)
    (hc : 0 ≤ a ∧ a ≤ b ∧ b ≤ c ∧ c ≤ ((s.cap : Nat) : Int))
    (h : ∀ r, r = Slc.cut sz s a b c → RegG P n ops Q (i + 1) (putG dst (.slice r.ptr r.len r.cap) ge) w) : RegG P n ops Q i ge w :=
  reg_op ho (by unfold OpS; rw [run_sliceHM hx hl hh hm ht hs hc]; exact h _ rfl)

theorem qreg_sliceHi {t e : TypeId} {x hi : Operand} {p : Option Addr} {l c sz : Nat} {k : IntKind} {j : Int} {m : Nat} {C : World → Prop} {Q : Act → Prop} (ho : opAt n ops ge i = some (.slice t x none (some hi) none, ty, dst))
    (hx : rho ge x = .slice p l c) (hh : rho ge hi = .int k j) (ht : P.underlying t = some (.slice e)) (hs : sizeP P e = some sz)
    (h0 : 0 ≤ j) (h1 : j ≤ c) (h : RegQ P n ops m C Q (i + 1) (putG dst (.slice p j.toNat c) ge) w) : RegQ P n ops m C Q i ge w :=
  qreg_op _ ho (fun _ _ => by
    rw [run_sliceAll (s := ⟨p, l, c⟩) (l := 0) (h := j.toNat) (m := c) hx ht hs]
    · have hadd : p.map (fun a => a.add 0) = p := by cases p <;> simp [Addr.add]
      simp [hadd]
    · simp only [Instr.sliceBounds, Option.map_some, Option.map_none, hh, run_bind', pure, Sem.run, run_sliceBound h0 h1]) h

/-! #### append, copy -/
/-- The first cells of a slice. -/
def SrcAtN (w : World) (x : Slc) (k sz : Nat) (src : List Value) : Prop :=
  src.length = k * sz ∧ (src = [] ∨ (IsAt x.ptr ∧ CellsAt w (pblk x.ptr) (poff x.ptr) src))
def SrcAt (w : World) (x : Slc) (sz : Nat) (src : List Value) : Prop := SrcAtN w x x.len sz src

def srcT (P : Program) (t : TypeId) : Bool := match P.underlying t with | some (.slice _) | some .string => true | _ => false

def AppendW (sz by_ : Nat) (e : TypeId) (zs : List Value) (s : Slc) (src : List Value) (k : Nat) (w : World) (K : Slc → World → Prop) : Prop :=
  (s.len + k ≤ s.cap → (src = [] ∧ K ⟨s.ptr, s.len + k, s.cap⟩ w) ∨
    (IsAt s.ptr ∧ Writable w (pblk s.ptr) (poff s.ptr + s.len * sz) src.length ∧ oneCells src = true ∧ ∀ w', w' = World.puts (pblk s.ptr) (poff s.ptr + s.len * sz) src w → K ⟨s.ptr, s.len + k, s.cap⟩ w')) ∧
  (s.cap < s.len + k → Builtin.nextslicecap (s.len + k) s.cap * by_ ≤ 281474976710656 ∧ ∃ old, SrcAt w s sz old ∧ ∀ cap b w', s.len + k ≤ cap → cap < 9223372036854775808 → b = w.heap.size →
    w' = (w.drew).alloc (Obj.cells (old ++ src ++ (repCells (cap - (s.len + k)) zs).toList).toArray e (0, 0)) → K ⟨some ⟨b, 0, none⟩, s.len + k, cap⟩ w')

theorem AppendW.mono {sz by_ : Nat} {e : TypeId} {zs : List Value} {s : Slc} {src : List Value} {k : Nat} {w : World} {K K' : Slc → World → Prop} (h : AppendW sz by_ e zs s src k w K)
    (hk : ∀ r w', K r w' → K' r w') : AppendW sz by_ e zs s src k w K' := by
  refine ⟨fun hc => ?_, fun hc => ?_⟩
  · rcases h.1 hc with ⟨h1, h2⟩ | ⟨h1, h2, h3, h4⟩
    · exact .inl ⟨h1, hk _ _ h2⟩
    · exact .inr ⟨h1, h2, h3, fun w' hw => hk _ _ (h4 w' hw)⟩
  · obtain ⟨h1, old, h2, h3⟩ := h.2 hc
    exact ⟨h1, old, h2, fun cap b w' ha hb hc hd => hk _ _ (h3 cap b w' ha hb hc hd)⟩

theorem run_firstCells {P : Program} {w : World} {x : Slc} {k sz : Nat} {src : List Value} (h : SrcAtN w x k sz src) : (Builtin.firstCells sz k (.slice x.ptr x.len x.cap)).run P w = .ok src.toArray w := by
  obtain ⟨hl, rfl | ⟨hp, hc⟩⟩ := h
  · cases hp : x.ptr with
    | none => simp [Builtin.firstCells, pure, Sem.run]
    | some a =>
      simp only [List.length_nil] at hl
      simp only [Builtin.firstCells, ← hl]
      simp [loadCells, loadCellsFrom, pure, Sem.run]
  · rw [hp]
    simp only [Builtin.firstCells]
    exact run_loadCells hc hl

theorem zeroCells_eq (zs : List Value) (k : Nat) : Builtin.zeroCells zs.toArray k = repCells k zs := by
  unfold Builtin.zeroCells
  rw [← repCells_eq]
  simp

theorem run_append {t tx e : TypeId} {a x : Operand} {s : Slc} {sz by_ k : Nat} {zs src : List Value} {xv : Value} {K : Value → World → Prop}
    (hs : rho ge a = .slice s.ptr s.len s.cap) (hx : rho ge x = xv) (ht : P.underlying t = some (.slice e)) (hsz : sizeP P e = some sz) (hb : bytesP P e = some by_) (hz : zeroP P e = some zs)
    (hb1 : Nat.ble 1 by_ = true) (hmk : srcT P tx = true)
    (hlen : ∀ w, (Builtin.lenOf xv).run P w = .ok k w) (hsrc : (Builtin.firstCells sz k xv).run P w = .ok src.toArray w) (hsrc' : (Builtin.firstCells sz k xv).run P (w.drew) = .ok src.toArray (w.drew))
    (h : AppendW sz by_ e zs s src k w (fun r w' => K (.slice r.ptr r.len r.cap) w')) :
    OpS P (.call { callee := .builtin .append, args := #[a, x], argTypes := #[t, tx] }) ty (rho ge) w K := by
  have hby : 1 ≤ by_ := Nat.le_of_ble_eq_true hb1
  obtain ⟨dx, hdx, hdx2⟩ : ∃ d, P.underlying tx = some d ∧ ((∃ e', d = .slice e') ∨ d = .string) := by
    unfold srcT at hmk
    cases hu : P.underlying tx with
    | none => rw [hu] at hmk; cases hmk
    | some d =>
      rw [hu] at hmk
      refine ⟨d, rfl, ?_⟩
      cases d <;> first | (cases hmk; done) | exact .inl ⟨_, rfl⟩ | exact .inr rfl
  unfold OpS
  have hex : ex (.call { callee := .builtin .append, args := #[a, x], argTypes := #[t, tx] }) ty (rho ge) =
      (do pure (.value (← Builtin.append_ #[t, tx] ty #[.slice s.ptr s.len s.cap, xv])) : Sem Next) := by
    unfold ex execOp
    simp [Go.resolve, Go.invoke, Go.builtin, hs, hx, bind, Sem.bind, pure]
  rw [hex, run_bind']
  unfold Builtin.append_
  simp only [List.getElem?_toArray, List.getElem?_cons_zero, List.getElem?_cons_succ]
  have hnint : ∀ (α : Type) (u v : α), (match dx with | TypeDesc.int _ => u | _ => v) = v := by
    intro α u v
    rcases hdx2 with ⟨e', rfl⟩ | rfl <;> rfl
  rcases hdx2 with ⟨e', rfl⟩ | rfl
  all_goals
  simp only [run_bind', run_underlying ht, run_sizeOf hsz, run_underlying hdx, pure, Sem.run, Bool.false_eq_true, if_false, hlen, Bool.not_false, if_true]
  by_cases hfit : s.len + k ≤ s.cap
  · rw [if_pos hfit]
    simp only [run_bind', hsrc]
    rcases h.1 hfit with ⟨he, hK⟩ | ⟨hp, hw, h1, hK⟩
    · subst he
      cases hp : s.ptr with
      | none => rw [hp] at hK; simp only [pure, Sem.run]; exact hK
      | some a => rw [hp] at hK; simp only [storeCells, pure, Sem.run, run_bind']; exact hK
    · have hK := hK _ rfl
      have hp' : s.ptr = some ⟨pblk s.ptr, poff s.ptr, none⟩ := hp
      clear hp
      generalize pblk s.ptr = pb at *
      generalize poff s.ptr = po at *
      rw [hp'] at hK ⊢
      simp only [run_bind', addr_add]
      have := run_storeCells (P := P) (b := pb) (o := po + s.len * sz) src 0 w (by simpa using hw) h1
      rw [this]
      simp only [pure, Sem.run]
      exact hK
  · rw [if_neg hfit]
    obtain ⟨hcap, old, hold, hK⟩ := h.2 (by omega)
    obtain ⟨inf, hinf, hbe⟩ := run_typeInfo hb w
    obtain ⟨v, hv, hvc⟩ := run_zeroValue hz (w.drew)
    have hold' : SrcAtN (w.drew) s s.len sz old := by
      obtain ⟨h1, h2⟩ := hold
      exact ⟨h1, h2.imp id (fun ⟨h3, h4⟩ => ⟨h3, (CellsAt.drewN (k := 1) h4)⟩)⟩
    simp only [run_bind', hinf, hbe]
    have k1 : ¬ (((s.len + k : Nat) : Int) > IntKind.i64.max ∧ (False ∨ by_ = 0)) := by
      intro hh
      rcases hh.2 with h3 | h3
      · exact h3
      · omega
    rw [if_neg k1]
    simp only [run_bind', pure, Sem.run]
    have k2 : ¬ (Builtin.nextslicecap (s.len + k) s.cap * by_ > 2 ^ 48) := by
      have : (2 : Nat) ^ 48 = 281474976710656 := by decide
      omega
    rw [hinf]
    simp only [hbe]
    rw [if_neg k2]
    simp only [choose, Sem.run, Question.forced, Bool.false_eq_true, if_false, run_bind']
    have hd : ({ heap := w.heap, tape := w.tape, drawn := w.drawn + 1, os := w.os, output := w.output } : World) = w.drew := rfl
    rw [hd]
    generalize hcv : Question.cut (.appendCap (s.len + k) s.cap e) (w.tape w.drawn (.appendCap (s.len + k) s.cap e)) = cap
    have hc1 : s.len + k ≤ cap ∧ cap < 9223372036854775808 ∨ 9223372036854775808 ≤ s.len + k := by
      rw [← hcv]
      simp only [Question.cut]
      rcases Nat.lt_or_ge (s.len + k) 9223372036854775808 with h9 | h9
      · left
        have : (2 : Nat) ^ 63 = 9223372036854775808 := by decide
        rw [this]
        have := Nat.mod_lt (w.tape w.drawn (.appendCap (s.len + k) s.cap e)) (show 0 < 9223372036854775808 - (s.len + k) by omega)
        omega
      · exact .inr h9
    obtain ⟨inf2, hinf2, hbe2⟩ := run_typeInfo hb (w.drew)
    rw [hinf2]
    simp only [run_askRoom]
    rw [run_firstCells hold']
    simp only [hsrc', hv, hvc, zeroCells_eq, newRow, newObj, run_bind', pure, Sem.run]
    have hle := le_nextslicecap (show s.cap < s.len + k by omega)
    have hnc : s.len + k < 9223372036854775808 := by
      have : Builtin.nextslicecap (s.len + k) s.cap * 1 ≤ Builtin.nextslicecap (s.len + k) s.cap * by_ := Nat.mul_le_mul_left _ hby
      omega
    rcases hc1 with ⟨ha, hb'⟩ | hb'
    · have := hK cap w.heap.size _ ha hb' rfl rfl
      have e1 : (w.drew).heap.size = w.heap.size := rfl
      rw [e1]
      have e2 : (old.toArray ++ src.toArray ++ repCells (cap - (s.len + k)) zs) = (old ++ src ++ (repCells (cap - (s.len + k)) zs).toList).toArray := by
        apply Array.ext'; simp
      rw [e2]
      exact this
    · omega

theorem reg_append {t tx e : TypeId} {a xo : Operand} {s x : Slc} {sz by_ : Nat} {zs : List Value} (src : List Value)
    (ho : opAt n ops ge i = some (.call { callee := .builtin .append, args := #[a, xo], argTypes := #[t, tx] }, ty, dst))
    (hs : rho ge a = .slice s.ptr s.len s.cap) (hx : rho ge xo = .slice x.ptr x.len x.cap) (ht : P.underlying t = some (.slice e)) (hsz : sizeP P e = some sz) (hb : bytesP P e = some by_) (hz : zeroP P e = some zs)
    (hb1 : Nat.ble 1 by_ = true) (hmk : srcT P tx = true)
    (hsrc : SrcAt w x sz src) (h : AppendW sz by_ e zs s src x.len w (fun r w' => RegG P n ops Q (i + 1) (putG dst (.slice r.ptr r.len r.cap) ge) w')) : RegG P n ops Q i ge w :=
  reg_op ho (run_append hs hx ht hsz hb hz hb1 hmk (fun w => rfl) (run_firstCells hsrc)
    (run_firstCells (w := w.drew) ⟨hsrc.1, hsrc.2.imp id (fun ⟨h3, h4⟩ => ⟨h3, (CellsAt.drewN (k := 1) h4)⟩)⟩) h)

/-- A string's bytes as cells. -/
def strCells (s : ByteArray) : List Value := s.data.toList.map fun b => .int .u8 b.toNat

theorem reg_appendStr {t tx e : TypeId} {a xo : Operand} {s : Slc} {str : ByteArray} {by_ : Nat} {zs : List Value}
    (ho : opAt n ops ge i = some (.call { callee := .builtin .append, args := #[a, xo], argTypes := #[t, tx] }, ty, dst))
    (hs : rho ge a = .slice s.ptr s.len s.cap) (hx : rho ge xo = .string str) (ht : P.underlying t = some (.slice e)) (hsz : sizeP P e = some 1) (hb : bytesP P e = some by_) (hz : zeroP P e = some zs)
    (hb1 : Nat.ble 1 by_ = true) (hmk : srcT P tx = true)
    (h : AppendW 1 by_ e zs s (strCells str) str.size w (fun r w' => RegG P n ops Q (i + 1) (putG dst (.slice r.ptr r.len r.cap) ge) w')) : RegG P n ops Q i ge w := by
  have key : ∀ w : World, (Builtin.firstCells 1 str.size (.string str)).run P w = .ok (strCells str).toArray w := by
    intro w
    have e1 : str.extract 0 str.size = str := by simp
    simp only [Builtin.firstCells, e1, pure, Sem.run, strCells]
    congr 1
    apply Array.ext'
    simp
  exact reg_op ho (run_append hs hx ht hsz hb hz hb1 hmk (fun w => rfl) (key w) (key _) h)

def CopyW (d : Slc) (src : List Value) (w : World) (K : World → Prop) : Prop :=
  (src = [] ∧ K w) ∨ (IsAt d.ptr ∧ Writable w (pblk d.ptr) (poff d.ptr) src.length ∧ oneCells src = true ∧ ∀ w', w' = World.puts (pblk d.ptr) (poff d.ptr) src w → K w')
theorem CopyW.mono {d : Slc} {src : List Value} {w : World} {K K' : World → Prop} (h : CopyW d src w K) (hk : ∀ w', K w' → K' w') : CopyW d src w K' := by
  rcases h with ⟨h1, h2⟩ | ⟨h1, h2, h3, h4⟩
  · exact .inl ⟨h1, hk _ h2⟩
  · exact .inr ⟨h1, h2, h3, fun w' hw => hk _ (h4 w' hw)⟩

theorem reg_copy {t tx e : TypeId} {a xo : Operand} {d x : Slc} {sz : Nat} (src : List Value)
    (ho : opAt n ops ge i = some (.call { callee := .builtin .copy, args := #[a, xo], argTypes := #[t, tx] }, ty, dst))
    (hd : rho ge a = .slice d.ptr d.len d.cap) (hx : rho ge xo = .slice x.ptr x.len x.cap) (ht : P.underlying t = some (.slice e)) (hsz : sizeP P e = some sz)
    (hsrc : SrcAtN w x (min x.len d.len) sz src) (h : CopyW d src w (fun w' => RegG P n ops Q (i + 1) (putG dst (.int .i64 ((min x.len d.len : Nat) : Int)) ge) w')) : RegG P n ops Q i ge w := by
  refine reg_op ho ?_
  unfold OpS
  have hex : ex (.call { callee := .builtin .copy, args := #[a, xo], argTypes := #[t, tx] }) ty (rho ge) =
      (do pure (.value (← Builtin.copy_ #[t, tx] ty #[.slice d.ptr d.len d.cap, .slice x.ptr x.len x.cap])) : Sem Next) := by
    unfold ex execOp
    simp [Go.resolve, Go.invoke, Go.builtin, hd, hx, bind, Sem.bind, pure]
  rw [hex, run_bind']
  unfold Builtin.copy_
  simp only [List.getElem?_toArray, List.getElem?_cons_zero, List.getElem?_cons_succ]
  have hmin : Nat.min x.len d.len = min x.len d.len := rfl
  simp only [run_bind', run_underlying ht, run_sizeOf hsz, pure, Sem.run, Builtin.lenOf, hmin, run_firstCells hsrc]
  rcases h with ⟨he, hK⟩ | ⟨hp, hw, h1, hK⟩
  · subst he
    cases hp : d.ptr with
    | none => simp only [Sem.run, goInt]; exact hK
    | some a => simp only [storeCells, pure, Sem.run, run_bind', goInt]; exact hK
  · have hK := hK _ rfl
    have hp' : d.ptr = some ⟨pblk d.ptr, poff d.ptr, none⟩ := hp
    clear hp
    generalize pblk d.ptr = pb at *
    generalize poff d.ptr = po at *
    rw [hp']
    have := run_storeCells (P := P) (b := pb) (o := po) src 0 w (by simpa using hw) h1
    simp only [run_bind', this, Sem.run, goInt]
    exact hK

/-! #### Comparisons with nil, of structs; values of function type -/
def isPtrT (P : Program) (t : TypeId) : Bool := match P.underlying t with | some (.pointer _) => true | _ => false
def isSliceT (P : Program) (t : TypeId) : Bool := match P.underlying t with | some (.slice _) => true | _ => false
def isMapT (P : Program) (t : TypeId) : Bool := match P.underlying t with | some (.map ..) => true | _ => false
end

section
variable {P : Program} {ge : GEnv} {ty xt yt : TypeId} {x y : Operand}
theorem run_cmp {op : BinOp} {r : Value} {w : World} (h1 : (eqGuard op xt x y (rho ge x) (rho ge y)).run P w = .ok () w) (h2 : (binOp op xt (rho ge x) (rho ge y)).run P w = .ok r w) :
    (ex (.binOp op xt x y yt) ty (rho ge)).run P w = .ok (.value r) w := by
  unfold ex execOp
  simp only [run_bind', h1, h2, pure, Sem.run]
theorem isPtrT_spec (h : isPtrT P xt = true) : ∃ e, ∀ w, (underlying xt).run P w = .ok (.pointer e) w := by
  unfold isPtrT at h
  cases hu : P.underlying xt with
  | none => rw [hu] at h; cases h
  | some d => rw [hu] at h; cases d <;> first | (cases h; done) | exact ⟨_, run_underlying hu⟩
theorem isSliceT_spec (h : isSliceT P xt = true) : ∃ e, ∀ w, (underlying xt).run P w = .ok (.slice e) w := by
  unfold isSliceT at h
  cases hu : P.underlying xt with
  | none => rw [hu] at h; cases h
  | some d => rw [hu] at h; cases d <;> first | (cases h; done) | exact ⟨_, run_underlying hu⟩
theorem isMapT_spec (h : isMapT P xt = true) : ∃ d : TypeId × TypeId, ∀ w, (underlying xt).run P w = .ok (.map d.1 d.2) w := by
  unfold isMapT at h
  cases hu : P.underlying xt with
  | none => rw [hu] at h; cases h
  | some d => rw [hu] at h; cases d <;> first | (cases h; done) | exact ⟨(_, _), run_underlying hu⟩
theorem run_ptr_eql_R {p : Option Addr} (hx : rho ge x = .pointer p) (hy : rho ge y = .pointer none) (ht : isPtrT P xt = true) (w : World) :
    (ex (.binOp .eql xt x y yt) ty (rho ge)).run P w = .ok (.value (.bool p.isNone)) w := by
  obtain ⟨d, hu⟩ := isPtrT_spec ht
  have he : (Op.equal xt (.pointer p) (.pointer none)).run P w = .ok p.isNone w := by
    show (Op.equalIn (9999 + 1) xt (.pointer p) (.pointer none)).run P w = _
    unfold Op.equalIn
    rw [run_bind', hu]
    cases p <;> rfl
  refine run_cmp (by rw [hx, hy]; rfl) ?_
  rw [hx, hy]
  show (Op.equal xt (.pointer p) (.pointer none) >>= fun r => pure (Value.bool (r))).run P w = _
  rw [run_bind', he]
  rfl
theorem run_ptr_eql_L {p : Option Addr} (hx : rho ge x = .pointer none) (hy : rho ge y = .pointer p) (ht : isPtrT P xt = true) (w : World) :
    (ex (.binOp .eql xt x y yt) ty (rho ge)).run P w = .ok (.value (.bool p.isNone)) w := by
  obtain ⟨d, hu⟩ := isPtrT_spec ht
  have he : (Op.equal xt (.pointer none) (.pointer p)).run P w = .ok p.isNone w := by
    show (Op.equalIn (9999 + 1) xt (.pointer none) (.pointer p)).run P w = _
    unfold Op.equalIn
    rw [run_bind', hu]
    cases p <;> rfl
  refine run_cmp (by rw [hx, hy]; rfl) ?_
  rw [hx, hy]
  show (Op.equal xt (.pointer none) (.pointer p) >>= fun r => pure (Value.bool (r))).run P w = _
  rw [run_bind', he]
  rfl
theorem run_ptr_neq_R {p : Option Addr} (hx : rho ge x = .pointer p) (hy : rho ge y = .pointer none) (ht : isPtrT P xt = true) (w : World) :
    (ex (.binOp .neq xt x y yt) ty (rho ge)).run P w = .ok (.value (.bool (!p.isNone))) w := by
  obtain ⟨d, hu⟩ := isPtrT_spec ht
  have he : (Op.equal xt (.pointer p) (.pointer none)).run P w = .ok p.isNone w := by
    show (Op.equalIn (9999 + 1) xt (.pointer p) (.pointer none)).run P w = _
    unfold Op.equalIn
    rw [run_bind', hu]
    cases p <;> rfl
  refine run_cmp (by rw [hx, hy]; rfl) ?_
  rw [hx, hy]
  show (Op.equal xt (.pointer p) (.pointer none) >>= fun r => pure (Value.bool (!r))).run P w = _
  rw [run_bind', he]
  rfl
theorem run_ptr_neq_L {p : Option Addr} (hx : rho ge x = .pointer none) (hy : rho ge y = .pointer p) (ht : isPtrT P xt = true) (w : World) :
    (ex (.binOp .neq xt x y yt) ty (rho ge)).run P w = .ok (.value (.bool (!p.isNone))) w := by
  obtain ⟨d, hu⟩ := isPtrT_spec ht
  have he : (Op.equal xt (.pointer none) (.pointer p)).run P w = .ok p.isNone w := by
    show (Op.equalIn (9999 + 1) xt (.pointer none) (.pointer p)).run P w = _
    unfold Op.equalIn
    rw [run_bind', hu]
    cases p <;> rfl
  refine run_cmp (by rw [hx, hy]; rfl) ?_
  rw [hx, hy]
  show (Op.equal xt (.pointer none) (.pointer p) >>= fun r => pure (Value.bool (!r))).run P w = _
  rw [run_bind', he]
  rfl
theorem run_slice_eql_R {p : Option Addr} {l c : Nat} (hx : rho ge x = .slice p l c) (hy : rho ge y = .slice none 0 0) (ht : isSliceT P xt = true) (w : World) :
    (ex (.binOp .eql xt x y yt) ty (rho ge)).run P w = .ok (.value (.bool p.isNone)) w := by
  obtain ⟨d, hu⟩ := isSliceT_spec ht
  have he : (Op.equal xt (.slice p l c) (.slice none 0 0)).run P w = .ok p.isNone w := by
    show (Op.equalIn (9999 + 1) xt (.slice p l c) (.slice none 0 0)).run P w = _
    unfold Op.equalIn
    rw [run_bind', hu]
    cases p <;> rfl
  refine run_cmp (by rw [hx, hy]; rfl) ?_
  rw [hx, hy]
  show (Op.equal xt (.slice p l c) (.slice none 0 0) >>= fun r => pure (Value.bool (r))).run P w = _
  rw [run_bind', he]
  rfl
theorem run_slice_eql_L {p : Option Addr} {l c : Nat} (hx : rho ge x = .slice none 0 0) (hy : rho ge y = .slice p l c) (ht : isSliceT P xt = true) (w : World) :
    (ex (.binOp .eql xt x y yt) ty (rho ge)).run P w = .ok (.value (.bool p.isNone)) w := by
  obtain ⟨d, hu⟩ := isSliceT_spec ht
  have he : (Op.equal xt (.slice none 0 0) (.slice p l c)).run P w = .ok p.isNone w := by
    show (Op.equalIn (9999 + 1) xt (.slice none 0 0) (.slice p l c)).run P w = _
    unfold Op.equalIn
    rw [run_bind', hu]
    cases p <;> rfl
  refine run_cmp (by rw [hx, hy]; rfl) ?_
  rw [hx, hy]
  show (Op.equal xt (.slice none 0 0) (.slice p l c) >>= fun r => pure (Value.bool (r))).run P w = _
  rw [run_bind', he]
  rfl
theorem run_slice_neq_R {p : Option Addr} {l c : Nat} (hx : rho ge x = .slice p l c) (hy : rho ge y = .slice none 0 0) (ht : isSliceT P xt = true) (w : World) :
    (ex (.binOp .neq xt x y yt) ty (rho ge)).run P w = .ok (.value (.bool (!p.isNone))) w := by
  obtain ⟨d, hu⟩ := isSliceT_spec ht
  have he : (Op.equal xt (.slice p l c) (.slice none 0 0)).run P w = .ok p.isNone w := by
    show (Op.equalIn (9999 + 1) xt (.slice p l c) (.slice none 0 0)).run P w = _
    unfold Op.equalIn
    rw [run_bind', hu]
    cases p <;> rfl
  refine run_cmp (by rw [hx, hy]; rfl) ?_
  rw [hx, hy]
  show (Op.equal xt (.slice p l c) (.slice none 0 0) >>= fun r => pure (Value.bool (!r))).run P w = _
  rw [run_bind', he]
  rfl
theorem run_slice_neq_L {p : Option Addr} {l c : Nat} (hx : rho ge x = .slice none 0 0) (hy : rho ge y = .slice p l c) (ht : isSliceT P xt = true) (w : World) :
    (ex (.binOp .neq xt x y yt) ty (rho ge)).run P w = .ok (.value (.bool (!p.isNone))) w := by
  obtain ⟨d, hu⟩ := isSliceT_spec ht
  have he : (Op.equal xt (.slice none 0 0) (.slice p l c)).run P w = .ok p.isNone w := by
    show (Op.equalIn (9999 + 1) xt (.slice none 0 0) (.slice p l c)).run P w = _
    unfold Op.equalIn
    rw [run_bind', hu]
    cases p <;> rfl
  refine run_cmp (by rw [hx, hy]; rfl) ?_
  rw [hx, hy]
  show (Op.equal xt (.slice none 0 0) (.slice p l c) >>= fun r => pure (Value.bool (!r))).run P w = _
  rw [run_bind', he]
  rfl
theorem run_map_eql_R {p : Option Nat} (hx : rho ge x = .map p) (hy : rho ge y = .map none) (ht : isMapT P xt = true) (w : World) :
    (ex (.binOp .eql xt x y yt) ty (rho ge)).run P w = .ok (.value (.bool p.isNone)) w := by
  obtain ⟨d, hu⟩ := isMapT_spec ht
  have he : (Op.equal xt (.map p) (.map none)).run P w = .ok p.isNone w := by
    show (Op.equalIn (9999 + 1) xt (.map p) (.map none)).run P w = _
    unfold Op.equalIn
    rw [run_bind', hu]
    cases p <;> rfl
  refine run_cmp (by rw [hx, hy]; rfl) ?_
  rw [hx, hy]
  show (Op.equal xt (.map p) (.map none) >>= fun r => pure (Value.bool (r))).run P w = _
  rw [run_bind', he]
  rfl
theorem run_map_eql_L {p : Option Nat} (hx : rho ge x = .map none) (hy : rho ge y = .map p) (ht : isMapT P xt = true) (w : World) :
    (ex (.binOp .eql xt x y yt) ty (rho ge)).run P w = .ok (.value (.bool p.isNone)) w := by
  obtain ⟨d, hu⟩ := isMapT_spec ht
  have he : (Op.equal xt (.map none) (.map p)).run P w = .ok p.isNone w := by
    show (Op.equalIn (9999 + 1) xt (.map none) (.map p)).run P w = _
    unfold Op.equalIn
    rw [run_bind', hu]
    cases p <;> rfl
  refine run_cmp (by rw [hx, hy]; rfl) ?_
  rw [hx, hy]
  show (Op.equal xt (.map none) (.map p) >>= fun r => pure (Value.bool (r))).run P w = _
  rw [run_bind', he]
  rfl
theorem run_map_neq_R {p : Option Nat} (hx : rho ge x = .map p) (hy : rho ge y = .map none) (ht : isMapT P xt = true) (w : World) :
    (ex (.binOp .neq xt x y yt) ty (rho ge)).run P w = .ok (.value (.bool (!p.isNone))) w := by
  obtain ⟨d, hu⟩ := isMapT_spec ht
  have he : (Op.equal xt (.map p) (.map none)).run P w = .ok p.isNone w := by
    show (Op.equalIn (9999 + 1) xt (.map p) (.map none)).run P w = _
    unfold Op.equalIn
    rw [run_bind', hu]
    cases p <;> rfl
  refine run_cmp (by rw [hx, hy]; rfl) ?_
  rw [hx, hy]
  show (Op.equal xt (.map p) (.map none) >>= fun r => pure (Value.bool (!r))).run P w = _
  rw [run_bind', he]
  rfl
theorem run_map_neq_L {p : Option Nat} (hx : rho ge x = .map none) (hy : rho ge y = .map p) (ht : isMapT P xt = true) (w : World) :
    (ex (.binOp .neq xt x y yt) ty (rho ge)).run P w = .ok (.value (.bool (!p.isNone))) w := by
  obtain ⟨d, hu⟩ := isMapT_spec ht
  have he : (Op.equal xt (.map none) (.map p)).run P w = .ok p.isNone w := by
    show (Op.equalIn (9999 + 1) xt (.map none) (.map p)).run P w = _
    unfold Op.equalIn
    rw [run_bind', hu]
    cases p <;> rfl
  refine run_cmp (by rw [hx, hy]; rfl) ?_
  rw [hx, hy]
  show (Op.equal xt (.map none) (.map p) >>= fun r => pure (Value.bool (!r))).run P w = _
  rw [run_bind', he]
  rfl

/-- Are two rows of one-cell fields equal? -/
def fieldsEq (P : Program) (xs ys : List Value) : List Field → Option Bool → Option (Option Bool)
  | [], acc => some acc
  | f :: fs, acc => bif f.name == "_" then none else
    match (match xs[f.offset]?, ys[f.offset]?, P.underlying f.type with
      | some (.int k a), some (.int k' b), some (.int _) => bif (match k, k' with
          | .i8, .i8 | .i16, .i16 | .i32, .i32 | .i64, .i64 | .u8, .u8 | .u16, .u16 | .u32, .u32 | .u64, .u64 => true
          | _, _ => false) then some (a == b) else none
      | some (.bool a), some (.bool b), some .bool => some (a == b)
      | some (.string a), some (.string b), some .string => some (a == b)
      | _, _, _ => none) with
    | none => none
    | some e => fieldsEq P xs ys fs (some (match acc with | none => e | some c => c && e))
end

/-! #### An element of an array value -/
section
variable {P : Program} {n : Nat} {ops : Array Oper} {i : Nat} {ge : GEnv} {w : World} {ty : TypeId} {dst : Option Nat}
theorem run_indexArr {α : Type} {t e : TypeId} {x ix : Operand} {k : IntKind} {j : Int} {len : Nat} {f : α → Value} {l : List α} {z : α}
    (hx : rho ge x = .agg (l.map f).toArray) (hi : rho ge ix = .int k j) (ht : P.underlying t = some (.array len e)) (hs : sizeP P e = some 1) (hp : plain1 P e = true) (hl : l.length = len)
    (h0 : 0 ≤ j) (h1 : j < (len : Int)) : (ex (.index t x ix) ty (rho ge)).run P w = .ok (.value (f (l.getD j.toNat z))) w := by
  subst hl
  have hj : j.toNat < l.length := by omega
  unfold ex execOp Instr.index
  simp only [hx, hi]
  simp only [run_bind', asIntOf, run_underlying ht, Sem.run, pure]
  rw [if_pos ⟨h0, h1⟩]
  simp only [run_bind', run_sizeOf hs, part, run_isAgg_false hp, Nat.mul_one, Sem.run, pure]
  simp [hj, Sem.run, pure]

theorem reg_indexArr {α : Type} {Q : Exit → Act → World → Prop} {t e : TypeId} {x ix : Operand} {k : IntKind} {j : Int} {len : Nat} (f : α → Value) (l : List α) (z : α)
    (ho : opAt n ops ge i = some (.index t x ix, ty, dst))
    (hx : rho ge x = .agg (l.map f).toArray) (hi : rho ge ix = .int k j) (ht : P.underlying t = some (.array len e)) (hs : sizeP P e = some 1) (hp : plain1 P e = true) (hl : l.length = len)
    (h0 : 0 ≤ j) (h1 : j < (len : Int)) (h : RegG P n ops Q (i + 1) (putG dst (f (l.getD j.toNat z)) ge) w) : RegG P n ops Q i ge w :=
  reg_op ho (by unfold OpS; rw [run_indexArr (z := z) hx hi ht hs hp hl h0 h1]; exact h)
end

/-! #### []byte("a constant"): the row's mark -/
section
variable {P : Program} {n : Nat} {ops : Array Oper} {i : Nat} {ge : GEnv} {w : World} {ty : TypeId} {dst : Option Nat}
theorem reg_convMark {Q : Exit → Act → World → Prop} {t e : TypeId} {x : Operand} {b o l c : Nat} (ho : opAt n ops ge i = some (.convert t t x, ty, dst))
    (hx : rho ge x = .slice (some ⟨b, o, none⟩) l c) (ht : P.underlying t = some (.slice e)) (he : P.underlying e = some (.int .u8))
    (h : ∃ T k, w.shape? b = some (T, k) ∧ ∀ w', w' = w.freeze ⟨b, k, none⟩ 1 → RegG P n ops Q (i + 1) (putG dst (.slice (some ⟨b, o, none⟩) l c) ge) w') : RegG P n ops Q i ge w := by
  refine reg_op ho ?_
  obtain ⟨T, k, hs, h⟩ := h
  have h := h _ rfl
  have hr : (ex (.convert t t x) ty (rho ge)).run P w = .ok (.value (.slice (some ⟨b, o, none⟩) l c)) (w.freeze ⟨b, k, none⟩ 1) := by
    have hc : (convert t t (.slice (some ⟨b, o, none⟩) l c)).run P w = .ok (.slice (some ⟨b, o, none⟩) l c) (w.freeze ⟨b, k, none⟩ 1) := by
      simp [convert, run_underlying ht, run_underlying he, markStringish, hs]
    unfold ex execOp
    simp only [hx, run_bind', hc]
    rfl
  unfold OpS; rw [hr]; exact h
end
end

/-! ### A region that draws its order and holds calls that write: the walk goes by ONE order; loads and reckoning may be moved -/
def waitB (ops : Array Oper) (i j : Nat) : Bool := match ops[i]? with
  | some o => o.after.any fun e => Region.binds .any e && Nat.beq e.on j
  | none => false
def canB (ops : Array Oper) (L : List Nat) (i : Nat) : Bool := match ops[i]? with
  | some o => !L.contains i && o.after.all fun e => !Region.binds .any e || L.contains e.on
  | none => false
def onlyB (ops : Array Oper) (L : List Nat) (e : Nat) : Bool := (List.range ops.size).all fun j => Nat.beq j e || !canB ops L j
def mixB (ops : Array Oper) : Bool :=
  Region.noSelect ops && (List.range ops.size).all fun i => (match ops[i]? with
    | none => true
    | some o => (o.after.all fun e => !Region.binds .any e || Nat.blt e.on i) && (List.range ops.size).all fun j => Nat.beq i j || (match (ops[j]?).bind (·.dst) with
      | none => true
      | some d => (o.dst != some d) && (!(o.looksAt ops).contains d || waitB ops i j || waitB ops j i)))
def orderFrom (ops : Array Oper) (L : List Nat) : List Nat → Bool
  | [] => true
  | i :: r => canB ops L i && orderFrom ops (L ++ [i]) r
def orderB (ops : Array Oper) (π : List Nat) : Bool := orderFrom ops [] π
def dropB (ops : Array Oper) (e : Nat) : List Nat → List Nat → Bool
  | _, [] => true
  | seen, p :: r => (waitB ops e p || seen.any fun q => waitB ops q p) && dropB ops e (p :: seen) r

abbrev Pds := List (Nat × (World → Prop))
def PdAll : Pds → World → Prop
  | [], _ => True
  | p :: r, w => p.2 w ∧ PdAll r w
theorem PdAll.mem {w : World} : ∀ {l : Pds}, PdAll l w → ∀ p ∈ l, p.2 w
  | _ :: _, h, p, hp => by
    rcases List.mem_cons.1 hp with rfl | hp
    · exact h.1
    · exact PdAll.mem h.2 p hp
def keepOf (D : List Nat) (pd : Pds) : Pds := pd.filter fun p => !D.contains p.1

theorem mixB_edge {ops : Array Oper} (h : mixB ops = true) {i : Nat} {o : Oper} (hi : ops[i]? = some o) : ∀ e ∈ o.after, Region.binds .any e = true → e.on < i := by
  simp only [mixB, Bool.and_eq_true] at h
  have h1 := List.all_eq_true.1 h.2 i (List.mem_range.2 (getElem?_lt hi))
  simp only [hi, Bool.and_eq_true] at h1
  intro e he hb
  have h2 := Array.all_eq_true_iff_forall_mem.1 h1.1 e he
  simpa [hb, Nat.blt_eq] using h2
theorem mixB_pair {ops : Array Oper} (h : mixB ops = true) {i j d : Nat} {o : Oper} (hi : ops[i]? = some o) (hj : (ops[j]?).bind (·.dst) = some d) (hne : i ≠ j) :
    o.dst ≠ some d ∧ (d ∈ o.looksAt ops → waitB ops i j = true ∨ waitB ops j i = true) := by
  simp only [mixB, Bool.and_eq_true] at h
  have h1 := List.all_eq_true.1 h.2 i (List.mem_range.2 (getElem?_lt hi))
  simp only [hi, Bool.and_eq_true] at h1
  have hjl : j < ops.size := by
    cases hj' : ops[j]? with
    | none => rw [hj'] at hj; cases hj
    | some x => exact getElem?_lt hj'
  have h2 := List.all_eq_true.1 h1.2 j (List.mem_range.2 hjl)
  simp only [hj, Bool.or_eq_true] at h2
  have h2 := h2.resolve_left (by simpa using hne)
  simp only [Bool.and_eq_true, bne_iff_ne, Bool.or_eq_true, Bool.not_eq_true', ne_eq] at h2
  refine ⟨h2.1, fun hd => ?_⟩
  rcases h2.2 with (h3 | h3) | h3
  · have : (o.looksAt ops).contains d = true := by simpa using hd
    rw [this] at h3; cases h3
  · exact .inl h3
  · exact .inr h3
theorem mixB_unique {ops : Array Oper} (h : mixB ops = true) {i j d : Nat} (hi : (ops[i]?).bind (·.dst) = some d) (hj : (ops[j]?).bind (·.dst) = some d) : i = j := by
  by_cases hne : i = j
  · exact hne
  · cases hi' : ops[i]? with
    | none => rw [hi'] at hi; cases hi
    | some o =>
      rw [hi'] at hi
      exact absurd hi (mixB_pair h hi' hj hne).1
theorem mixB_noSel {ops : Array Oper} (h : mixB ops = true) {i : Nat} {o : Oper} (hi : ops[i]? = some o) : ∀ cs b, o.op ≠ .select cs b := by
  simp only [mixB, Bool.and_eq_true] at h
  exact fun cs b => Region.noSelect_spec h.1 i o cs b hi

theorem waitB_spec {ops : Array Oper} {i j : Nat} (h : waitB ops i j = true) : ∃ o, ops[i]? = some o ∧ ∃ e ∈ o.after, Region.binds .any e = true ∧ e.on = j := by
  unfold waitB at h
  split at h
  · rename_i o ho
    obtain ⟨e, he, hb⟩ := Array.any_eq_true'.1 h
    simp only [Bool.and_eq_true] at hb
    exact ⟨o, ho, e, he, hb.1, Nat.eq_of_beq_eq_true hb.2⟩
  · cases h
theorem canB_spec {ops : Array Oper} {L : List Nat} {i : Nat} (h : canB ops L i = true) : i ∉ L ∧ ∃ o, ops[i]? = some o ∧ ∀ e ∈ o.after, Region.binds .any e = true → e.on ∈ L := by
  unfold canB at h
  split at h
  · rename_i o ho
    simp only [Bool.and_eq_true, Bool.not_eq_true'] at h
    refine ⟨by simpa using h.1, o, ho, fun e he hb => ?_⟩
    have := Array.all_eq_true_iff_forall_mem.1 h.2 e he
    simpa [hb] using this
  · cases h

theorem looks_congr {ops : Array Oper} {o : Oper} (hsel : ∀ cs b, o.op ≠ .select cs b) {t t' : Array Value} (h : ∀ s ∈ o.looksAt ops, t.getD s undef = t'.getD s undef) :
    execOp (Act.eval ⟨t, []⟩) o = execOp (Act.eval ⟨t', []⟩) o ∧ Region.wanted o (yielded ops t) = Region.wanted o (yielded ops t') := by
  refine ⟨execOp_congr o hsel fun x hx => ?_, ?_⟩
  · cases x with
    | tmp s =>
      refine h s (List.mem_append_left _ (List.mem_filterMap.2 ⟨.tmp s, by simpa using hx, rfl⟩))
    | const u => rfl
    | global g => rfl
    | func f => rfl
  · unfold Region.wanted
    cases hg : o.guard with
    | none => rfl
    | some jw =>
      obtain ⟨j, want⟩ := jw
      simp only
      cases hs : (ops[j]?).bind (·.dst) with
      | none => simp [yielded, hs]
      | some s =>
        have he := h s (List.mem_append_right _ (by simp [hg, hs]))
        have : yielded ops t j = yielded ops t' j := by
          cases h1 : yielded ops t j with
          | some b => exact ((yielded_spec hs b).2 (he ▸ (yielded_spec hs b).1 h1)).symm
          | none =>
            cases h2 : yielded ops t' j with
            | none => rfl
            | some b => rw [(yielded_spec hs b).2 (he.trans ((yielded_spec hs b).1 h2))] at h1; cases h1
        rw [this]

/-- Where a walk by one order stands, and what may be really done by then. -/
structure MSt (P : Program) (n : Nat) (ops : Array Oper) (L : List Nat) (pd : Pds) (t0 tv : Array Value) (listed : Array Bool) (t : Array Value) : Prop where
  stat : mixB ops = true
  lclosed : ∀ i ∈ L, ∀ o, ops[i]? = some o → ∀ e ∈ o.after, Region.binds .any e = true → e.on ∈ L
  same : ∀ s, (∀ j ∈ L, (ops[j]?).bind (·.dst) ≠ some s) → tv.getD s undef = t0.getD s undef
  size : listed.size = ops.size
  sub : ∀ i, listed.getD i false = true → i ∈ L
  closed : ∀ j oj, ops[j]? = some oj → listed.getD j false = true → ∀ e ∈ oj.after, Region.binds .any e = true → listed.getD e.on false = true
  tsize : t.size = n
  vsize : tv.size = n
  agree1 : ∀ s j, listed.getD j false = true → (ops[j]?).bind (·.dst) = some s → t.getD s undef = tv.getD s undef
  agree0 : ∀ s, (∀ j, listed.getD j false = true → (ops[j]?).bind (·.dst) ≠ some s) → t.getD s undef = t0.getD s undef
  pend : ∀ i ∈ L, listed.getD i false = false → ∃ o v tvi C, ops[i]? = some o ∧ ((i, C) ∈ pd ∨ C = fun _ => True) ∧ YieldsIf P ops C o v ⟨tvi, []⟩ ∧ (∀ d, o.dst = some d → tv.getD d undef = v ∧ d < n) ∧
    ∀ s ∈ o.looksAt ops, (∀ j, waitB ops i j = true → (ops[j]?).bind (·.dst) = some s → tvi.getD s undef = tv.getD s undef) ∧
      ((∀ j, waitB ops i j = true → (ops[j]?).bind (·.dst) ≠ some s) → tvi.getD s undef = t0.getD s undef)

theorem put_getD_ne {t : Array Value} {dst : Option Nat} {v : Value} {s : Nat} (h : dst ≠ some s) : (Act.put ⟨t, []⟩ dst v).tmps.getD s undef = t.getD s undef := by
  cases dst with
  | none => rfl
  | some d =>
    show (t.setIfInBounds d v).getD s undef = _
    rw [Array.getD_eq_getD_getElem?, Array.getD_eq_getD_getElem?, Array.getElem?_setIfInBounds_ne (fun e => h (by rw [e]))]
theorem put_getD_eq {t : Array Value} {v : Value} {s : Nat} (h : s < t.size) : (Act.put ⟨t, []⟩ (some s) v).tmps.getD s undef = v := by
  show (t.setIfInBounds s v).getD s undef = _
  rw [Array.getD_eq_getD_getElem?, Array.getElem?_setIfInBounds_self_of_lt h]; rfl
theorem put_size {t : Array Value} {dst : Option Nat} {v : Value} : (Act.put ⟨t, []⟩ dst v).tmps.size = t.size := by
  cases dst with
  | none => rfl
  | some d => show (t.setIfInBounds d v).size = _; simp
theorem put_mk {t : Array Value} {dst : Option Nat} {v : Value} : Act.put ⟨t, []⟩ dst v = ⟨(Act.put ⟨t, []⟩ dst v).tmps, []⟩ := by
  cases dst <;> rfl

def unl (ops : Array Oper) (listed : Array Bool) : Nat := ((List.range ops.size).filter fun i => !listed.getD i true).length
theorem unl_set {ops : Array Oper} {listed : Array Bool} {i : Nat} (hi : i < ops.size) (hl : listed.getD i true = false) : unl ops (listed.setIfInBounds i true) < unl ops listed := by
  unfold unl
  have hle : ((List.range ops.size).filter fun k => !(listed.setIfInBounds i true).getD k true) = ((List.range ops.size).filter fun k => !listed.getD k true).filter fun k => k != i := by
    rw [List.filter_filter]
    refine List.filter_congr fun k hk => ?_
    by_cases hki : i = k
    · subst hki
      have : (listed.setIfInBounds i true).getD i true = true := by
        rw [Array.getD_eq_getD_getElem?]
        by_cases hs : i < listed.size
        · rw [Array.getElem?_setIfInBounds_self_of_lt hs]; rfl
        · rw [Array.getElem?_eq_none (by simp; omega)]; rfl
      rw [this]; simp
    · rw [getD_set_ne true hki]
      have : (k != i) = true := by simpa using fun h => hki h.symm
      rw [this]; simp
  rw [hle, List.length_filter_lt_length_iff_exists]
  exact ⟨i, List.mem_filter.2 ⟨List.mem_range.2 hi, by rw [hl]; rfl⟩, by simp⟩

theorem ready_of_unl {ops : Array Oper} {listed : Array Bool} (hs : mixB ops = true) (hsz : listed.size = ops.size) : ∀ i, i < ops.size → listed.getD i false = false → Region.ready .any ops listed ≠ [] := by
  intro i
  induction i using Nat.strongRecOn with
  | _ i ih =>
    intro hi hu hr
    have ho : ops[i]? = some ops[i] := Array.getElem?_eq_getElem hi
    by_cases h : ∃ e ∈ (ops[i]).after, Region.binds .any e = true ∧ listed.getD e.on false = false
    · obtain ⟨e, he, hb, hf⟩ := h
      have hlt := mixB_edge hs ho e he hb
      exact ih e.on hlt (by omega) hf hr
    · have : i ∈ Region.ready .any ops listed := mem_ready.2 ⟨getD_in (by omega) hu, _, ho, fun e he hb => by
        cases hx : listed.getD e.on false with
        | true => rfl
        | false => exact absurd ⟨e, he, hb, hx⟩ h⟩
      rw [hr] at this; cases this

section
variable {P : Program} {n : Nat} {ops : Array Oper} {Q : Exit → Act → World → Prop}

/-- What really comes up next is one that the walk has passed. -/
theorem MSt.real {L : List Nat} {pd : Pds} {t0 tv : Array Value} {listed : Array Bool} {t : Array Value} {w : World} (m : MSt P n ops L pd t0 tv listed t) (hw : PdAll pd w) {j : Nat}
    (hr : j ∈ Region.ready .any ops listed) (hj : j ∈ L) :
    ∃ t', (∀ K : Act → World → Prop, K ⟨t', []⟩ w → wpOp P ops Q j K ⟨t, []⟩ w) ∧ MSt P n ops L pd t0 tv (listed.setIfInBounds j true) t' := by
  obtain ⟨hun, o', ho', hall⟩ := mem_ready.1 hr
  have hunf := getD_both hun
  obtain ⟨o, v, tvi, C, ho, hC, hy, hv, hl⟩ := m.pend j hj hunf
  obtain rfl : o' = o := Option.some.inj (ho'.symm.trans ho)
  have hjl := getElem?_lt ho
  have hds : (ops[j]?).bind (·.dst) = o'.dst := by rw [ho]; rfl
  have hCw : C w := by
    rcases hC with hC | rfl
    · exact hw.mem _ hC
    · trivial
  have hagree : ∀ s ∈ o'.looksAt ops, t.getD s undef = tvi.getD s undef := by
    intro s hs
    by_cases hex : ∃ k, waitB ops j k = true ∧ (ops[k]?).bind (·.dst) = some s
    · obtain ⟨k, hk, hkd⟩ := hex
      obtain ⟨o2, ho2, e, he, hb, hon⟩ := waitB_spec hk
      obtain rfl : o2 = o' := Option.some.inj (ho2.symm.trans ho)
      have hlk : listed.getD k false = true := hon ▸ hall e he hb
      rw [m.agree1 s k hlk hkd, (hl s hs).1 k hk hkd]
    · rw [(hl s hs).2 fun k hk hkd => hex ⟨k, hk, hkd⟩]
      refine m.agree0 s fun k hlk hkd => ?_
      have hne : j ≠ k := fun e => by subst e; rw [hunf] at hlk; cases hlk
      rcases (mixB_pair m.stat ho hkd hne).2 hs with h1 | h1
      · exact hex ⟨k, h1, hkd⟩
      · obtain ⟨o2, ho2, e, he, hb, hon⟩ := waitB_spec h1
        have := m.closed k o2 ho2 hlk e he hb
        rw [hon, hunf] at this; cases this
  obtain ⟨h1, h2⟩ := looks_congr (mixB_noSel m.stat ho) hagree
  have hy' : YieldsIf P ops C o' v ⟨t, []⟩ := hy.of_same h1 h2
  refine ⟨(Act.put ⟨t, []⟩ o'.dst v).tmps, fun K hK => hy'.wpOp ho hCw (by rw [put_mk]; exact hK), ?_⟩
  refine ⟨m.stat, m.lclosed, m.same, by simp [m.size], fun i hi => ?_, fun i oi hoi hi e he hb => ?_, by rw [put_size]; exact m.tsize, m.vsize, fun s k hk hkd => ?_, fun s hk => ?_, fun i hi hil => ?_⟩
  · by_cases hij : j = i
    · exact hij ▸ hj
    · rw [getD_set_ne false hij] at hi; exact m.sub i hi
  · by_cases hij : j = i
    · subst hij
      obtain rfl : oi = o' := Option.some.inj (hoi.symm.trans ho)
      exact getD_set_true (hall e he hb)
    · rw [getD_set_ne false hij] at hi
      exact getD_set_true (m.closed i oi hoi hi e he hb)
  · by_cases hjk : j = k
    · subst hjk
      rw [hds] at hkd
      rw [hkd, put_getD_eq (by rw [m.tsize]; exact (hv s hkd).2)]
      exact (hv s hkd).1.symm
    · rw [getD_set_ne false hjk] at hk
      rw [put_getD_ne (fun h => hjk (mixB_unique m.stat (hds.trans h) hkd))]
      exact m.agree1 s k hk hkd
  · have hjs : o'.dst ≠ some s := fun h => hk j (by
      rw [Array.getD_eq_getD_getElem?, Array.getElem?_setIfInBounds_self_of_lt (by rw [m.size]; exact hjl)]; rfl) (hds.trans h)
    rw [put_getD_ne hjs]
    refine m.agree0 s fun k hlk => hk k (getD_set_true hlk)
  · refine m.pend i hi ?_
    by_cases hij : j = i
    · subst hij
      rw [Array.getD_eq_getD_getElem?, Array.getElem?_setIfInBounds_self_of_lt (by rw [m.size]; exact hjl)] at hil; cases hil
    · rwa [getD_set_ne false hij] at hil

def MX (P : Program) (n : Nat) (ops : Array Oper) (Q : Exit → Act → World → Prop) (π : List Nat) (pd : Pds) (w : World) (i : Nat) (tv : Array Value) : Prop :=
  i ≤ π.length ∧ (orderB ops π = true → ∀ t0 listed t, MSt P n ops (π.take i) pd t0 tv listed t → PdAll pd w → ∀ fuel, unl ops listed ≤ fuel → wpAny P .any ops Q fuel listed ⟨t, []⟩ w)
def RegM (P : Program) (n : Nat) (ops : Array Oper) (Q : Exit → Act → World → Prop) (π : List Nat) (pd : Pds) (i : Nat) (ge : GEnv) (w : World) : Prop := RegX (MX P n ops Q π pd w) n i ge

theorem orderFrom_can : ∀ {r L : List Nat} {i : Nat} {x : Nat}, orderFrom ops L r = true → r[i]? = some x → canB ops (L ++ r.take i) x = true
  | y :: r, L, 0, x, h, hx => by
    simp only [orderFrom, Bool.and_eq_true] at h
    simp only [List.getElem?_cons_zero, Option.some.injEq] at hx
    subst hx
    simpa using h.1
  | y :: r, L, i + 1, x, h, hx => by
    simp only [orderFrom, Bool.and_eq_true] at h
    simp only [List.getElem?_cons_succ] at hx
    have := orderFrom_can h.2 hx
    simpa using this

/-- One operation is passed by the walk: it yields v wherever C holds. -/
theorem MX.pass {π : List Nat} {pd pd' : Pds} {w : World} {k i : Nat} {tv : Array Value} {o : Oper} {v : Value} {C : World → Prop} (hk : π[k]? = some i) (ho : ops[i]? = some o)
    (hd : ∀ d, o.dst = some d → d < n) (hpd : (i, C) ∈ pd' ∨ C = fun _ => True) (hsub : ∀ p ∈ pd, p ∈ pd') (hpw : PdAll pd w → PdAll pd' w)
    (hy : tv.size = n → YieldsIf P ops C o v ⟨tv, []⟩) (h : MX P n ops Q π pd' w (k + 1) (Act.put ⟨tv, []⟩ o.dst v).tmps) : MX P n ops Q π pd w k tv := by
  obtain ⟨hle, h⟩ := h
  refine ⟨Nat.le_of_succ_le hle, fun hord t0 listed t m hw fuel hf => ?_⟩
  have htk : π.take (k + 1) = π.take k ++ [i] := by rw [List.take_add_one, hk]; rfl
  have hcan := orderFrom_can hord hk
  rw [List.nil_append] at hcan
  obtain ⟨hiL, o', ho', haft⟩ := canB_spec hcan
  obtain rfl : o' = o := Option.some.inj (ho'.symm.trans ho)
  have hds : (ops[i]?).bind (·.dst) = o'.dst := by rw [ho]; rfl
  refine h hord t0 listed t ?_ (hpw hw) fuel hf
  rw [htk]
  have hmem : ∀ {x}, x ∈ π.take k ++ [i] ↔ x ∈ π.take k ∨ x = i := fun {x} => by simp
  have hwi : ∀ x, x ∈ π.take k → waitB ops x i = true → False := fun x hx hxw => by
    obtain ⟨o2, ho2, e, he, hb, hon⟩ := waitB_spec hxw
    exact hiL (hon ▸ m.lclosed x hx o2 ho2 e he hb)
  have hself : waitB ops i i = true → False := fun hxw => by
    obtain ⟨o2, ho2, e, he, hb, hon⟩ := waitB_spec hxw
    have := mixB_edge m.stat ho2 e he hb
    omega
  have hun : listed.getD i false = false := by
    cases hx : listed.getD i false with
    | false => rfl
    | true => exact absurd (m.sub i hx) hiL
  refine ⟨m.stat, fun x hx ox hox e he hb => ?_, fun s hs => ?_, m.size, fun x hx => hmem.2 (.inl (m.sub x hx)), m.closed, m.tsize, by rw [put_size]; exact m.vsize, fun s j hj hjd => ?_, m.agree0, fun x hx hxl => ?_⟩
  · rcases hmem.1 hx with hx | rfl
    · exact hmem.2 (.inl (m.lclosed x hx ox hox e he hb))
    · obtain rfl : ox = o' := Option.some.inj (hox.symm.trans ho)
      exact hmem.2 (.inl (haft e he hb))
  · rw [put_getD_ne (fun h => hs i (hmem.2 (.inr rfl)) (hds.trans h))]
    exact m.same s fun j hj => hs j (hmem.2 (.inl hj))
  · rw [put_getD_ne (fun h => by
      have := mixB_unique m.stat hjd (hds.trans h)
      subst this; rw [hun] at hj; cases hj)]
    exact m.agree1 s j hj hjd
  · rcases hmem.1 hx with hxk | rfl
    · obtain ⟨ox, vx, tvx, Cx, hox, hCx, hyx, hvx, hlx⟩ := m.pend x hxk hxl
      have hxi : x ≠ i := fun e => hiL (e ▸ hxk)
      refine ⟨ox, vx, tvx, Cx, hox, hCx.imp (fun h => hsub _ h) id, hyx, fun d hdx => ?_, fun s hs => ⟨fun j hj hjd => ?_, (hlx s hs).2⟩⟩
      · rw [put_getD_ne (fun h => hxi (mixB_unique m.stat (by rw [hox]; exact hdx) (hds.trans h)))]
        exact hvx d hdx
      · rw [put_getD_ne (fun h => by
          have := mixB_unique m.stat hjd (hds.trans h)
          subst this; exact hwi x hxk hj)]
        exact (hlx s hs).1 j hj hjd
    · refine ⟨o', v, tv, C, ho, hpd, hy m.vsize, fun d hdx => ⟨by rw [hdx, put_getD_eq (by rw [m.vsize]; exact hd d hdx)], hd d hdx⟩, fun s hs => ⟨fun j hj hjd => ?_, fun hno => ?_⟩⟩
      · rw [put_getD_ne (fun h => by
          have := mixB_unique m.stat hjd (hds.trans h)
          subst this; exact hself hj)]
      · refine m.same s fun j hj hjd => ?_
        have hne : x ≠ j := fun e => hiL (e ▸ hj)
        rcases (mixB_pair m.stat ho hjd hne).2 hs with h1 | h1
        · exact hno j h1 hjd
        · exact hwi j hj h1

/-- The region's end: all has been passed; what is not done yet comes up in some order. -/
theorem MX.done {π : List Nat} {pd : Pds} {w : World} {k : Nat} {tv : Array Value} (hk : k = π.length) (hall : ((List.range ops.size).all fun j => π.contains j) = true)
    (h : ∀ t, t.size = n → (∀ s, t.getD s undef = tv.getD s undef) → Q .normal ⟨t, []⟩ w) : MX P n ops Q π pd w k tv := by
  subst hk
  refine ⟨Nat.le_refl _, fun _ t0 listed t m hw fuel hf => ?_⟩
  rw [List.take_length] at m
  have hin : ∀ j, j < ops.size → j ∈ π := fun j hj => by simpa using List.all_eq_true.1 hall j (List.mem_range.2 hj)
  induction fuel generalizing listed t with
  | zero =>
    have hz : unl ops listed = 0 := Nat.le_zero.1 hf
    have hlist : ∀ j, j < ops.size → listed.getD j true = true := fun j hj => by
      cases hx : listed.getD j true with
      | true => rfl
      | false =>
        have : unl ops (listed.setIfInBounds j true) < unl ops listed := unl_set hj hx
        omega
    have hre : Region.ready .any ops listed = [] := by
      cases hr : Region.ready .any ops listed with
      | nil => rfl
      | cons x xs =>
        obtain ⟨hx, ox, hox, _⟩ := mem_ready.1 (show x ∈ Region.ready .any ops listed by rw [hr]; exact List.mem_cons_self ..)
        rw [hlist x (getElem?_lt hox)] at hx; cases hx
    refine ⟨hre, h t m.tsize fun s => ?_⟩
    by_cases hw : ∃ j : Nat, (ops[j]?).bind (·.dst) = some s
    · obtain ⟨j, hj⟩ := hw
      have hjl : j < ops.size := by
        cases hj' : ops[j]? with
        | none => rw [hj'] at hj; cases hj
        | some x => exact getElem?_lt hj'
      refine m.agree1 s j ?_ hj
      have := hlist j hjl
      rw [Array.getD_eq_getD_getElem?, Array.getElem?_eq_getElem (by rw [m.size]; exact hjl)] at this ⊢
      exact this
    · rw [m.agree0 s fun j _ hj => hw ⟨j, hj⟩, m.same s fun j _ hj => hw ⟨j, hj⟩]
  | succ fuel ih =>
    refine ⟨fun hre => ?_, fun j hj => ?_⟩
    · have hlist : ∀ j, j < ops.size → listed.getD j false = true := fun j hj => by
        cases hx : listed.getD j false with
        | true => rfl
        | false => exact absurd hre (ready_of_unl m.stat m.size j hj hx)
      refine h t m.tsize fun s => ?_
      by_cases hw : ∃ j : Nat, (ops[j]?).bind (·.dst) = some s
      · obtain ⟨j, hj⟩ := hw
        have hjl : j < ops.size := by
          cases hj' : ops[j]? with
          | none => rw [hj'] at hj; cases hj
          | some x => exact getElem?_lt hj'
        exact m.agree1 s j (hlist j hjl) hj
      · rw [m.agree0 s fun j _ hj => hw ⟨j, hj⟩, m.same s fun j _ hj => hw ⟨j, hj⟩]
    · obtain ⟨hun, oj, hoj, _⟩ := mem_ready.1 hj
      have hjl := getElem?_lt hoj
      obtain ⟨t', hK, m'⟩ := m.real (Q := Q) hw hj (hin j hjl)
      exact hK _ (ih _ _ m' (by have := unl_set hjl hun; omega))

theorem dropB_listed {listed : Array Bool} (hcl : ∀ j oj, ops[j]? = some oj → listed.getD j false = true → ∀ e ∈ oj.after, Region.binds .any e = true → listed.getD e.on false = true) {e : Nat}
    (he : ∀ p, waitB ops e p = true → listed.getD p false = true) : ∀ {D seen : List Nat}, dropB ops e seen D = true → (∀ q ∈ seen, listed.getD q false = true) → ∀ p ∈ D, listed.getD p false = true
  | x :: D, seen, h, hs, p, hp => by
    simp only [dropB, Bool.and_eq_true, Bool.or_eq_true] at h
    have hx : listed.getD x false = true := by
      rcases h.1 with h1 | h1
      · exact he x h1
      · obtain ⟨q, hq, hw⟩ := List.any_eq_true.1 h1
        obtain ⟨o, ho, ed, hed, hb, hon⟩ := waitB_spec hw
        exact hon ▸ hcl q o ho (hs q hq) ed hed hb
    rcases List.mem_cons.1 hp with rfl | hp
    · exact hx
    · exact dropB_listed hcl he h.2 (fun q hq => by
        rcases List.mem_cons.1 hq with rfl | hq
        · exact hx
        · exact hs q hq) p hp

/-- What happens if operation e comes up, once the walk has passed L. -/
def EffStep (P : Program) (n : Nat) (ops : Array Oper) (Q : Exit → Act → World → Prop) (L : List Nat) (pd : Pds) (ge : GEnv) (w : World) (e : Nat) : Prop :=
  ∀ tv, Inv n tv ge → ∀ t0 listed t, MSt P n ops L pd t0 tv listed t → PdAll pd w → ∀ fuel, unl ops listed ≤ fuel + 1 → e ∈ Region.ready .any ops listed →
    wpOp P ops Q e (wpAny P .any ops Q fuel (listed.setIfInBounds e true)) ⟨t, []⟩ w

theorem eff_step {π : List Nat} {pd : Pds} {k : Nat} {ge : GEnv} {w : World} {op : Op} {ty : TypeId} {dst : Option Nat} (j : Nat) (D : List Nat) (pd' : Pds) {L : List Nat}
    (hord : orderB ops π = true) (hL : π.take k = L) (hk : π[k]? = some j) (hD : dropB ops j [] D = true) (hpd : keepOf D pd = pd')
    (ho : opAt n ops ge j = some (op, ty, dst)) (h : OpS P op ty (rho ge) w (fun v w' => PdAll pd' w' ∧ RegM P n ops Q π pd' (k + 1) (putG dst v ge) w')) : EffStep P n ops Q L pd ge w j := by
  intro tv hinv t0 listed t m hw fuel hf hj
  subst hpd
  subst hL
  unfold opAt at ho
  cases hoi : ops[j]? with
  | none => rw [hoi] at ho; cases ho
  | some oj =>
    rw [hoi] at ho
    simp only at ho
    obtain ⟨hc, ho⟩ := bif_some ho
    simp only [Bool.and_eq_true] at hc
    obtain ⟨⟨⟨hg, hsel⟩, hav⟩, hdst⟩ := hc
    simp only [Option.some.injEq, Prod.mk.injEq] at ho
    obtain ⟨hop, hty, hds⟩ := ho
    have hH : Holds tv [] := fun p hp => by cases hp
    have hexec : execOp (Act.eval ⟨tv, []⟩) oj = execOp (rho ge) oj := exec_rho hinv hH hsel hav
    have hwt := gsure_wanted (ops := ops) hinv hg
    have hdb : (ops[j]?).bind (·.dst) = oj.dst := by rw [hoi]; rfl
    have hcan := orderFrom_can hord hk
    rw [List.nil_append] at hcan
    obtain ⟨heL, o', ho', haft⟩ := canB_spec hcan
    obtain rfl : o' = oj := Option.some.inj (ho'.symm.trans hoi)
    have htk : π.take (k + 1) = π.take k ++ [j] := by rw [List.take_add_one, hk]; rfl
    have hmem : ∀ {x}, x ∈ π.take k ++ [j] ↔ x ∈ π.take k ∨ x = j := fun {x} => by simp
    have hel := getElem?_lt hoi
    have hwe : ∀ x, x ∈ π.take k → waitB ops x j = true → False := fun x hx hxw => by
      obtain ⟨o2, ho2, ed, hed, hb, hon⟩ := waitB_spec hxw
      exact heL (hon ▸ m.lclosed x hx o2 ho2 ed hed hb)
    obtain ⟨hj1, oz, hoz, hall⟩ := mem_ready.1 hj
    obtain rfl : oz = o' := Option.some.inj (hoz.symm.trans hoi)
    have hwl : ∀ p, waitB ops j p = true → listed.getD p false = true := fun p hp => by
      obtain ⟨o2, ho2, ed, hed, hb, hon⟩ := waitB_spec hp
      obtain rfl : o2 = oz := Option.some.inj (ho2.symm.trans hoi)
      exact hon ▸ hall ed hed hb
    have hdrop := dropB_listed m.closed hwl hD (fun q hq => by cases hq)
    have hagree : ∀ s ∈ oz.looksAt ops, t.getD s undef = tv.getD s undef := by
      intro s hs
      by_cases hex : ∃ x, listed.getD x false = true ∧ (ops[x]?).bind (·.dst) = some s
      · obtain ⟨x, hx, hxd⟩ := hex
        exact m.agree1 s x hx hxd
      · rw [m.agree0 s fun x hx hxd => hex ⟨x, hx, hxd⟩]
        refine (m.same s fun x hx hxd => ?_).symm
        have hne : j ≠ x := fun e => heL (e ▸ hx)
        rcases (mixB_pair m.stat hoi hxd hne).2 hs with h1 | h1
        · exact hex ⟨x, hwl x h1, hxd⟩
        · exact hwe x hx h1
    obtain ⟨h1, h2⟩ := looks_congr (mixB_noSel m.stat hoi) hagree
    have hput : ∀ v w', PdAll (keepOf D pd) w' ∧ RegM P n ops Q π (keepOf D pd) (k + 1) (putG dst v ge) w' →
        wpAny P .any ops Q fuel (listed.setIfInBounds j true) (Act.put ⟨t, []⟩ oz.dst v) w' := by
      intro v w' ⟨hp', hr⟩
      have hdn : ∀ d, oz.dst = some d → d < n ∧ freeOf ge d = true := fun d hd => by
        rw [hd] at hdst
        simp only [Bool.and_eq_true, Nat.blt_eq] at hdst
        exact hdst
      have hinv' : Inv n (Act.put ⟨tv, []⟩ oz.dst v).tmps (putG dst v ge) := by
        rw [hds] at hdst ⊢
        cases dst with
        | none => exact hinv
        | some d =>
          simp only [Bool.and_eq_true] at hdst
          exact hinv.put (v := v) (u := v) hdst.1 hdst.2 (fun p hp => by cases hp) (fun _ => rfl) (fun hh => absurd hH hh)
      rw [put_mk]
      refine (hr _ hinv').2 hord t0 _ _ ?_ hp' fuel (by have := unl_set hel hj1; omega)
      rw [htk]
      refine ⟨m.stat, fun x hx ox hox ed hed hb => ?_, fun s hs => ?_, by simp [m.size], fun x hx => ?_, fun x ox hox hx ed hed hb => ?_, by rw [put_size]; exact m.tsize, by rw [put_size]; exact m.vsize, fun s x hx hxd => ?_, fun s hs => ?_, fun x hx hxl => ?_⟩
      · rcases hmem.1 hx with hx | rfl
        · exact hmem.2 (.inl (m.lclosed x hx ox hox ed hed hb))
        · obtain rfl : ox = oz := Option.some.inj (hox.symm.trans hoi)
          exact hmem.2 (.inl (haft ed hed hb))
      · rw [put_getD_ne (fun h => hs j (hmem.2 (.inr rfl)) (hdb.trans h))]
        exact m.same s fun x hx => hs x (hmem.2 (.inl hx))
      · by_cases hjx : j = x
        · exact hmem.2 (.inr hjx.symm)
        · rw [getD_set_ne false hjx] at hx; exact hmem.2 (.inl (m.sub x hx))
      · by_cases hjx : j = x
        · subst hjx
          obtain rfl : ox = oz := Option.some.inj (hox.symm.trans hoi)
          exact getD_set_true (hall ed hed hb)
        · rw [getD_set_ne false hjx] at hx
          exact getD_set_true (m.closed x ox hox hx ed hed hb)
      · by_cases hjx : j = x
        · subst hjx
          rw [hdb] at hxd
          rw [hxd, put_getD_eq (by rw [m.tsize]; exact (hdn s hxd).1), put_getD_eq (by rw [m.vsize]; exact (hdn s hxd).1)]
        · rw [getD_set_ne false hjx] at hx
          have hne : oz.dst ≠ some s := fun h => hjx (mixB_unique m.stat (hdb.trans h) hxd)
          rw [put_getD_ne hne, put_getD_ne hne]
          exact m.agree1 s x hx hxd
      · have hjs : oz.dst ≠ some s := fun h => hs j (by
          rw [Array.getD_eq_getD_getElem?, Array.getElem?_setIfInBounds_self_of_lt (by rw [m.size]; exact hel)]; rfl) (hdb.trans h)
        rw [put_getD_ne hjs]
        exact m.agree0 s fun x hx => hs x (getD_set_true hx)
      · have hjx : j ≠ x := fun e => by
          subst e
          rw [Array.getD_eq_getD_getElem?, Array.getElem?_setIfInBounds_self_of_lt (by rw [m.size]; exact hel)] at hxl; cases hxl
        rw [getD_set_ne false hjx] at hxl
        have hxL : x ∈ π.take k := (hmem.1 hx).resolve_right fun e => hjx e.symm
        obtain ⟨ox, vx, tvx, Cx, hox, hCx, hyx, hvx, hlx⟩ := m.pend x hxL hxl
        have hxd : (ops[x]?).bind (·.dst) = ox.dst := by rw [hox]; rfl
        refine ⟨ox, vx, tvx, Cx, hox, hCx.imp (fun h => List.mem_filter.2 ⟨h, ?_⟩) id, hyx, fun d hdx => ?_, fun s hs => ⟨fun y hy hyd => ?_, (hlx s hs).2⟩⟩
        · have : x ∉ D := fun hxD => by rw [hdrop x hxD] at hxl; cases hxl
          simpa using this
        · rw [put_getD_ne (fun h => hjx (mixB_unique m.stat (hdb.trans h) (hxd.trans hdx)))]
          exact hvx d hdx
        · rw [put_getD_ne (fun h => by
            have := mixB_unique m.stat hyd (hdb.trans h)
            subst this; exact hwe x hxL hy)]
          exact (hlx s hs).1 y hy hyd
    unfold wpOp
    simp only [hoi]
    rw [if_pos (h2.trans hwt)]
    refine .inl ?_
    unfold Oper.wp
    rw [h1, hexec, ex_eq, hop, hty]
    unfold OpS at h
    generalize (ex op ty (rho ge)).run P w = r at h ⊢
    cases r with
    | halt x w' => exact h.elim
    | ok nx w' =>
      cases nx with
      | value v => exact hput _ _ h
      | skip => exact hput _ _ h
      | enter f args =>
        refine Calls.mono h ?_
        rintro ev w'' ⟨v, rfl, hr⟩
        exact hput _ _ hr
      | _ => exact h.elim

/-- Whichever of some operations that turn the world comes up next. -/
theorem mreg_fork {π : List Nat} {pd : Pds} {k : Nat} {ge : GEnv} {w : World} (e0 : Nat) (es : List Nat) (hk : π[k]? = some e0) (hB : ((List.range ops.size).all fun j => es.contains j || !canB ops (π.take k) j) = true)
    (h : ∀ e ∈ es, EffStep P n ops Q (π.take k) pd ge w e) : RegM P n ops Q π pd k ge w := by
  intro tv hinv
  have hkl : k + 1 ≤ π.length := by
    have := (List.getElem?_eq_some_iff.1 hk).1; omega
  refine ⟨Nat.le_of_succ_le hkl, fun hord t0 listed t m hw fuel hf => ?_⟩
  have hcan := orderFrom_can hord hk
  rw [List.nil_append] at hcan
  obtain ⟨heL, o', ho', haft⟩ := canB_spec hcan
  have hel := getElem?_lt ho'
  have hun : ∀ {l : Array Bool} {t : Array Value}, MSt P n ops (π.take k) pd t0 tv l t → l.getD e0 false = false := fun {l t} m => by
    cases hx : l.getD e0 false with
    | false => rfl
    | true => exact absurd (m.sub e0 hx) heL
  induction fuel generalizing listed t with
  | zero =>
    have h1 := unl_set (listed := listed) hel (getD_in (by rw [m.size]; exact hel) (hun m))
    omega
  | succ fuel ih =>
    refine ⟨fun hre => absurd hre (ready_of_unl m.stat m.size e0 hel (hun m)), fun j hj => ?_⟩
    by_cases hjL : j ∈ π.take k
    · obtain ⟨hj1, oj, hoj, _⟩ := mem_ready.1 hj
      obtain ⟨t', hK, m'⟩ := m.real (Q := Q) hw hj hjL
      exact hK _ (ih _ _ m' (by have := unl_set (getElem?_lt hoj) hj1; omega))
    · obtain ⟨hj1, oj, hoj, hall⟩ := mem_ready.1 hj
      have hje : j ∈ es := by
        have h1 := List.all_eq_true.1 hB j (List.mem_range.2 (getElem?_lt hoj))
        simp only [Bool.or_eq_true, Bool.not_eq_true'] at h1
        rcases h1 with h1 | h1
        · simpa using h1
        · exfalso
          have : canB ops (π.take k) j = true := by
            unfold canB
            rw [hoj]
            simp only [Bool.and_eq_true, Bool.not_eq_true']
            refine ⟨by simpa using hjL, Array.all_eq_true_iff_forall_mem.2 fun ed hed => ?_⟩
            cases hb : Region.binds .any ed with
            | false => simp
            | true => simpa using m.sub _ (hall ed hed hb)
          rw [this] at h1; cases h1
      exact h j hje tv hinv t0 listed t m hw fuel hf hj

/-- One operation that turns the world (a call, a store, a new block): it comes up alone, beside what the walk has passed. -/
theorem mreg_op {π : List Nat} {pd : Pds} {k : Nat} {ge : GEnv} {w : World} {op : Op} {ty : TypeId} {dst : Option Nat} (e : Nat) (D : List Nat) (pd' : Pds)
    (hk : π[k]? = some e) (hB : onlyB ops (π.take k) e = true) (hD : dropB ops e [] D = true) (hpd : keepOf D pd = pd')
    (ho : opAt n ops ge e = some (op, ty, dst)) (h : OpS P op ty (rho ge) w (fun v w' => PdAll pd' w' ∧ RegM P n ops Q π pd' (k + 1) (putG dst v ge) w')) : RegM P n ops Q π pd k ge w := by
  intro tv hinv
  have hkl : k + 1 ≤ π.length := by
    have := (List.getElem?_eq_some_iff.1 hk).1; omega
  refine ⟨Nat.le_of_succ_le hkl, fun hord t0 listed t m hw fuel hf => ?_⟩
  refine (mreg_fork (P := P) (n := n) (Q := Q) (pd := pd) (ge := ge) (w := w) e [e] hk ?_ (fun e' he' => ?_) tv hinv).2 hord t0 listed t m hw fuel hf
  · rw [List.all_eq_true] at *
    intro j hj
    have := List.all_eq_true.1 hB j hj
    simp only [Bool.or_eq_true] at this ⊢
    rcases this with h1 | h1
    · exact .inl (by have := Nat.eq_of_beq_eq_true h1; simp [this])
    · exact .inr h1
  · obtain rfl := List.mem_singleton.1 he'
    exact eff_step e' D pd' hord rfl hk hD hpd ho h

theorem wpE_mixregion {id : Nat} {c : Code} {Q : Exit → Env → World → Prop} {l : Env} {w : World} (π : List Nat) (hc : c = .region id ops true)
    (hm : P.follows .mixedOrders = true) (hB : mixB ops = true) (hO : orderB ops π = true)
    (h : ∀ w1, (∃ k, w1 = w.drewN k) → RegM P n ops (EPost n Q) π [] 0 (toG l) w1) : WpE P n c Q l w := by
  subst hc
  intro t ha
  refine wp_region_any hm ?_
  have h := (h w.drew ⟨1, rfl⟩ t ha.inv).2 hO t (Array.replicate ops.size false) t ?_ trivial ops.size ?_
  · exact h
  · refine ⟨hB, fun i hi => (by simp at hi), fun _ _ => rfl, by simp, fun i hi => ?_, fun j oj _ hl => ?_, ha.1, ha.1, fun s j hj => ?_, fun _ _ => rfl, fun i hi => (by simp at hi)⟩
    · rw [getD_replicate_false] at hi; cases hi
    · rw [getD_replicate_false] at hl; cases hl
    · rw [getD_replicate_false] at hj; cases hj
  · unfold unl
    exact Nat.le_trans (List.length_filter_le _ _) (by simp)

/-- The law of a step at one place. -/
theorem lawM {π : List Nat} {pd : Pds} {w : World} {k i : Nat} (hk : π[k]? = some i) : StepLaw1 P ops i (MX P n ops Q π pd w k) (MX P n ops Q π pd w (k + 1)) (fun d => d < n) := by
  constructor
  · intro d o t v ho hd hdn hw hr h
    exact MX.pass (C := fun _ => True) hk ho (fun d' hd' => by rw [hd] at hd'; obtain rfl := Option.some.inj hd'; exact hdn) (.inr rfl) (fun _ h => h) (fun h => h) (fun _ => .inl ⟨hw, fun w _ => hr w⟩) (by rw [hd]; exact h)
  · intro d o t ho hd hdn hw h
    exact MX.pass (C := fun _ => True) hk ho (fun d' hd' => by rw [hd] at hd'; obtain rfl := Option.some.inj hd'; exact hdn) (.inr rfl) (fun _ h => h) (fun h => h) (fun _ => .inr ⟨hw, rfl⟩) (by rw [hd]; exact h)

def stepsM (P : Program) (n : Nat) (ops : Array Oper) (π : List Nat) : List Mode → Nat → GEnv → Option GEnv
  | [], _, ge => some ge
  | m :: ms, k, ge => match π[k]? with
    | none => none
    | some i => match stepP P n ops m i ge with
      | some ge' => stepsM P n ops π ms (k + 1) ge'
      | none => none

theorem stepsM_sound {π : List Nat} {pd : Pds} {w : World} : ∀ (ms : List Mode) (k : Nat) (ge ge' : GEnv),
    stepsM P n ops π ms k ge = some ge' → RegM P n ops Q π pd (k + ms.length) ge' w → RegM P n ops Q π pd k ge w
  | [], k, ge, ge', h, hn => by simp only [stepsM, Option.some.injEq] at h; subst h; exact hn
  | m :: ms, k, ge, ge', h, hn => by
    simp only [stepsM] at h
    cases hk : π[k]? with
    | none => rw [hk] at h; cases h
    | some i =>
      rw [hk] at h
      simp only at h
      cases h1 : stepP P n ops m i ge with
      | none => rw [h1] at h; cases h
      | some g1 =>
        rw [h1] at h
        exact stepP_sound1 (lawM hk) h1 (stepsM_sound ms (k + 1) g1 ge' h (by rw [List.length_cons] at hn; rwa [Nat.add_assoc, Nat.add_comm 1]))

theorem mreg_run {π : List Nat} {pd : Pds} {w : World} {k : Nat} {ge : GEnv} (ms : List Mode) (j : Nat) (ge' : GEnv)
    (hj : k + ms.length = j) (h : (stepsM P n ops π ms k ge).map (fun g => ge'.map (fun p => gfind g p.1)) = some (ge'.map (fun p => some p.2)))
    (hn : RegM P n ops Q π pd j ge' w) : RegM P n ops Q π pd k ge w := by
  cases hs : stepsM P n ops π ms k ge with
  | none => rw [hs] at h; cases h
  | some g =>
    rw [hs] at h
    simp only [Option.map_some, Option.some.injEq] at h
    subst hj
    exact stepsM_sound ms k ge g hs fun t hinv => hn t (hinv.prune h)

theorem mreg_split {π : List Nat} {pd : Pds} {w : World} {k : Nat} {ge : GEnv} (s : Nat) (b : Bool)
    (hs : gfind ge s = some ([], .bool b)) (ht : b = true → RegM P n ops Q π pd k (resolve s true ge) w) (hf : b = false → RegM P n ops Q π pd k (resolve s false ge) w) :
    RegM P n ops Q π pd k ge w := regX_split s b hs ht hf

theorem mreg_conv {π : List Nat} {pd : Pds} {w : World} {k : Nat} {ge : GEnv} (ge' : GEnv) (he : ge = ge') (h : RegM P n ops Q π pd k ge' w) : RegM P n ops Q π pd k ge w := he ▸ h

theorem mreg_end {Q : Exit → Env → World → Prop} {π : List Nat} {pd : Pds} {w : World} {k : Nat} {ge : GEnv} (l : Env) (hk : k = π.length) (hall : ((List.range ops.size).all fun j => π.contains j) = true)
    (hl : l.map (fun p => gfind ge p.1) = l.map (fun p => some ([], p.2))) (h : Q .normal l w) : RegM P n ops (EPost n Q) π pd k ge w := by
  intro tv hinv
  refine MX.done hk hall fun t hs ht => EPost.mk ⟨hs, fun p hp => ?_⟩ h
  have := List.map_inj_left.1 hl p hp
  rw [ht]
  exact (hinv.ok _ _ _ this).1 (fun p hp => by cases hp)

/-- An operation that reads: what it reads is said by C. -/
theorem mreg_read {π : List Nat} {pd : Pds} {w : World} {k i : Nat} {ge : GEnv} {op : Op} {ty : TypeId} {dst : Option Nat} (v : Value) (C : World → Prop) (hk : π[k]? = some i)
    (ho : opAt n ops ge i = some (op, ty, dst)) (hr : ∀ w', C w' → (ex op ty (rho ge)).run P w' = .ok (.value v) w') (hC : C w)
    (h : RegM P n ops Q π ((i, C) :: pd) (k + 1) (putG dst v ge) w) : RegM P n ops Q π pd k ge w := by
  intro tv hinv
  unfold opAt at ho
  cases hoi : ops[i]? with
  | none => rw [hoi] at ho; cases ho
  | some o =>
    rw [hoi] at ho
    simp only at ho
    obtain ⟨hc, ho⟩ := bif_some ho
    simp only [Bool.and_eq_true] at hc
    obtain ⟨⟨⟨hg, hsel⟩, hav⟩, hdst⟩ := hc
    simp only [Option.some.injEq, Prod.mk.injEq] at ho
    obtain ⟨hop, hty, hds⟩ := ho
    have hH : Holds tv [] := fun p hp => by cases hp
    have hexec : execOp (Act.eval ⟨tv, []⟩) o = execOp (rho ge) o := exec_rho hinv hH hsel hav
    have hwt := gsure_wanted (ops := ops) hinv hg
    refine MX.pass (v := v) (C := C) hk hoi (fun d hd => ?_) (.inl (List.mem_cons_self ..)) (fun _ h => List.mem_cons_of_mem _ h) (fun h => ⟨hC, h⟩) (fun _ => .inl ⟨hwt, fun w' hw' => ?_⟩) (h _ ?_)
    · rw [hd] at hdst
      simp only [Bool.and_eq_true, Nat.blt_eq] at hdst
      exact hdst.1
    · rw [hexec, ex_eq, hop, hty]; exact hr w' hw'
    · rw [hds] at hdst ⊢
      cases dst with
      | none => exact hinv
      | some d =>
        simp only [Bool.and_eq_true] at hdst
        exact hinv.put (v := v) (u := v) hdst.1 hdst.2 (fun p hp => by cases hp) (fun _ => rfl) (fun hh => absurd hH hh)

theorem mreg_any {π : List Nat} {pd : Pds} {w : World} {k i : Nat} {ge : GEnv} {op : Op} {ty : TypeId} {dst : Option Nat} (v : Value) (hk : π[k]? = some i)
    (ho : opAt n ops ge i = some (op, ty, dst)) (hr : ∀ w', (ex op ty (rho ge)).run P w' = .ok (.value v) w')
    (h : RegM P n ops Q π pd (k + 1) (putG dst v ge) w) : RegM P n ops Q π pd k ge w := by
  intro tv hinv
  unfold opAt at ho
  cases hoi : ops[i]? with
  | none => rw [hoi] at ho; cases ho
  | some o =>
    rw [hoi] at ho
    simp only at ho
    obtain ⟨hc, ho⟩ := bif_some ho
    simp only [Bool.and_eq_true] at hc
    obtain ⟨⟨⟨hg, hsel⟩, hav⟩, hdst⟩ := hc
    simp only [Option.some.injEq, Prod.mk.injEq] at ho
    obtain ⟨hop, hty, hds⟩ := ho
    have hH : Holds tv [] := fun p hp => by cases hp
    have hexec : execOp (Act.eval ⟨tv, []⟩) o = execOp (rho ge) o := exec_rho hinv hH hsel hav
    have hwt := gsure_wanted (ops := ops) hinv hg
    refine MX.pass (v := v) (C := fun _ => True) hk hoi (fun d hd => ?_) (.inr rfl) (fun _ h => h) (fun h => h) (fun _ => .inl ⟨hwt, fun w' _ => ?_⟩) (h _ ?_)
    · rw [hd] at hdst
      simp only [Bool.and_eq_true, Nat.blt_eq] at hdst
      exact hdst.1
    · rw [hexec, ex_eq, hop, hty]; exact hr w'
    · rw [hds] at hdst ⊢
      cases dst with
      | none => exact hinv
      | some d =>
        simp only [Bool.and_eq_true] at hdst
        exact hinv.put (v := v) (u := v) hdst.1 hdst.2 (fun p hp => by cases hp) (fun _ => rfl) (fun hh => absurd hH hh)
end

section
variable {P : Program} {n : Nat} {ops : Array Oper} {Q : Exit → Act → World → Prop} {π : List Nat} {pd : Pds} {ps i : Nat} {ge : GEnv} {w : World} {ty : TypeId} {dst : Option Nat}

theorem mreg_val {op : Op} (hk : π[ps]? = some i) (v : Value) (ho : opAt n ops ge i = some (op, ty, dst)) (hr : ∀ ww, (ex op ty (rho ge)).run P ww = .ok (.value v) ww)
    (h : RegM P n ops Q π pd (ps + 1) (putG dst v ge) w) : RegM P n ops Q π pd ps ge w := mreg_any v hk ho hr h

theorem mreg_load1 {t : TypeId} {a : Operand} {b o : Nat} {v : Value} (hk : π[ps]? = some i) (ho : opAt n ops ge i = some (.load t a, ty, dst)) (ha : rho ge a = .pointer (some ⟨b, o, none⟩))
    (ht : plain1 P t = true) (hc : w.cell? ⟨b, o, none⟩ = some v) (h : RegM P n ops Q π ((i, fun w' => w'.cell? ⟨b, o, none⟩ = some v) :: pd) (ps + 1) (putG dst v ge) w) : RegM P n ops Q π pd ps ge w :=
  mreg_read v _ hk ho (fun _ hw => run_load1 ha ht hw) hc h

theorem mreg_loadN {t : TypeId} {a : Operand} {b o k : Nat} (hk : π[ps]? = some i) (vs : List Value) (ho : opAt n ops ge i = some (.load t a, ty, dst)) (ha : rho ge a = .pointer (some ⟨b, o, none⟩))
    (ht : aggT P t = true) (hs : sizeP P t = some k) (hz : vs.length = k) (hc : CellsAt w b o vs) (h : RegM P n ops Q π ((i, fun w' => CellsAt w' b o vs) :: pd) (ps + 1) (putG dst (.agg vs.toArray) ge) w) : RegM P n ops Q π pd ps ge w :=
  mreg_read _ _ hk ho (fun _ hw => run_loadN ha ht hs hz hw) hc h

theorem mreg_indexS {t e : TypeId} {x ix : Operand} {b o l c sz : Nat} {k : IntKind} {j : Int} (hk : π[ps]? = some i) (ho : opAt n ops ge i = some (.indexAddr t x ix, ty, dst))
    (hx : rho ge x = .slice (some ⟨b, o, none⟩) l c) (hi : rho ge ix = .int k j) (ht : P.underlying t = some (.slice e)) (hs : sizeP P e = some sz)
    (h0 : 0 ≤ j) (h1 : j < l) (h : RegM P n ops Q π pd (ps + 1) (putG dst (.pointer (some ⟨b, o + j.toNat * sz, none⟩)) ge) w) : RegM P n ops Q π pd ps ge w :=
  mreg_any _ hk ho (fun _ => run_indexS hx hi ht hs h0 h1) h

theorem mreg_indexS1 {t e : TypeId} {x ix : Operand} {b o l c : Nat} {k : IntKind} {j : Int} (hk : π[ps]? = some i) (ho : opAt n ops ge i = some (.indexAddr t x ix, ty, dst))
    (hx : rho ge x = .slice (some ⟨b, o, none⟩) l c) (hi : rho ge ix = .int k j) (ht : P.underlying t = some (.slice e)) (hs : sizeP P e = some 1)
    (h0 : 0 ≤ j) (h1 : j < l) (h : RegM P n ops Q π pd (ps + 1) (putG dst (.pointer (some ⟨b, o + j.toNat, none⟩)) ge) w) : RegM P n ops Q π pd ps ge w :=
  mreg_indexS hk ho hx hi ht hs h0 h1 (by simpa using h)

theorem mreg_indexA {t e : TypeId} {x ix : Operand} {b o len sz : Nat} {k : IntKind} {j : Int} (hk : π[ps]? = some i) (ho : opAt n ops ge i = some (.indexAddr t x ix, ty, dst))
    (hx : rho ge x = .pointer (some ⟨b, o, none⟩)) (hi : rho ge ix = .int k j) (ht : P.underlying t = some (.array len e)) (hs : sizeP P e = some sz)
    (h0 : 0 ≤ j) (h1 : j < len) (h : RegM P n ops Q π pd (ps + 1) (putG dst (.pointer (some ⟨b, o + j.toNat * sz, none⟩)) ge) w) : RegM P n ops Q π pd ps ge w :=
  mreg_any _ hk ho (fun _ => run_indexA hx hi ht hs h0 h1) h

theorem mreg_indexA1 {t e : TypeId} {x ix : Operand} {b o len : Nat} {k : IntKind} {j : Int} (hk : π[ps]? = some i) (ho : opAt n ops ge i = some (.indexAddr t x ix, ty, dst))
    (hx : rho ge x = .pointer (some ⟨b, o, none⟩)) (hi : rho ge ix = .int k j) (ht : P.underlying t = some (.array len e)) (hs : sizeP P e = some 1)
    (h0 : 0 ≤ j) (h1 : j < len) (h : RegM P n ops Q π pd (ps + 1) (putG dst (.pointer (some ⟨b, o + j.toNat, none⟩)) ge) w) : RegM P n ops Q π pd ps ge w :=
  mreg_indexA hk ho hx hi ht hs h0 h1 (by simpa using h)

theorem mreg_indexStr {t : TypeId} {x ix : Operand} {s : ByteArray} {k : IntKind} {j : Int} (hk : π[ps]? = some i) (ho : opAt n ops ge i = some (.index t x ix, ty, dst))
    (hx : rho ge x = .string s) (hi : rho ge ix = .int k j) (ht : P.underlying t = some .string) (h0 : 0 ≤ j) (h1 : j < s.size)
    (h : RegM P n ops Q π pd (ps + 1) (putG dst (.int .u8 (byteAt s j)) ge) w) : RegM P n ops Q π pd ps ge w :=
  mreg_any _ hk ho (fun _ => run_indexStr hx hi ht h0 h1) h

theorem mreg_enter {op : Op} (e : Nat) (D : List Nat) (pd' : Pds) (f : FuncId) (args : Array Value) (hk : π[ps]? = some e) (hB : onlyB ops (π.take ps) e = true) (hD : dropB ops e [] D = true) (hpd : keepOf D pd = pd')
    (ho : opAt n ops ge e = some (op, ty, dst)) (hr : ∀ ww, (ex op ty (rho ge)).run P ww = .ok (.enter f args) ww)
    (h : Calls P f args w (fun ev w' => ∃ v, ev = .returned v ∧ PdAll pd' w' ∧ RegM P n ops Q π pd' (ps + 1) (putG dst v ge) w')) : RegM P n ops Q π pd ps ge w :=
  mreg_op e D pd' hk hB hD hpd ho (by unfold OpS; rw [hr]; exact h)

theorem mreg_store {t : TypeId} {a x : Operand} {b o k : Nat} (e : Nat) (D : List Nat) (pd' : Pds) (vs : List Value) (hk : π[ps]? = some e) (hB : onlyB ops (π.take ps) e = true) (hD : dropB ops e [] D = true) (hpd : keepOf D pd = pd')
    (ho : opAt n ops ge e = some (.store t a x, ty, dst)) (ha : rho ge a = .pointer (some ⟨b, o, none⟩))
    (hx : (rho ge x).cells = vs.toArray) (hs : sizeP P t = some k) (hz : vs.length = k) (h1 : oneCells vs = true) (hw : Writable w b o k)
    (h : ∀ w', w' = World.puts b o vs w → PdAll pd' w' ∧ RegM P n ops Q π pd' (ps + 1) (putG dst undef ge) w') : RegM P n ops Q π pd ps ge w :=
  mreg_op e D pd' hk hB hD hpd ho (ops_store ha hx hs hz h1 hw h)

theorem mreg_new {op : Op} (e : Nat) (D : List Nat) (pd' : Pds) (f : Nat → Value) (o : Obj) (hk : π[ps]? = some e) (hB : onlyB ops (π.take ps) e = true) (hD : dropB ops e [] D = true) (hpd : keepOf D pd = pd')
    (ho : opAt n ops ge e = some (op, ty, dst)) (hr : (ex op ty (rho ge)).run P w = .ok (.value (f w.heap.size)) { w with heap := w.heap.push o })
    (h : ∀ b w', b = w.heap.size → w' = w.alloc o → PdAll pd' w' ∧ RegM P n ops Q π pd' (ps + 1) (putG dst (f b) ge) w') : RegM P n ops Q π pd ps ge w :=
  mreg_op e D pd' hk hB hD hpd ho (by unfold OpS; rw [hr]; exact h _ _ rfl rfl)
end

section
variable {P : Program} {n : Nat} {ops : Array Oper} {Q : Exit → Act → World → Prop} {π : List Nat} {pd : Pds} {k : Nat} {ge : GEnv} {w : World} {ty : TypeId} {dst : Option Nat}
theorem eff_enter {op : Op} {L : List Nat} (e : Nat) (D : List Nat) (pd' : Pds) (f : FuncId) (args : Array Value) (hord : orderB ops π = true) (hL : π.take k = L) (hk : π[k]? = some e) (hD : dropB ops e [] D = true) (hpd : keepOf D pd = pd')
    (ho : opAt n ops ge e = some (op, ty, dst)) (hr : ∀ ww, (ex op ty (rho ge)).run P ww = .ok (.enter f args) ww)
    (h : Calls P f args w (fun ev w' => ∃ v, ev = .returned v ∧ PdAll pd' w' ∧ RegM P n ops Q π pd' (k + 1) (putG dst v ge) w')) : EffStep P n ops Q L pd ge w e :=
  eff_step e D pd' hord hL hk hD hpd ho (by unfold OpS; rw [hr]; exact h)
theorem eff_new {op : Op} {L : List Nat} (e : Nat) (D : List Nat) (pd' : Pds) (f : Nat → Value) (o : Obj) (hord : orderB ops π = true) (hL : π.take k = L) (hk : π[k]? = some e) (hD : dropB ops e [] D = true) (hpd : keepOf D pd = pd')
    (ho : opAt n ops ge e = some (op, ty, dst)) (hr : (ex op ty (rho ge)).run P w = .ok (.value (f w.heap.size)) { w with heap := w.heap.push o })
    (h : ∀ b w', b = w.heap.size → w' = w.alloc o → PdAll pd' w' ∧ RegM P n ops Q π pd' (k + 1) (putG dst (f b) ge) w') : EffStep P n ops Q L pd ge w e :=
  eff_step e D pd' hord hL hk hD hpd ho (by unfold OpS; rw [hr]; exact h _ _ rfl rfl)
theorem fork_two {C : Nat → Prop} {a b : Nat} (ha : C a) (hb : C b) : ∀ e ∈ [a, b], C e := fun e he => by
  rcases List.mem_cons.1 he with rfl | he
  · exact ha
  · rw [List.mem_singleton.1 he]; exact hb
end
section
variable [Rnd]


def intT (P : Program) (t : TypeId) : Bool := match P.underlying t with | some (.int _) => true | _ => false
section
variable {P : Program} {n : Nat} {ops : Array Oper} {i : Nat} {ge : GEnv} {w : World} {ty e : TypeId} {dst : Option Nat}
theorem run_appendZ {t tx e : TypeId} {a x : Operand} {s : Slc} {sz by_ : Nat} {zs : List Value} {l : Int} {K : Value → World → Prop}
    (hs : rho ge a = .slice s.ptr s.len s.cap) (hx : rho ge x = .int .i64 l) (ht : P.underlying t = some (.slice e)) (hsz : sizeP P e = some sz) (hb : bytesP P e = some by_) (hz : zeroP P e = some zs)
    (hb1 : Nat.ble 1 by_ = true) (hmk : intT P tx = true) (hzl : zs.length = sz) (h0 : 0 ≤ l) (hlb : l * (by_ : Int) ≤ 281474976710656)
    (h : AppendW sz by_ e zs s (repCells l.toNat zs).toList l.toNat w (fun r w' => K (.slice r.ptr r.len r.cap) w')) :
    OpS P (.call { callee := .builtin .append, args := #[a, x], argTypes := #[t, tx] }) ty (rho ge) w K := by
  have hby : 1 ≤ by_ := Nat.le_of_ble_eq_true hb1
  obtain ⟨ki, hdx⟩ : ∃ d, P.underlying tx = some (.int d) := by
    unfold intT at hmk
    cases hu : P.underlying tx with
    | none => rw [hu] at hmk; cases hmk
    | some d =>
      rw [hu] at hmk
      cases d <;> first | (cases hmk; done) | exact ⟨_, rfl⟩
  have hl48 : l ≤ 281474976710656 := by
    have : l * 1 ≤ l * (by_ : Int) := Int.mul_le_mul_of_nonneg_left (by omega) h0
    omega
  have hwl : IntKind.i64.wrap l = l := IntWalk.i64_in _ (by omega)
  generalize hkd : l.toNat = k at *
  generalize hsd : (repCells k zs).toList = src at *
  have hsrc : ∀ w : World, ((if k * sz = 0 then Sem.pure #[] else (zeroValue e >>= fun v => Sem.pure (Builtin.zeroCells v.cells k))) : Sem (Array Value)).run P w = .ok src.toArray w := by
    intro w
    obtain ⟨v, hv, hvc⟩ := run_zeroValue hz w
    split
    · rename_i hz0
      have : src = [] := by
        rw [← hsd, ← repCells_eq, hzl, hz0]; simp
      rw [this]; rfl
    · simp only [run_bind', hv, hvc, pure, Sem.run, zeroCells_eq]
      rw [← hsd]
  unfold OpS
  have hex : ex (.call { callee := .builtin .append, args := #[a, x], argTypes := #[t, tx] }) ty (rho ge) =
      (do pure (.value (← Builtin.append_ #[t, tx] ty #[.slice s.ptr s.len s.cap, .int .i64 l])) : Sem Next) := by
    unfold ex execOp
    simp [Go.resolve, Go.invoke, Go.builtin, hs, hx, bind, Sem.bind, pure]
  rw [hex, run_bind']
  unfold Builtin.append_
  simp only [List.getElem?_toArray, List.getElem?_cons_zero, List.getElem?_cons_succ]
  simp only [run_bind', run_underlying ht, run_sizeOf hsz, run_underlying hdx, pure, Sem.run, asInt, asIntOf, if_true, hwl]
  obtain ⟨inf0, hinf0, hbe0⟩ := run_typeInfo hb w
  rw [if_neg (by omega)]
  simp only [run_bind', hinf0, hbe0]
  have k0 : ¬ (l * (by_ : Int) > 2 ^ 48) := by
    have : (2 : Int) ^ 48 = 281474976710656 := by decide
    omega
  rw [if_neg k0]
  simp only [run_bind', pure, Sem.run, hkd, Bool.not_true, Bool.false_eq_true, if_false, if_true]
  by_cases hfit : s.len + k ≤ s.cap
  · rw [if_pos hfit]
    simp only [run_bind', hsrc w]
    rcases h.1 hfit with ⟨he, hK⟩ | ⟨hp, hw, h1, hK⟩
    · subst he
      cases hp : s.ptr with
      | none => rw [hp] at hK; simp only [pure, Sem.run]; exact hK
      | some a => rw [hp] at hK; simp only [storeCells, pure, Sem.run, run_bind']; exact hK
    · have hK := hK _ rfl
      have hp' : s.ptr = some ⟨pblk s.ptr, poff s.ptr, none⟩ := hp
      clear hp
      generalize pblk s.ptr = pb at *
      generalize poff s.ptr = po at *
      rw [hp'] at hK ⊢
      simp only [run_bind', addr_add]
      have := run_storeCells (P := P) (b := pb) (o := po + s.len * sz) src 0 w (by simpa using hw) h1
      rw [this]
      simp only [pure, Sem.run]
      exact hK
  · rw [if_neg hfit]
    obtain ⟨hcap, old, hold, hK⟩ := h.2 (by omega)
    obtain ⟨inf, hinf, hbe⟩ := run_typeInfo hb w
    obtain ⟨v, hv, hvc⟩ := run_zeroValue hz (w.drew)
    have hold' : SrcAtN (w.drew) s s.len sz old := by
      obtain ⟨h1, h2⟩ := hold
      exact ⟨h1, h2.imp id (fun ⟨h3, h4⟩ => ⟨h3, (CellsAt.drewN (k := 1) h4)⟩)⟩
    simp only [run_bind', hinf, hbe]
    have hle0 := le_nextslicecap (show s.cap < s.len + k by omega)
    have k1 : ¬ (((s.len + k : Nat) : Int) > IntKind.i64.max ∧ (True ∨ by_ = 0)) := by
      intro hh
      have h4 : Builtin.nextslicecap (s.len + k) s.cap * 1 ≤ Builtin.nextslicecap (s.len + k) s.cap * by_ := Nat.mul_le_mul_left _ hby
      have hm : IntKind.i64.max = 9223372036854775807 := by decide
      rw [hm] at hh
      omega
    rw [if_neg k1]
    simp only [run_bind', pure, Sem.run]
    have k2 : ¬ (Builtin.nextslicecap (s.len + k) s.cap * by_ > 2 ^ 48) := by
      have : (2 : Nat) ^ 48 = 281474976710656 := by decide
      omega
    rw [hinf]
    simp only [hbe]
    rw [if_neg k2]
    simp only [choose, Sem.run, Question.forced, Bool.false_eq_true, if_false, run_bind']
    have hd : ({ heap := w.heap, tape := w.tape, drawn := w.drawn + 1, os := w.os, output := w.output } : World) = w.drew := rfl
    rw [hd]
    generalize hcv : Question.cut (.appendCap (s.len + k) s.cap e) (w.tape w.drawn (.appendCap (s.len + k) s.cap e)) = cap
    have hc1 : s.len + k ≤ cap ∧ cap < 9223372036854775808 ∨ 9223372036854775808 ≤ s.len + k := by
      rw [← hcv]
      simp only [Question.cut]
      rcases Nat.lt_or_ge (s.len + k) 9223372036854775808 with h9 | h9
      · left
        have : (2 : Nat) ^ 63 = 9223372036854775808 := by decide
        rw [this]
        have := Nat.mod_lt (w.tape w.drawn (.appendCap (s.len + k) s.cap e)) (show 0 < 9223372036854775808 - (s.len + k) by omega)
        omega
      · exact .inr h9
    obtain ⟨inf2, hinf2, hbe2⟩ := run_typeInfo hb (w.drew)
    rw [hinf2]
    simp only [run_askRoom]
    rw [run_firstCells hold']
    simp only [hsrc w.drew, hv, hvc, zeroCells_eq, newRow, newObj, run_bind', pure, Sem.run]
    have hle := le_nextslicecap (show s.cap < s.len + k by omega)
    have hnc : s.len + k < 9223372036854775808 := by
      have : Builtin.nextslicecap (s.len + k) s.cap * 1 ≤ Builtin.nextslicecap (s.len + k) s.cap * by_ := Nat.mul_le_mul_left _ hby
      omega
    rcases hc1 with ⟨ha, hb'⟩ | hb'
    · have := hK cap w.heap.size _ ha hb' rfl rfl
      have e1 : (w.drew).heap.size = w.heap.size := rfl
      rw [e1]
      have e2 : (old.toArray ++ src.toArray ++ repCells (cap - (s.len + k)) zs) = (old ++ src ++ (repCells (cap - (s.len + k)) zs).toList).toArray := by
        apply Array.ext'; simp
      rw [e2]
      exact this
    · omega
end

/-! ### More operations in a mixed region; bytes as a text -/
section
variable {P : Program} {n : Nat} {ops : Array Oper} {Q : Exit → Act → World → Prop} {π : List Nat} {pd : Pds} {ps i : Nat} {ge : GEnv} {w : World} {ty : TypeId} {dst : Option Nat}

theorem mreg_makeSlice {t e : TypeId} {lo co : Operand} {l c : Int} {sz by_ : Nat} {zs : List Value} (oe : Nat) (D : List Nat) (pd' : Pds) (hk : π[ps]? = some oe) (hB : onlyB ops (π.take ps) oe = true) (hD : dropB ops oe [] D = true) (hpd : keepOf D pd = pd') (ho : opAt n ops ge oe = some (.makeSlice t lo co, ty, dst))
    (hl : rho ge lo = .int .i64 l) (hc : rho ge co = .int .i64 c) (ht : P.underlying t = some (.slice e)) (hs : sizeP P e = some sz) (hb : bytesP P e = some by_) (hz : zeroP P e = some zs)
    (hn : zs.length = sz) (hb1 : Nat.ble 1 by_ = true) (h0 : 0 ≤ l) (h1 : l ≤ c) (h2 : (by_ : Int) * c ≤ 281474976710656)
    (h : ∀ b w', b = w.heap.size → w' = w.alloc (Obj.cells (repCells c.toNat zs) e (0, 0)) → PdAll pd' w' ∧ RegM P n ops Q π pd' (ps + 1) (putG dst (.slice (some ⟨b, 0, none⟩) l.toNat c.toNat) ge) w') : RegM P n ops Q π pd ps ge w := by
  refine mreg_op oe D pd' hk hB hD hpd ho ?_
  subst hn
  have hby : 1 ≤ by_ := Nat.le_of_ble_eq_true hb1
  have hcb : c ≤ 281474976710656 := by
    have : 1 * c ≤ (by_ : Int) * c := Int.mul_le_mul_of_nonneg_right (by omega) (by omega)
    omega
  have hwl : IntKind.i64.wrap l = l := IntWalk.i64_in _ (by omega)
  have hwc : IntKind.i64.wrap c = c := IntWalk.i64_in _ (by omega)
  obtain ⟨v, hv, hvc⟩ := run_zeroValue hz w
  obtain ⟨inf, hinf, hbe⟩ := run_typeInfo hb w
  have hr : (ex (.makeSlice t lo co) ty (rho ge)).run P w = .ok (.value (.slice (some ⟨w.heap.size, 0, none⟩) l.toNat c.toNat)) (w.alloc (Obj.cells (repCells c.toNat zs) e (0, 0))) := by
    unfold ex execOp Instr.makeSlice
    simp only [hl, hc]
    simp only [run_bind', run_underlying ht, asInt, asIntOf, pure, Sem.run, hinf, hbe, hwl, hwc]
    have k1 : (decide (c < 0) || decide ((by_ : Int) * c > 2 ^ 48)) = false := by
      simp only [Bool.or_eq_false_iff, decide_eq_false_iff_not]
      have : (2 : Int) ^ 48 = 281474976710656 := by decide
      rw [this]; omega
    have k2 : ¬ ((decide (c < 0) || decide ((by_ : Int) * c > 2 ^ 48)) = true ∨ l < 0) := by
      rw [k1]; simp; omega
    simp only [k1, Bool.false_or, Bool.or_eq_true, decide_eq_true_eq]
    rw [if_neg (by omega)]
    simp only [run_bind', run_askRoom, run_sizeOf hs]
    by_cases hz0 : c.toNat * zs.length = 0
    · rw [if_pos hz0]
      simp only [pure, Sem.run, newRow, newObj, run_bind']
      have e1 : repCells c.toNat zs = #[] := by
        rw [← repCells_eq, hz0]; simp
      have e2 : ∀ f : Nat → Value, Array.map f (Array.range 0) = #[] := fun f => by simp
      rw [hz0, e1, e2]
      rfl
    · rw [if_neg hz0]
      simp only [run_bind', hv, pure, Sem.run, newRow, newObj, hvc]
      rw [repCells_eq]
      rfl
  unfold OpS
  rw [hr]
  exact h _ _ rfl rfl

theorem mreg_append {t tx e : TypeId} {a xo : Operand} {s x : Slc} {sz by_ : Nat} {zs : List Value} (oe : Nat) (D : List Nat) (pd' : Pds) (src : List Value) (hk : π[ps]? = some oe) (hB : onlyB ops (π.take ps) oe = true) (hD : dropB ops oe [] D = true) (hpd : keepOf D pd = pd') 
    (ho : opAt n ops ge oe = some (.call { callee := .builtin .append, args := #[a, xo], argTypes := #[t, tx] }, ty, dst))
    (hs : rho ge a = .slice s.ptr s.len s.cap) (hx : rho ge xo = .slice x.ptr x.len x.cap) (ht : P.underlying t = some (.slice e)) (hsz : sizeP P e = some sz) (hb : bytesP P e = some by_) (hz : zeroP P e = some zs)
    (hb1 : Nat.ble 1 by_ = true) (hmk : srcT P tx = true)
    (hsrc : SrcAt w x sz src) (h : AppendW sz by_ e zs s src x.len w (fun r w' => PdAll pd' w' ∧ RegM P n ops Q π pd' (ps + 1) (putG dst (.slice r.ptr r.len r.cap) ge) w')) : RegM P n ops Q π pd ps ge w :=
  mreg_op oe D pd' hk hB hD hpd ho (run_append hs hx ht hsz hb hz hb1 hmk (fun w => rfl) (run_firstCells hsrc)
    (run_firstCells (w := w.drew) ⟨hsrc.1, hsrc.2.imp id (fun ⟨h3, h4⟩ => ⟨h3, (CellsAt.drewN (k := 1) h4)⟩)⟩) h)

theorem mreg_appendStr {t tx e : TypeId} {a xo : Operand} {s : Slc} {str : ByteArray} {by_ : Nat} {zs : List Value}
    (oe : Nat) (D : List Nat) (pd' : Pds) (hk : π[ps]? = some oe) (hB : onlyB ops (π.take ps) oe = true) (hD : dropB ops oe [] D = true) (hpd : keepOf D pd = pd') (ho : opAt n ops ge oe = some (.call { callee := .builtin .append, args := #[a, xo], argTypes := #[t, tx] }, ty, dst))
    (hs : rho ge a = .slice s.ptr s.len s.cap) (hx : rho ge xo = .string str) (ht : P.underlying t = some (.slice e)) (hsz : sizeP P e = some 1) (hb : bytesP P e = some by_) (hz : zeroP P e = some zs)
    (hb1 : Nat.ble 1 by_ = true) (hmk : srcT P tx = true)
    (h : AppendW 1 by_ e zs s (strCells str) str.size w (fun r w' => PdAll pd' w' ∧ RegM P n ops Q π pd' (ps + 1) (putG dst (.slice r.ptr r.len r.cap) ge) w')) : RegM P n ops Q π pd ps ge w := by
  have key : ∀ w : World, (Builtin.firstCells 1 str.size (.string str)).run P w = .ok (strCells str).toArray w := by
    intro w
    have e1 : str.extract 0 str.size = str := by simp
    simp only [Builtin.firstCells, e1, pure, Sem.run, strCells]
    congr 1
    apply Array.ext'
    simp
  exact mreg_op oe D pd' hk hB hD hpd ho (run_append hs hx ht hsz hb hz hb1 hmk (fun w => rfl) (key w) (key _) h)

theorem mreg_copy {t tx e : TypeId} {a xo : Operand} {d x : Slc} {sz : Nat} (oe : Nat) (D : List Nat) (pd' : Pds) (src : List Value) (hk : π[ps]? = some oe) (hB : onlyB ops (π.take ps) oe = true) (hD : dropB ops oe [] D = true) (hpd : keepOf D pd = pd') 
    (ho : opAt n ops ge oe = some (.call { callee := .builtin .copy, args := #[a, xo], argTypes := #[t, tx] }, ty, dst))
    (hd : rho ge a = .slice d.ptr d.len d.cap) (hx : rho ge xo = .slice x.ptr x.len x.cap) (ht : P.underlying t = some (.slice e)) (hsz : sizeP P e = some sz)
    (hsrc : SrcAtN w x (min x.len d.len) sz src) (h : CopyW d src w (fun w' => PdAll pd' w' ∧ RegM P n ops Q π pd' (ps + 1) (putG dst (.int .i64 ((min x.len d.len : Nat) : Int)) ge) w')) : RegM P n ops Q π pd ps ge w := by
  refine mreg_op oe D pd' hk hB hD hpd ho ?_
  unfold OpS
  have hex : ex (.call { callee := .builtin .copy, args := #[a, xo], argTypes := #[t, tx] }) ty (rho ge) =
      (do pure (.value (← Builtin.copy_ #[t, tx] ty #[.slice d.ptr d.len d.cap, .slice x.ptr x.len x.cap])) : Sem Next) := by
    unfold ex execOp
    simp [Go.resolve, Go.invoke, Go.builtin, hd, hx, bind, Sem.bind, pure]
  rw [hex, run_bind']
  unfold Builtin.copy_
  simp only [List.getElem?_toArray, List.getElem?_cons_zero, List.getElem?_cons_succ]
  have hmin : Nat.min x.len d.len = min x.len d.len := rfl
  simp only [run_bind', run_underlying ht, run_sizeOf hsz, pure, Sem.run, Builtin.lenOf, hmin, run_firstCells hsrc]
  rcases h with ⟨he, hK⟩ | ⟨hp, hw, h1, hK⟩
  · subst he
    cases hp : d.ptr with
    | none => simp only [Sem.run, goInt]; exact hK
    | some a => simp only [storeCells, pure, Sem.run, run_bind', goInt]; exact hK
  · have hK := hK _ rfl
    have hp' : d.ptr = some ⟨pblk d.ptr, poff d.ptr, none⟩ := hp
    clear hp
    generalize pblk d.ptr = pb at *
    generalize poff d.ptr = po at *
    rw [hp']
    have := run_storeCells (P := P) (b := pb) (o := po) src 0 w (by simpa using hw) h1
    simp only [run_bind', this, Sem.run, goInt]
    exact hK

theorem mreg_slice {t e : TypeId} {x lo : Operand} {s : Slc} {sz : Nat} {k : IntKind} {a : Int} (hk : π[ps]? = some i) (ho : opAt n ops ge i = some (.slice t x (some lo) none none, ty, dst))
    (hx : rho ge x = .slice s.ptr s.len s.cap) (hl : rho ge lo = .int k a) (ht : P.underlying t = some (.slice e)) (hs : sizeP P e = some sz)
    (hc : 0 ≤ a ∧ a ≤ ((s.len : Nat) : Int) ∧ ((s.len : Nat) : Int) ≤ ((s.cap : Nat) : Int) ∧ ((s.cap : Nat) : Int) ≤ ((s.cap : Nat) : Int))
    (h : ∀ r, r = Slc.cut sz s a s.len s.cap → RegM P n ops Q π pd (ps + 1) (putG dst (.slice r.ptr r.len r.cap) ge) w) : RegM P n ops Q π pd ps ge w :=
  mreg_any _ hk ho (fun _ => run_slice hx hl ht hs hc) (h _ rfl)
theorem qreg_slice {m : Nat} {C : World → Prop} {Q : Act → Prop} {t e : TypeId} {x lo : Operand} {s : Slc} {sz : Nat} {k : IntKind} {a : Int} (ho : opAt n ops ge i = some (.slice t x (some lo) none none, ty, dst))
    (hx : rho ge x = .slice s.ptr s.len s.cap) (hl : rho ge lo = .int k a) (ht : P.underlying t = some (.slice e)) (hs : sizeP P e = some sz)
    (hc : 0 ≤ a ∧ a ≤ ((s.len : Nat) : Int) ∧ ((s.len : Nat) : Int) ≤ ((s.cap : Nat) : Int) ∧ ((s.cap : Nat) : Int) ≤ ((s.cap : Nat) : Int))
    (h : ∀ r, r = Slc.cut sz s a s.len s.cap → RegQ P n ops m C Q (i + 1) (putG dst (.slice r.ptr r.len r.cap) ge) w) : RegQ P n ops m C Q i ge w :=
  qreg_op _ ho (fun _ _ => run_slice hx hl ht hs hc) (h _ rfl)
theorem mreg_sliceH {t e : TypeId} {x lo hi : Operand} {s : Slc} {sz : Nat} {k k' : IntKind} {a b : Int} (hk : π[ps]? = some i) (ho : opAt n ops ge i = some (.slice t x (some lo) (some hi) none, ty, dst))
    (hx : rho ge x = .slice s.ptr s.len s.cap) (hl : rho ge lo = .int k a) (hh : rho ge hi = .int k' b) (ht : P.underlying t = some (.slice e)) (hs : sizeP P e = some sz)
    (hc : 0 ≤ a ∧ a ≤ b ∧ b ≤ ((s.cap : Nat) : Int) ∧ ((s.cap : Nat) : Int) ≤ ((s.cap : Nat) : Int))
    (h : ∀ r, r = Slc.cut sz s a b s.cap → RegM P n ops Q π pd (ps + 1) (putG dst (.slice r.ptr r.len r.cap) ge) w) : RegM P n ops Q π pd ps ge w :=
  mreg_any _ hk ho (fun _ => run_sliceH hx hl hh ht hs hc) (h _ rfl)
theorem qreg_sliceH {m : Nat} {C : World → Prop} {Q : Act → Prop} {t e : TypeId} {x lo hi : Operand} {s : Slc} {sz : Nat} {k k' : IntKind} {a b : Int} (ho : opAt n ops ge i = some (.slice t x (some lo) (some hi) none, ty, dst))
    (hx : rho ge x = .slice s.ptr s.len s.cap) (hl : rho ge lo = .int k a) (hh : rho ge hi = .int k' b) (ht : P.underlying t = some (.slice e)) (hs : sizeP P e = some sz)
    (hc : 0 ≤ a ∧ a ≤ b ∧ b ≤ ((s.cap : Nat) : Int) ∧ ((s.cap : Nat) : Int) ≤ ((s.cap : Nat) : Int))
    (h : ∀ r, r = Slc.cut sz s a b s.cap → RegQ P n ops m C Q (i + 1) (putG dst (.slice r.ptr r.len r.cap) ge) w) : RegQ P n ops m C Q i ge w :=
  qreg_op _ ho (fun _ _ => run_sliceH hx hl hh ht hs hc) (h _ rfl)
theorem mreg_sliceHM {t e : TypeId} {x lo hi mx : Operand} {s : Slc} {sz : Nat} {k k' k'' : IntKind} {a b c : Int} (hk : π[ps]? = some i) (ho : opAt n ops ge i = some (.slice t x (some lo) (some hi) (some mx), ty, dst))
    (hx : rho ge x = .slice s.ptr s.len s.cap) (hl : rho ge lo = .int k a) (hh : rho ge hi = .int k' b) (hm : rho ge mx = .int k'' c) (ht : P.underlying t = some (.slice e)) (hs : sizeP P e = some sz)
    (hc : 0 ≤ a ∧ a ≤ b ∧ b ≤ c ∧ c ≤ ((s.cap : Nat) : Int))
    (h : ∀ r, r = Slc.cut sz s a b c → RegM P n ops Q π pd (ps + 1) (putG dst (.slice r.ptr r.len r.cap) ge) w) : RegM P n ops Q π pd ps ge w :=
  mreg_any _ hk ho (fun _ => run_sliceHM hx hl hh hm ht hs hc) (h _ rfl)

theorem qreg_sliceHM {m : Nat} {C : World → Prop} {Q : Act → Prop} {t e : TypeId} {x lo hi mx : Operand} {s : Slc} {sz : Nat} {k k' k'' : IntKind} {a b c : Int} (ho : opAt n ops ge i = some (.slice t x (some lo) (some hi) (some mx), ty, dst))
    (hx : rho ge x = .slice s.ptr s.len s.cap) (hl : rho ge lo = .int k a) (hh : rho ge hi = .int k' b) (hm : rho ge mx = .int k'' c) (ht : P.underlying t = some (.slice e)) (hs : sizeP P e = some sz)
    (hc : 0 ≤ a ∧ a ≤ b ∧ b ≤ c ∧ c ≤ ((s.cap : Nat) : Int))
    (h : ∀ r, r = Slc.cut sz s a b c → RegQ P n ops m C Q (i + 1) (putG dst (.slice r.ptr r.len r.cap) ge) w) : RegQ P n ops m C Q i ge w :=
  qreg_op _ ho (fun _ _ => run_sliceHM hx hl hh hm ht hs hc) (h _ rfl)

theorem mreg_sliceHi {t e : TypeId} {x hi : Operand} {p : Option Addr} {l c sz : Nat} {k : IntKind} {j : Int} (hk : π[ps]? = some i) (ho : opAt n ops ge i = some (.slice t x none (some hi) none, ty, dst))
    (hx : rho ge x = .slice p l c) (hh : rho ge hi = .int k j) (ht : P.underlying t = some (.slice e)) (hs : sizeP P e = some sz)
    (h0 : 0 ≤ j) (h1 : j ≤ c) (h : RegM P n ops Q π pd (ps + 1) (putG dst (.slice p j.toNat c) ge) w) : RegM P n ops Q π pd ps ge w :=
  mreg_any _ hk ho (fun _ => by
    rw [run_sliceAll (s := ⟨p, l, c⟩) (l := 0) (h := j.toNat) (m := c) hx ht hs]
    · have hadd : p.map (fun a => a.add 0) = p := by cases p <;> simp [Addr.add]
      simp [hadd]
    · simp only [Instr.sliceBounds, Option.map_some, Option.map_none, hh, run_bind', pure, Sem.run, run_sliceBound h0 h1]) h


theorem bytes_of_cells (s : ByteArray) : ((s.data.toList.map fun b => (b.toNat : Int)).foldl (fun r n => r.push (UInt8.ofNat n.toNat)) ByteArray.empty) = s := by
  have key : ∀ (l : List UInt8) (r : ByteArray), ((l.map fun b => (b.toNat : Int)).foldl (fun r n => r.push (UInt8.ofNat n.toNat)) r).data.toList = r.data.toList ++ l := by
    intro l
    induction l with
    | nil => intro r; simp
    | cons b l ih =>
      intro r
      rw [List.map_cons, List.foldl_cons, ih]
      simp
  have h := key s.data.toList ByteArray.empty
  have h2 : (ByteArray.empty).data.toList = [] := rfl
  rw [h2, List.nil_append] at h
  exact ByteArray.ext (Array.ext' h)

theorem run_toString {t d e : TypeId} {x : Operand} {s : Slc} {st : ByteArray} (hx : rho ge x = .slice s.ptr s.len s.cap) (ht : P.underlying t = some (.slice e)) (hd : P.underlying d = some .string) (he : P.underlying e = some (.int .u8))
    (h : SrcAt w s 1 (strCells st)) : (ex (.convert t d x) ty (rho ge)).run P w = .ok (.value (.string st)) w := by
  have hc : (Conv.bytesToString (.slice s.ptr s.len s.cap)).run P w = .ok (.string st) w := by
    obtain ⟨h1, h2⟩ := h
    have hl : st.size = s.len := by
      have : (strCells st).length = st.size := by simp [strCells]
      omega
    cases hp : s.ptr with
    | none =>
      rcases h2 with h2 | h2
      · have : st = ByteArray.empty := by
          have h3 := h2
          unfold strCells at h3
          exact ByteArray.ext (Array.ext' (by simpa using h3))
        rw [this]; rfl
      · rw [hp] at h2; cases h2.1
    | some a =>
      have hload : (loadCells a s.len).run P w = .ok ((st.data.toList.map fun b => (b.toNat : Int)).map (Value.int .u8)).toArray w := by
        have e1 : (st.data.toList.map fun b => (b.toNat : Int)).map (Value.int .u8) = strCells st := by unfold strCells; rw [List.map_map]; rfl
        rw [e1]
        rcases h2 with h2 | ⟨hat, hcs⟩
        · have : s.len = 0 := by rw [h2] at h1; simp at h1; omega
          rw [this, h2]; rfl
        · rw [hp] at hat hcs
          have ha : a = ⟨pblk (some a), poff (some a), none⟩ := Option.some.inj hat
          rw [ha]
          exact run_loadCells hcs (by omega)
      rw [run_bytesToString w a s.len s.cap _ hload, bytes_of_cells]
  have hcv : (convert t d (.slice s.ptr s.len s.cap)).run P w = .ok (.string st) w := by
    unfold convert
    simp only [run_bind', run_underlying ht, run_underlying hd]
    simp only [run_bind', run_underlying he]
    exact hc
  unfold ex execOp
  simp only [hx, run_bind', hcv]
  rfl

theorem reg_toString {Q : Exit → Act → World → Prop} {t d e : TypeId} {x : Operand} {s : Slc} {st : ByteArray} (ho : opAt n ops ge i = some (.convert t d x, ty, dst)) (hx : rho ge x = .slice s.ptr s.len s.cap) (ht : P.underlying t = some (.slice e)) (hd : P.underlying d = some .string) (he : P.underlying e = some (.int .u8))
    (hs : SrcAt w s 1 (strCells st)) (h : RegG P n ops Q (i + 1) (putG dst (.string st) ge) w) : RegG P n ops Q i ge w :=
  reg_op ho (by unfold OpS; rw [run_toString hx ht hd he hs]; exact h)
theorem qreg_toString {m : Nat} {C : World → Prop} {Q : Act → Prop} {t d e : TypeId} {x : Operand} {s : Slc} {st : ByteArray} (ho : opAt n ops ge i = some (.convert t d x, ty, dst)) (hx : rho ge x = .slice s.ptr s.len s.cap) (ht : P.underlying t = some (.slice e)) (hd : P.underlying d = some .string) (he : P.underlying e = some (.int .u8))
    (hs : SrcAt w s 1 (strCells st)) (h : RegQ P n ops m C Q (i + 1) (putG dst (.string st) ge) w) : RegQ P n ops m C Q i ge w :=
  qreg_op _ ho (fun w' he' => run_toString hx ht hd he ⟨hs.1, hs.2.imp id fun ⟨a, b⟩ => ⟨a, he'.cells b⟩⟩) h
theorem mreg_toString {t d e : TypeId} {x : Operand} {s : Slc} {st : ByteArray} (hk : π[ps]? = some i) (ho : opAt n ops ge i = some (.convert t d x, ty, dst)) (hx : rho ge x = .slice s.ptr s.len s.cap) (ht : P.underlying t = some (.slice e)) (hd : P.underlying d = some .string) (he : P.underlying e = some (.int .u8))
    (hs : SrcAt w s 1 (strCells st)) (h : RegM P n ops Q π ((i, fun w' => SrcAt w' s 1 (strCells st)) :: pd) (ps + 1) (putG dst (.string st) ge) w) : RegM P n ops Q π pd ps ge w :=
  mreg_read _ _ hk ho (fun _ hw => run_toString hx ht hd he hw) hs h
theorem reg_appendZ {t tx e : TypeId} {a xo : Operand} {s : Slc} {sz by_ : Nat} {zs : List Value} {l : Int} (ho : opAt n ops ge i = some (.call { callee := .builtin .append, args := #[a, xo], argTypes := #[t, tx] }, ty, dst))
    (hs : rho ge a = .slice s.ptr s.len s.cap) (hx : rho ge xo = .int .i64 l) (ht : P.underlying t = some (.slice e)) (hsz : sizeP P e = some sz) (hb : bytesP P e = some by_) (hz : zeroP P e = some zs)
    (hb1 : Nat.ble 1 by_ = true) (hmk : intT P tx = true) (hzl : zs.length = sz) (h0 : 0 ≤ l) (hlb : l * (by_ : Int) ≤ 281474976710656)
    (h : AppendW sz by_ e zs s (repCells l.toNat zs).toList l.toNat w (fun r w' => RegG P n ops Q (i + 1) (putG dst (.slice r.ptr r.len r.cap) ge) w')) : RegG P n ops Q i ge w :=
  reg_op ho (run_appendZ hs hx ht hsz hb hz hb1 hmk hzl h0 hlb h)
theorem mreg_appendZ {t tx e : TypeId} {a xo : Operand} {s : Slc} {sz by_ : Nat} {zs : List Value} {l : Int} (oe : Nat) (D : List Nat) (pd' : Pds) (hk : π[ps]? = some oe) (hB : onlyB ops (π.take ps) oe = true) (hD : dropB ops oe [] D = true) (hpd : keepOf D pd = pd') (ho : opAt n ops ge oe = some (.call { callee := .builtin .append, args := #[a, xo], argTypes := #[t, tx] }, ty, dst))
    (hs : rho ge a = .slice s.ptr s.len s.cap) (hx : rho ge xo = .int .i64 l) (ht : P.underlying t = some (.slice e)) (hsz : sizeP P e = some sz) (hb : bytesP P e = some by_) (hz : zeroP P e = some zs)
    (hb1 : Nat.ble 1 by_ = true) (hmk : intT P tx = true) (hzl : zs.length = sz) (h0 : 0 ≤ l) (hlb : l * (by_ : Int) ≤ 281474976710656)
    (h : AppendW sz by_ e zs s (repCells l.toNat zs).toList l.toNat w (fun r w' => PdAll pd' w' ∧ RegM P n ops Q π pd' (ps + 1) (putG dst (.slice r.ptr r.len r.cap) ge) w')) : RegM P n ops Q π pd ps ge w :=
  mreg_op oe D pd' hk hB hD hpd ho (run_appendZ hs hx ht hsz hb hz hb1 hmk hzl h0 hlb h)
end

/-! ### A call of a function that is a value -/
def goFn (P : Program) (f : FuncId) : Bool := match P.funcs[f]? with
  | some fn => !(fn.name == "runtime.NumGoroutine") && fn.body.isSome
  | none => false
theorem run_callFunc {P : Program} {f : FuncId} {args : Array Value} {w : World} (h : goFn P f = true) : (callFunc f args).run P w = .ok (.enter f args) w := by
  unfold goFn at h
  cases hf : P.funcs[f]? with
  | none => rw [hf] at h; cases h
  | some fn =>
    rw [hf] at h
    simp only [Bool.and_eq_true, Bool.not_eq_true'] at h
    have hb : fn.body.isNone = false := by
      cases hx : fn.body with
      | none => rw [hx] at h; simp at h
      | some c => rfl
    unfold callFunc
    rw [run_bind']
    have hp : (program).run P w = .ok P w := by simp [program, Sem.run]
    rw [hp]
    simp only [hf, h.1, hb, Bool.false_eq_true, if_false]
    rfl
def CallsV {P : Program} (fv : Value) (args : Array Value) (w : World) (K : Ending → World → Prop) : Prop :=
  ∃ f first captured, fv = .func (.func f) first captured ∧ goFn P f = true ∧ Calls P f (first ++ args ++ captured) w K
theorem CallsV.mk {P : Program} {f : FuncId} {first captured args all : Array Value} {w : World} {K : Ending → World → Prop} (hg : goFn P f = true) (ha : first ++ args ++ captured = all) (h : Calls P f all w K) :
    CallsV (P := P) (.func (.func f) first captured) args w K := ⟨f, first, captured, rfl, hg, ha ▸ h⟩
theorem CallsV.mono {P : Program} {fv : Value} {args : Array Value} {w : World} {K K' : Ending → World → Prop} (h : CallsV (P := P) fv args w K) (hk : ∀ e w', K e w' → K' e w') : CallsV (P := P) fv args w K' := by
  obtain ⟨f, first, captured, h1, h2, h3⟩ := h
  exact ⟨f, first, captured, h1, h2, Calls.mono h3 hk⟩
section
variable {P : Program} {n : Nat} {ops : Array Oper} {Q : Exit → Act → World → Prop} {i : Nat} {ge : GEnv} {w : World} {ty : TypeId} {dst : Option Nat}
theorem ops_enterV {K : Value → World → Prop} {fo : Operand} {aa : Array Operand} {ts : Array TypeId} {fv : Value} {args : Array Value} (hf : rho ge fo = fv) (ha : aa.map (rho ge) = args)
    (h : CallsV (P := P) fv args w (fun e w' => ∃ v, e = .returned v ∧ K v w')) : OpS P (.call { callee := .value fo, args := aa, argTypes := ts }) ty (rho ge) w K := by
  obtain ⟨f, first, captured, h1, h2, h3⟩ := h
  have hr : (ex (.call { callee := .value fo, args := aa, argTypes := ts }) ty (rho ge)).run P w = .ok (.enter f (first ++ args ++ captured)) w := by
    have he : ex (.call { callee := .value fo, args := aa, argTypes := ts }) ty (rho ge) = callFunc f (first ++ args ++ captured) := by
      unfold ex execOp
      simp [Go.resolve, Go.invoke, hf, ha, h1, bind, Sem.bind, pure, Deferred.ofValue]
    rw [he, run_callFunc h2]
  unfold OpS
  rw [hr]
  exact h3
theorem reg_enterV {fo : Operand} {aa : Array Operand} {ts : Array TypeId} {fv : Value} (args : Array Value) (ho : opAt n ops ge i = some (.call { callee := .value fo, args := aa, argTypes := ts }, ty, dst)) (hf : rho ge fo = fv) (ha : aa.map (rho ge) = args)
    (h : CallsV (P := P) fv args w (fun e w' => ∃ v, e = .returned v ∧ RegG P n ops Q (i + 1) (putG dst v ge) w')) : RegG P n ops Q i ge w := reg_op ho (ops_enterV hf ha h)
end
end
section
variable [Rnd]

/-! ### Structs compared -/
section
variable {P : Program}
def eq1 (d : TypeDesc) (a b : Value) : Option Bool :=
  match d, a, b with
  | .bool, .bool x, .bool y => some (x == y)
  | .int _, .int k x, .int k' y => if k = k' then some (x == y) else none
  | .string, .string x, .string y => some (x == y)
  | _, _, _ => none
def eqCell (P : Program) (xs ys : List Value) (f : Field) : Option Bool :=
  if f.name = "_" then none else
  match P.underlying f.type, xs[f.offset]?, ys[f.offset]? with
  | some d, some a, some b => if plain1 P f.type then eq1 d a b else none
  | _, _, _ => none
def eqF (P : Program) (xs ys : List Value) : Bool → List Field → Option Bool
  | acc, [] => some acc
  | acc, f :: fs => match eqCell P xs ys f with | some r => eqF P xs ys (acc && r) fs | none => none
def structEq (P : Program) (t : TypeId) (xs ys : List Value) : Option Bool :=
  match P.underlying t with
  | some (.struct fs) => match fs.toList with
    | [] => none
    | f :: fs => match eqCell P xs ys f with | some r => eqF P xs ys r fs | none => none
  | _ => none
theorem run_eq1 {n : Nat} {t : TypeId} {d : TypeDesc} {a b : Value} {r : Bool} (hd : P.underlying t = some d) (h : eq1 d a b = some r) (w : World) : (Op.equalIn (n + 1) t a b).run P w = .ok r w := by
  unfold Op.equalIn
  rw [run_bind', run_underlying hd]
  unfold eq1 at h
  split at h
  · cases h; rfl
  · split at h
    · rename_i hk
      cases h
      simp only [hk, if_true]; rfl
    · cases h
  · cases h; rfl
  · cases h
theorem run_part {t : TypeId} {xs : List Value} {o : Nat} {v : Value} (ht : plain1 P t = true) (hv : xs[o]? = some v) (w : World) : (part t xs.toArray o).run P w = .ok v w := by
  unfold part
  rw [run_bind', run_isAgg_false ht]
  have : xs.toArray[o]? = some v := by simpa using hv
  simp only [Bool.false_eq_true, if_false, this]
  rfl
theorem run_eqCell {n : Nat} {xs ys : List Value} {f : Field} {r : Bool} (h : eqCell P xs ys f = some r) (w : World) :
    f.name ≠ "_" ∧ (part f.type xs.toArray f.offset >>= fun a => part f.type ys.toArray f.offset >>= fun b => Op.equalIn (n + 1) f.type a b).run P w = .ok r w := by
  unfold eqCell at h
  split at h
  · cases h
  · rename_i hn
    refine ⟨hn, ?_⟩
    split at h
    · rename_i d a b hd ha hb
      split at h
      · rename_i hp
        rw [run_bind', run_part hp ha]
        show (part f.type ys.toArray f.offset >>= fun b => Op.equalIn (n + 1) f.type a b).run P w = _
        rw [run_bind', run_part hp hb]
        exact run_eq1 hd h w
      · cases h
    · cases h
theorem eqF_false {xs ys : List Value} : ∀ {fs : List Field} {r : Bool}, eqF P xs ys false fs = some r → r = false
  | [], r, h => by cases h; rfl
  | f :: fs, r, h => by
    unfold eqF at h
    split at h
    · exact eqF_false (by simpa using h)
    · cases h
theorem eqF_true {xs ys : List Value} {n : Nat} {w : World} : ∀ {fs : List Field} {r : Bool}, eqF P xs ys true fs = some r →
    (forIn (m := Sem) fs ((none, ()) : Option Bool × Unit) fun f __s =>
        if f.name ≠ "_" then do
          let __do_lift ← part f.type xs.toArray f.offset
          let __do_lift_1 ← part f.type ys.toArray f.offset
          let __do_lift ← Op.equalIn (n + 1) f.type __do_lift __do_lift_1
          if (!__do_lift) = true then pure (ForInStep.done (some false, ()))
            else pure (ForInStep.yield (none, ()))
        else pure (ForInStep.yield (none, ()))).run P w = .ok (if r = true then (none, ()) else (some false, ())) w
  | [], r, h => by
    cases h
    rfl
  | f :: fs, r, h => by
    unfold eqF at h
    split at h
    · rename_i r1 h1
      obtain ⟨hn, hr⟩ := run_eqCell (n := n) h1 w
      have hbody : ∀ {β : Type} (K : Bool → Sem β), (do
          let __do_lift ← part f.type xs.toArray f.offset
          let __do_lift_1 ← part f.type ys.toArray f.offset
          let __do_lift ← Op.equalIn (n + 1) f.type __do_lift __do_lift_1
          K __do_lift).run P w = (K r1).run P w := fun K => by
        have e : (do
          let __do_lift ← part f.type xs.toArray f.offset
          let __do_lift_1 ← part f.type ys.toArray f.offset
          let __do_lift ← Op.equalIn (n + 1) f.type __do_lift __do_lift_1
          K __do_lift).run P w = ((part f.type xs.toArray f.offset >>= fun a => part f.type ys.toArray f.offset >>= fun b => Op.equalIn (n + 1) f.type a b) >>= K).run P w := by
          simp only [run_bind']
          cases (part f.type xs.toArray f.offset).run P w <;> try rfl
          rename_i a w1
          simp only
          cases (part f.type ys.toArray f.offset).run P w1 <;> rfl
        rw [e, run_bind', hr]
      rw [List.forIn_cons, run_bind', if_pos hn, hbody]
      cases r1 with
      | false =>
        have := eqF_false (by simpa using h)
        subst this
        rfl
      | true =>
        show Sem.run P (forIn fs _ _) w = _
        exact eqF_true (by simpa using h)
    · cases h
theorem run_structEq {n : Nat} {t : TypeId} {xs ys : List Value} {r : Bool} (h : structEq P t xs ys = some r) (hs : P.stoodInHeld t = false) (w : World) :
    (Op.equalIn (n + 2) t (.agg xs.toArray) (.agg ys.toArray)).run P w = .ok r w := by
  unfold structEq at h
  split at h
  · rename_i fs hu
    have hf : eqF P xs ys true fs.toList = some r := by
      split at h
      · cases h
      · rename_i f fs' he
        rw [he]
        unfold eqF
        split at h
        · rename_i r1 h1
          simpa using h
        · cases h
    unfold Op.equalIn
    rw [run_bind', run_underlying hu]
    dsimp only
    have hp : (program).run P w = .ok P w := by simp [program, Sem.run]
    rw [run_bind', hp]
    dsimp only
    rw [if_neg (by rw [hs]; decide), ← Array.forIn_toList, run_bind', eqF_true hf]
    cases r <;> rfl
  · cases h
theorem run_eqGuardAgg {op : BinOp} {t : TypeId} {x y : Operand} {xs ys : Array Value} (hg : P.eqGuardType P.depth t = false) (w : World) : (eqGuard op t x y (.agg xs) (.agg ys)).run P w = .ok () w := by
  have hp : (program).run P w = .ok P w := by simp [program, Sem.run]
  have key : ∀ s, (do
      let p1 ← program
      let p2 ← program
      if (!p1.eqGuardType p2.depth t) = true then pure ()
        else do
          let g ← Op.eqGuardIn Op.maxDepth t (Value.agg xs) (Value.agg ys)
          if g = true then unsupported (.noEntry s) else pure () : Sem Unit).run P w = .ok () w := by
    intro s
    rw [run_bind', hp]
    dsimp only
    rw [run_bind', hp]
    dsimp only
    rw [hg]
    rfl
  cases op <;> first | rfl | exact key _
end
section
variable {P : Program} {ge : GEnv} {ty xt yt : TypeId} {x y : Operand}
theorem run_struct_eql {xs ys : List Value} {r : Bool} (hx : rho ge x = .agg xs.toArray) (hy : rho ge y = .agg ys.toArray) (h : structEq P xt xs ys = some r) (hs : P.stoodInHeld xt = false) (hg : P.eqGuardType P.depth xt = false) (w : World) :
    (ex (.binOp .eql xt x y yt) ty (rho ge)).run P w = .ok (.value (.bool r)) w := by
  refine run_cmp (by rw [hx, hy]; exact run_eqGuardAgg hg w) ?_
  rw [hx, hy]
  show (Op.equal xt _ _ >>= fun r => pure (Value.bool (r))).run P w = _
  rw [run_bind', show Op.equal xt (.agg xs.toArray) (.agg ys.toArray) = Op.equalIn (9998 + 2) xt (.agg xs.toArray) (.agg ys.toArray) from rfl, run_structEq h hs]
  rfl
theorem run_struct_neq {xs ys : List Value} {r : Bool} (hx : rho ge x = .agg xs.toArray) (hy : rho ge y = .agg ys.toArray) (h : structEq P xt xs ys = some r) (hs : P.stoodInHeld xt = false) (hg : P.eqGuardType P.depth xt = false) (w : World) :
    (ex (.binOp .neq xt x y yt) ty (rho ge)).run P w = .ok (.value (.bool (!r))) w := by
  refine run_cmp (by rw [hx, hy]; exact run_eqGuardAgg hg w) ?_
  rw [hx, hy]
  show (Op.equal xt _ _ >>= fun r => pure (Value.bool (!r))).run P w = _
  rw [run_bind', show Op.equal xt (.agg xs.toArray) (.agg ys.toArray) = Op.equalIn (9998 + 2) xt (.agg xs.toArray) (.agg ys.toArray) from rfl, run_structEq h hs]
  rfl
end
end
section
variable [Rnd]

/-! ### slices.overlaps: two rows in two blocks -/
def OvApart (w : World) (x y : Slc) : Prop :=
  IsAt x.ptr ∧ IsAt y.ptr ∧ pblk x.ptr ≠ pblk y.ptr ∧ ∃ TA kA TB kB, w.shape? (pblk x.ptr) = some (TA, kA) ∧ w.shape? (pblk y.ptr) = some (TB, kB) ∧ kB ≠ 0 ∧ ∀ o, w.frozen? ⟨pblk x.ptr, o, none⟩ = false
section
variable {P : Program} {n : Nat} {ops : Array Oper} {Q : Exit → Act → World → Prop} {i : Nat} {ge : GEnv} {w : World} {ty : TypeId} {dst : Option Nat}
theorem run_overlapsE {fo a b : Operand} {ts : Array TypeId} {f : FuncId} {fn : Func} {x y : Slc} {tS tR e : TypeId} {sz : Nat} (hfo : rho ge fo = .func (.func f) #[] #[]) (ha : rho ge a = .slice x.ptr x.len x.cap) (hb : rho ge b = .slice y.ptr y.len y.cap)
    (hf : P.funcs[f]? = some fn) (hname : (fn.name == "runtime.NumGoroutine") = false) (hbn : fn.body.isNone = true) (hn : Extern.findNext fn = none) (hex : Extern.find fn = some (Extern.SlicesOverlaps.overlaps #[tS, tS] #[tR]))
    (ht : P.underlying tS = some (.slice e)) (hz : sizeP P e = some sz) (h : OvApart w x y) :
    (ex (.call { callee := .value fo, args := #[a, b], argTypes := ts }) ty (rho ge)).run P w = .ok (.value (.bool false)) w := by
  obtain ⟨h1, h2, h3, TA, kA, TB, kB, h4, h5, h6, h7⟩ := h
  have he : ex (.call { callee := .value fo, args := #[a, b], argTypes := ts }) ty (rho ge) = callFunc f #[.slice x.ptr x.len x.cap, .slice y.ptr y.len y.cap] := by
    unfold ex execOp
    simp [Go.resolve, Go.invoke, hfo, ha, hb, bind, Sem.bind, pure, Deferred.ofValue]
  have hx : x.ptr = some ⟨pblk x.ptr, poff x.ptr, none⟩ := h1
  have hy : y.ptr = some ⟨pblk y.ptr, poff y.ptr, none⟩ := h2
  rw [he, run_callFunc_extern hf hname hbn hn hex]
  generalize pblk x.ptr = pa at *
  generalize poff x.ptr = oa at *
  generalize pblk y.ptr = pb at *
  generalize poff y.ptr = ob at *
  rw [hx, hy, Lib.run_overlaps_apart w tS tR e ht sz (run_sizeOf hz) ⟨pa, oa, none⟩ ⟨pb, ob, none⟩ x.len x.cap y.len y.cap h3 TA TB kA kB h4 h5 h6 (h7 _) (h7 _)]
  rfl
theorem reg_overlaps {fo a b : Operand} {ts : Array TypeId} (f : FuncId) {fn : Func} {x y : Slc} {tS tR e : TypeId} {sz : Nat} (ho : opAt n ops ge i = some (.call { callee := .value fo, args := #[a, b], argTypes := ts }, ty, dst))
    (hfo : rho ge fo = .func (.func f) #[] #[]) (ha : rho ge a = .slice x.ptr x.len x.cap) (hb : rho ge b = .slice y.ptr y.len y.cap)
    (hf : P.funcs[f]? = some fn) (hname : (fn.name == "runtime.NumGoroutine") = false) (hbn : fn.body.isNone = true) (hn : Extern.findNext fn = none) (hex : Extern.find fn = some (Extern.SlicesOverlaps.overlaps #[tS, tS] #[tR]))
    (ht : P.underlying tS = some (.slice e)) (hz : sizeP P e = some sz) (h : OvApart w x y) (h' : RegG P n ops Q (i + 1) (putG dst (.bool false) ge) w) : RegG P n ops Q i ge w :=
  reg_op ho (by unfold OpS; rw [run_overlapsE hfo ha hb hf hname hbn hn hex ht hz h]; exact h')
end
end
section
variable [Rnd]

/-! ### Interface values -/
def isNilIf : Value → Bool
  | .nilIface => true
  | _ => false
def IfV (x : Value) : Prop := x = .nilIface ∨ ∃ t v, x = .iface t v
def NotIf (T : TypeId) (x : Value) : Prop := x = .nilIface ∨ ∃ t v, x = .iface t v ∧ t ≠ T
def isIfT (P : Program) (t : TypeId) : Bool := match P.underlying t with | some (.interface _) => true | _ => false
def noIfT (P : Program) (t : TypeId) : Bool := match P.underlying t with | some (.interface _) => false | some _ => true | none => false
section
variable {P : Program} {ge : GEnv} {ty xt yt : TypeId} {x y : Operand}
theorem isIfT_spec (h : isIfT P xt = true) : ∃ e, ∀ w, (underlying xt).run P w = .ok (.interface e) w := by
  unfold isIfT at h
  cases hu : P.underlying xt with
  | none => rw [hu] at h; cases h
  | some d => rw [hu] at h; cases d <;> first | (cases h; done) | exact ⟨_, run_underlying hu⟩
theorem ifv_equal {p : Value} (hi : IfV p) (ht : isIfT P xt = true) (w : World) : (Op.equal xt p .nilIface).run P w = .ok (isNilIf p) w := by
  obtain ⟨d, hu⟩ := isIfT_spec ht
  show (Op.equalIn (9999 + 1) xt p .nilIface).run P w = _
  unfold Op.equalIn
  rw [run_bind', hu]
  rcases hi with rfl | ⟨t, v, rfl⟩ <;> rfl
theorem run_if_eql_R {p : Value} (hx : rho ge x = p) (hi : IfV p) (ht : isIfT P xt = true) (w : World) :
    (ex (.binOp .eql xt x (.const .nilIface) yt) ty (rho ge)).run P w = .ok (.value (.bool (isNilIf p))) w := by
  have he := ifv_equal (P := P) hi ht w
  refine run_cmp ?_ ?_
  · rw [hx]
    rcases hi with rfl | ⟨t, v, rfl⟩
    · clear hx; cases x <;> rfl
    · rfl
  rw [hx]
  have : (binOp .eql xt p .nilIface) = (Op.equal xt p .nilIface >>= fun r => pure (Value.bool (r))) := by
    rcases hi with rfl | ⟨t, v, rfl⟩ <;> rfl
  show (binOp .eql xt p .nilIface).run P w = _
  rw [this, run_bind', he]
  rfl
theorem run_if_neq_R {p : Value} (hx : rho ge x = p) (hi : IfV p) (ht : isIfT P xt = true) (w : World) :
    (ex (.binOp .neq xt x (.const .nilIface) yt) ty (rho ge)).run P w = .ok (.value (.bool (!(isNilIf p)))) w := by
  have he := ifv_equal (P := P) hi ht w
  refine run_cmp ?_ ?_
  · rw [hx]
    rcases hi with rfl | ⟨t, v, rfl⟩
    · clear hx; cases x <;> rfl
    · rfl
  rw [hx]
  have : (binOp .neq xt p .nilIface) = (Op.equal xt p .nilIface >>= fun r => pure (Value.bool (!r))) := by
    rcases hi with rfl | ⟨t, v, rfl⟩ <;> rfl
  show (binOp .neq xt p .nilIface).run P w = _
  rw [this, run_bind', he]
  rfl
theorem run_assertNo {T : TypeId} {p z : Value} (hx : rho ge x = p) (hn : NotIf T p) (ht : noIfT P T = true) (hz : ∀ w, (zeroValue T).run P w = .ok z w) (w : World) :
    (ex (.typeAssert x xt T true) ty (rho ge)).run P w = .ok (.value (.tuple #[z, .bool false])) w := by
  unfold noIfT at ht
  cases hu : P.underlying T with
  | none => rw [hu] at ht; cases ht
  | some d =>
    rw [hu] at ht
    have hu' := fun w => run_underlying (P := P) hu w
    unfold ex execOp
    show ((Instr.typeAssert (rho ge x) xt T true) >>= fun v => pure (Next.value v)).run P w = _
    rw [hx]
    have key : (Instr.typeAssert p xt T true).run P w = .ok (.tuple #[z, .bool false]) w := by
      unfold Instr.typeAssert
      rw [run_bind', hu']
      rcases hn with rfl | ⟨t, v, rfl, hne⟩
      · cases d <;> first | (cases ht; done) | (show ((zeroValue T) >>= fun z => pure (Value.tuple #[z, .bool false])).run P w = _; rw [run_bind', hz]; rfl)
      · cases d <;> first | (cases ht; done) | (simp only [if_neg hne]; show ((zeroValue T) >>= fun z => pure (Value.tuple #[z, .bool false])).run P w = _; rw [run_bind', hz]; rfl)
    rw [run_bind', key]
    rfl
end
end
section
variable [Rnd]

/-! ### Maps of whole numbers to nothing -/
def mapHas (es : Array MapEntry) (k : Int) : Bool := es.toList.any fun e => match e.key with | .int .i64 j => decide (j = k) | _ => false
def MapInt (es : Array MapEntry) : Prop := ∀ e ∈ es.toList, (∃ j, e.key = .int .i64 j) ∧ e.val = .agg #[]
def MapAt (w : World) (m : Option Nat) (es : Array MapEntry) : Prop := (m = none ∧ es = #[]) ∨ ∃ r c, m = some r ∧ w.heap[r]? = some (.map es c)
theorem mapHas_iff {es : Array MapEntry} (h : MapInt es) {k : Int} : mapHas es k = true ↔ ∃ e ∈ es.toList, e.key = .int .i64 k := by
  unfold mapHas
  rw [List.any_eq_true]
  constructor
  · rintro ⟨e, he, hk⟩
    obtain ⟨⟨j, hj⟩, _⟩ := h e he
    rw [hj] at hk
    have : j = k := by simpa using hk
    exact ⟨e, he, by rw [hj, this]⟩
  · rintro ⟨e, he, hk⟩
    exact ⟨e, he, by rw [hk]; simp⟩
section
variable {P : Program} {n : Nat} {ops : Array Oper} {i : Nat} {ge : GEnv} {w : World} {ty : TypeId} {dst : Option Nat} {t kt et : TypeId} {x k v : Operand}
theorem run_lookupI {m : Option Nat} {es : Array MapEntry} {j : Int} (hx : rho ge x = .map m) (hk : rho ge k = .int .i64 j) (hu : P.underlying t = some (.map kt et)) (hkt : P.underlying kt = some (.int .i64)) (hz : ∀ w, (zeroValue et).run P w = .ok (.agg #[]) w) (hm : MapAt w m es) (hi : MapInt es) :
    (ex (.lookup t x k true) ty (rho ge)).run P w = .ok (.value (.tuple #[.agg #[], .bool (mapHas es j)])) w := by
  have hc : ∀ b, (Instr.checkKey b 10000 kt (.int .i64 j)).run P w = .ok () w := fun b => MapKept.run_checkKey hkt (by simp [MapKept.IsKey]) b 9999
  have hs := MapKept.findNow_spec (d := .int .i64) (k := .int .i64 j) (by simp [MapKept.IsKey]) es.toList 0 (fun e he => by obtain ⟨⟨q, hq⟩, _⟩ := hi e he; rw [hq]; simp [MapKept.IsKey])
  have key : (Instr.lookup t (.map m) (.int .i64 j) true).run P w = .ok (.tuple #[.agg #[], .bool (mapHas es j)]) w := by
    rcases hs with ⟨h1, h2⟩ | ⟨q, e, h1, h2, h3⟩
    · have hf := MapKept.run_findKey (P := P) (w := w) hkt h1
      have hb : mapHas es j = false := by
        cases hb : mapHas es j with
        | false => rfl
        | true => obtain ⟨e, he, hk⟩ := (mapHas_iff hi).1 hb; exact absurd hk (h2 e he)
      rw [hb]
      rcases hm with ⟨rfl, rfl⟩ | ⟨r, c, rfl, hr⟩
      · simp [Instr.lookup, run_underlying hu, hc, hf, hz, Result.andThen]
      · simp [Instr.lookup, run_underlying hu, hc, hf, hz, MapKept.run_getObj_map hr, Result.andThen]
    · have hf := MapKept.run_findKey (P := P) (w := w) hkt h1
      have he := List.mem_of_getElem? h2
      have hb : mapHas es j = true := (mapHas_iff hi).2 ⟨e, he, h3⟩
      have hv := (hi e he).2
      rw [hb]
      rcases hm with ⟨rfl, rfl⟩ | ⟨r, c, rfl, hr⟩
      · cases he
      · simp [Instr.lookup, run_underlying hu, hc, hf, hv, MapKept.run_getObj_map hr, Result.andThen]
  unfold ex execOp
  simp only [hx, hk]
  rw [run_bind', key]
  rfl
theorem run_mapUpdateI {r c : Nat} {es : Array MapEntry} {j : Int} {vv : Value} (hx : rho ge x = .map (some r)) (hk : rho ge k = .int .i64 j) (hv : rho ge v = vv) (hu : P.underlying t = some (.map kt et)) (hkt : P.underlying kt = some (.int .i64)) (hz : ∀ w, (zeroValue et).run P w = .ok (.agg #[]) w) (hm : w.heap[r]? = some (.map es c)) (hi : MapInt es) (hn : mapHas es j = false) :
    (ex (.mapUpdate t x k v) ty (rho ge)).run P w = .ok .skip { w with heap := w.heap.setIfInBounds r (.map (es.push ⟨.int .i64 j, vv, c⟩) (c + 1)) } := by
  have hc : ∀ b, (Instr.checkKey b 10000 kt (.int .i64 j)).run P w = .ok () w := fun b => MapKept.run_checkKey hkt (by simp [MapKept.IsKey]) b 9999
  have hs := MapKept.findNow_spec (d := .int .i64) (k := .int .i64 j) (by simp [MapKept.IsKey]) es.toList 0 (fun e he => by obtain ⟨⟨q, hq⟩, _⟩ := hi e he; rw [hq]; simp [MapKept.IsKey])
  have h1 : Instr.findNow (.int .i64) (.int .i64 j) es.toList 0 = some none := by
    rcases hs with ⟨h1, _⟩ | ⟨q, e, _, h2, h3⟩
    · exact h1
    · have := (mapHas_iff hi).2 ⟨e, List.mem_of_getElem? h2, h3⟩
      rw [hn] at this; cases this
  have hf := MapKept.run_findKey (P := P) (w := w) hkt h1
  have key : (Instr.mapUpdate t (.map (some r)) (.int .i64 j) vv).run P w = .ok () { w with heap := w.heap.setIfInBounds r (.map (es.push ⟨.int .i64 j, vv, c⟩) (c + 1)) } := by
    simp [Instr.mapUpdate, run_underlying hu, MapKept.run_getObj_map hm, hc, hf, MapKept.run_setObj_map _ hm, Result.andThen]
  unfold ex execOp
  simp only [hx, hk, hv]
  rw [run_bind', key]
  rfl
theorem mapAt_ext {m : Option Nat} {es : Array MapEntry} {w' : World} (h : MapAt w m es) (e : Ext w w') : MapAt w' m es := by
  rcases h with h | ⟨r, c, h1, h2⟩
  · exact .inl h
  · exact .inr ⟨r, c, h1, (e.block r (Array.getElem?_eq_some_iff.1 h2).1).trans h2⟩
end
section
variable {P : Program} {n : Nat} {ops : Array Oper} {i : Nat} {ge : GEnv} {w : World} {ty : TypeId} {dst : Option Nat} {t kt et : TypeId} {x k v : Operand}
theorem reg_lookupI {Q : Exit → Act → World → Prop} {m : Option Nat} {es : Array MapEntry} {j : Int} (ho : opAt n ops ge i = some (.lookup t x k true, ty, dst)) (hx : rho ge x = .map m) (hk : rho ge k = .int .i64 j) (hu : P.underlying t = some (.map kt et)) (hkt : P.underlying kt = some (.int .i64)) (hz : ∀ w, (zeroValue et).run P w = .ok (.agg #[]) w) (hm : MapAt w m es) (hi : MapInt es)
    (h : RegG P n ops Q (i + 1) (putG dst (.tuple #[.agg #[], .bool (mapHas es j)]) ge) w) : RegG P n ops Q i ge w :=
  reg_exec _ w ho (run_lookupI hx hk hu hkt hz hm hi) h
theorem qreg_lookupI {m0 : Nat} {C : World → Prop} {Q : Act → Prop} {m : Option Nat} {es : Array MapEntry} {j : Int} (ho : opAt n ops ge i = some (.lookup t x k true, ty, dst)) (hx : rho ge x = .map m) (hk : rho ge k = .int .i64 j) (hu : P.underlying t = some (.map kt et)) (hkt : P.underlying kt = some (.int .i64)) (hz : ∀ w, (zeroValue et).run P w = .ok (.agg #[]) w) (hm : MapAt w m es) (hi : MapInt es)
    (h : RegQ P n ops m0 C Q (i + 1) (putG dst (.tuple #[.agg #[], .bool (mapHas es j)]) ge) w) : RegQ P n ops m0 C Q i ge w :=
  qreg_op _ ho (fun w' e => run_lookupI hx hk hu hkt hz (mapAt_ext hm e) hi) h
theorem mreg_lookupI {Q : Exit → Act → World → Prop} {π : List Nat} {pd : Pds} {ps : Nat} {m : Option Nat} {es : Array MapEntry} {j : Int} (hπ : π[ps]? = some i) (ho : opAt n ops ge i = some (.lookup t x k true, ty, dst)) (hx : rho ge x = .map m) (hk : rho ge k = .int .i64 j) (hu : P.underlying t = some (.map kt et)) (hkt : P.underlying kt = some (.int .i64)) (hz : ∀ w, (zeroValue et).run P w = .ok (.agg #[]) w) (hm : MapAt w m es) (hi : MapInt es)
    (h : RegM P n ops Q π ((i, fun w' => MapAt w' m es) :: pd) (ps + 1) (putG dst (.tuple #[.agg #[], .bool (mapHas es j)]) ge) w) : RegM P n ops Q π pd ps ge w :=
  mreg_read _ _ hπ ho (fun w' hw => run_lookupI hx hk hu hkt hz hw hi) hm h
theorem reg_mapUpdateI {Q : Exit → Act → World → Prop} {m : Option Nat} {es : Array MapEntry} {j : Int} {vv : Value} (r c : Nat) (ho : opAt n ops ge i = some (.mapUpdate t x k v, ty, dst)) (hx : rho ge x = .map m) (hr : m = some r) (hk : rho ge k = .int .i64 j) (hv : rho ge v = vv) (hu : P.underlying t = some (.map kt et)) (hkt : P.underlying kt = some (.int .i64)) (hz : ∀ w, (zeroValue et).run P w = .ok (.agg #[]) w) (hm : w.heap[r]? = some (.map es c)) (hi : MapInt es) (hn : mapHas es j = false)
    (h : ∀ w', w' = { w with heap := w.heap.setIfInBounds r (.map (es.push ⟨.int .i64 j, vv, c⟩) (c + 1)) } → RegG P n ops Q (i + 1) (putG dst undef ge) w') : RegG P n ops Q i ge w :=
  reg_op ho (by unfold OpS; rw [run_mapUpdateI (by rw [hx, hr]) hk hv hu hkt hz hm hi hn]; exact h _ rfl)
end
end
section
variable [Rnd]
section
variable {P : Program} {n : Nat} {ops : Array Oper} {i : Nat} {ge : GEnv} {w : World} {ty : TypeId} {dst : Option Nat}
/-- []byte(s): a new row of the text's bytes, and some zeros behind them. -/
def OfString (e : TypeId) (s : ByteArray) (w : World) (sl : Slc) (w2 : World) : Prop :=
  ∃ (cap : Nat) (w1 : World), s.size ≤ cap ∧ sl = ⟨some ⟨w.heap.size, 0, none⟩, s.size, cap⟩ ∧
    w1 = w.drew.alloc (Obj.cells (strCells s ++ List.replicate (cap - s.size) (Value.int .u8 0)).toArray e (0, 0)) ∧ w2 = w1.freeze ⟨w.heap.size, cap, none⟩ 1
theorem le_grownCap (w : World) (a b : Nat) (e : TypeId) : a ≤ grownCap w a b e := by
  unfold grownCap
  simp only [Question.cut]
  omega
theorem reg_ofString {Q : Exit → Act → World → Prop} {t d e : TypeId} {x : Operand} {str : ByteArray} (ho : opAt n ops ge i = some (.convert t d x, ty, dst))
    (hx : rho ge x = .string str) (ht : P.underlying t = some .string) (hd : P.underlying d = some (.slice e)) (he : P.underlying e = some (.int .u8))
    (h : ∀ sl w2, OfString e str w sl w2 → RegG P n ops Q (i + 1) (putG dst (.slice sl.ptr sl.len sl.cap) ge) w2) : RegG P n ops Q i ge w := by
  refine reg_op ho ?_
  have hsz : (Lib.bytesCells w e str).size = grownCap w str.size 0 e := by
    have := le_grownCap w str.size 0 e
    have h2 : str.data.size = str.size := rfl
    unfold Lib.bytesCells
    simp only [Array.size_append, Array.size_map, Array.size_replicate, h2]
    omega
  have hcs : Lib.bytesCells w e str = (strCells str ++ List.replicate (grownCap w str.size 0 e - str.size) (Value.int .u8 0)).toArray := by
    unfold Lib.bytesCells strCells
    rw [← Array.toList_inj]
    simp
  have hr : (ex (.convert t d x) ty (rho ge)).run P w = .ok (.value (.slice (some ⟨w.heap.size, 0, none⟩) str.size (grownCap w str.size 0 e))) (Lib.bytesWorld w e str) := by
    have hc := Lib.run_convert_string_bytes (P := P) w t d e str ht hd he
    unfold ex execOp
    simp only [hx, run_bind', hc]
    rfl
  have k := h ⟨some ⟨w.heap.size, 0, none⟩, str.size, grownCap w str.size 0 e⟩ (Lib.bytesWorld w e str) ⟨grownCap w str.size 0 e, _, le_grownCap _ _ _ _, rfl, rfl, by
    unfold Lib.bytesWorld
    rw [hsz, hcs]⟩
  unfold OpS; rw [hr]; exact k
end
end

/-! ### A range over a function -/
abbrev yieldV (lp : Nat) : Value := .func (.yield lp) #[] #[]
abbrev mkRnd (ro : Option Nat) (ds : List Deferred) (esc : Act → World → Prop) : Rnd := ⟨ro, ds, true, esc⟩
abbrev noEsc : Act → World → Prop := fun _ _ => False
/-- A call of a function value, which may be a loop's yield. -/
def CallsY {P : Program} (fv : Value) (args : Array Value) (w : World) (K : Ending → World → Prop) : Prop :=
  CallsV (P := P) fv args w K ∨ ∃ lp fn tmps assign body, fv = yieldV lp ∧ (Instr.yield lp args).run P w = .ok (.round lp fn tmps assign body) w ∧ RoundIn Fence.wide 0 P lp fn tmps assign body w K
theorem CallsY.mono {P : Program} {fv : Value} {args : Array Value} {w : World} {K K' : Ending → World → Prop} (h : CallsY (P := P) fv args w K) (hk : ∀ e w', K e w' → K' e w') : CallsY (P := P) fv args w K' := by
  rcases h with h | ⟨lp, fn, tmps, assign, body, h1, h2, h3⟩
  · exact .inl (h.mono hk)
  · exact .inr ⟨lp, fn, tmps, assign, body, h1, h2, h3.mono hk⟩
section
variable [Rnd] {P : Program} {n : Nat} {ops : Array Oper} {Q : Exit → Act → World → Prop} {i : Nat} {ge : GEnv} {w : World} {ty : TypeId} {dst : Option Nat}
theorem reg_enterY (hy : (Rnd.y : Bool) = true) {fo : Operand} {aa : Array Operand} {ts : Array TypeId} {fv : Value} (args : Array Value) (ho : opAt n ops ge i = some (.call { callee := .value fo, args := aa, argTypes := ts }, ty, dst)) (hf : rho ge fo = fv) (ha : aa.map (rho ge) = args)
    (h : CallsY (P := P) fv args w (fun e w' => ∃ v, e = .returned v ∧ RegG P n ops Q (i + 1) (putG dst v ge) w')) : RegG P n ops Q i ge w := by
  rcases h with h | ⟨lp, fn, tmps, assign, body, h1, h2, h3⟩
  · exact reg_enterV args ho hf ha h
  intro t hinv
  unfold opAt at ho
  cases hoi : ops[i]? with
  | none => rw [hoi] at ho; cases ho
  | some o =>
    rw [hoi] at ho
    simp only at ho
    obtain ⟨hc, ho⟩ := bif_some ho
    simp only [Bool.and_eq_true] at hc
    obtain ⟨⟨⟨hg, hsel⟩, hav⟩, hdst⟩ := hc
    simp only [Option.some.injEq, Prod.mk.injEq] at ho
    obtain ⟨hop, hty, hds⟩ := ho
    have hH : Holds t [] := fun p hp => by cases hp
    have hexec : execOp (Act.eval ⟨t, Rnd.ds⟩) o = execOp (rho ge) o := exec_rho hinv hH hsel hav
    have hw := gsure_wanted (ops := ops) hinv hg
    rw [range'_step (getElem?_lt hoi)]
    have hput : ∀ v w', RegG P n ops Q (i + 1) (putG dst v ge) w' → OpsR P ops Q (List.range' (i + 1) (ops.size - (i + 1))) (Act.put ⟨t, Rnd.ds⟩ o.dst v) w' := by
      intro v w' hr
      rw [hds] at hdst ⊢
      cases dst with
      | none => exact hr t hinv
      | some d =>
        simp only [Bool.and_eq_true] at hdst
        exact hr _ (hinv.put (v := v) (u := v) hdst.1 hdst.2 (fun p hp => by cases hp) (fun _ => rfl) (fun hh => absurd hH hh))
    have hr : (ex (.call { callee := .value fo, args := aa, argTypes := ts }) ty (rho ge)).run P w = .ok (.round lp fn tmps assign body) w := by
      have he : ex (.call { callee := .value fo, args := aa, argTypes := ts }) ty (rho ge) = Instr.yield lp args := by
        unfold ex execOp
        simp [Go.resolve, Go.invoke, hf, ha, h1, bind, Sem.bind, pure, Deferred.ofValue]
      rw [he]; exact h2
    unfold OpsR at hput ⊢
    simp only [hy] at hput ⊢
    simp only [wpOpsIn, hoi]
    rw [if_pos hw]
    refine ⟨fun _ _ => trivial, ?_⟩
    rw [Oper.semAt_eq _ _ _ (notSelect_defer hsel), hexec, ex_eq, hop, hty, hr]
    refine ⟨fun h => (by cases h), RoundIn.mono h3 ?_⟩
    rintro e w'' ⟨v, rfl, hr⟩
    exact hput _ _ hr
end

/-- How a function that holds such a loop returns behind it. -/
def escY (P : Program) (fn : Func) (R : Value → World → Prop) : Act → World → Prop := fun a w =>
  ∃ D, a.defers = [{ target := .collected D, args := #[] }] ∧ w.heap[D]? = some (.deferred (some [])) ∧ ∃ v, (results fn a.tmps).run P (w.putObj D (.deferred none)) = .ok v (w.putObj D (.deferred none)) ∧ R v (w.putObj D (.deferred none))
abbrev rndY (P : Program) (fn : Func) (R : Value → World → Prop) : Rnd := mkRnd none [] (escY P fn R)
abbrev rndD (P : Program) (fn : Func) (R : Value → World → Prop) (D : Nat) : Rnd := mkRnd none [{ target := .collected D, args := #[] }] (escY P fn R)

theorem calls_of_wpY {P : Program} {f : FuncId} {fn : Func} {c : Code} {args : List Value} {w : World} {R : Value → World → Prop}
    (hf : P.funcs[f]? = some fn) (hb : fn.body = some c) (n : Nat) (hn : fn.ntmps = n) (hsz : Nat.ble args.length n = true) (l : Env) (hl : startEnv args = l)
    (h : @WpE (rndY P fn R) P n c (retQ P fn R) l w) : Calls P f args.toArray w (fun e w' => ∃ v, e = .returned v ∧ R v w') := by
  refine (callsIn_wide (n := 0)).1 (callsIn_of_wp_marks hf hb trivial ?_ rfl)
  have hsz' : args.length ≤ n := Nat.le_of_ble_eq_true hsz
  have hag : Agrees n (args.toArray ++ Array.replicate (fn.ntmps - args.toArray.size) undef) l := by
    subst hl
    refine ⟨by simp; omega, fun p hp => ?_⟩
    simp only [startEnv, List.mem_map] at hp
    obtain ⟨⟨v, i⟩, hm, rfl⟩ := hp
    have hi := List.mem_zipIdx_iff_getElem?.1 hm
    simp only at hi ⊢
    have hlt : i < args.length := (List.getElem?_eq_some_iff.1 hi).1
    rw [Array.getD_eq_getD_getElem?, Array.getElem?_append_left (by simpa using hlt)]
    simp [hi]
  have h : c.wpIn Fence.wide 0 P (@EPost (rndY P fn R) n (retQ P fn R)) ⟨args.toArray ++ Array.replicate (fn.ntmps - args.toArray.size) undef, []⟩ w := h _ hag
  refine wpIn_mono h fun e a w' he => ?_
  rcases he with ⟨hd, l', h1, h2⟩ | ⟨rfl, D, hd, hk, v, hv, hR⟩
  · have hd : a.defers = [] := hd
    cases e with
    | normal =>
      obtain ⟨v, hv, hR⟩ := h2 a.tmps ⟨n, h1⟩
      show LeavesInM _ _ _ _ _ _ a.defers _ _
      rw [hd]; exact ⟨v, hv, v, rfl, hR⟩
    | ret =>
      obtain ⟨v, hv, hR⟩ := h2 a.tmps ⟨n, h1⟩
      show LeavesInM _ _ _ _ _ _ a.defers _ _
      rw [hd]; exact ⟨v, hv, v, rfl, hR⟩
    | exit id => exact h2.elim
    | goto id => exact h2.elim
    | panic ch => exact h2.elim
    | outgrown => exact h2.elim
  · show LeavesInM _ _ _ _ _ _ a.defers _ _
    rw [hd]
    exact ⟨by simp, .inl ⟨D, _, rfl, run_takeDeferred hk, v, hv, v, rfl, hR⟩⟩

/-- A return behind the loop. -/
theorem wpE_retD {P : Program} {fn : Func} {R : Value → World → Prop} {D n : Nat} {c : Code} {Q : Exit → Env → World → Prop} {l : Env} {w : World} (hc : c = .ret)
    (hD : w.heap[D]? = some (.deferred (some []))) (h : retQ P fn R .ret l (w.putObj D (.deferred none))) : @WpE (rndD P fn R D) P n c Q l w := by
  subst hc
  intro t ha
  refine @cw_ret (rndD P fn R D) P _ _ _ (.inr ⟨rfl, D, rfl, hD, ?_⟩)
  exact h t ⟨n, ha⟩

/-! #### A round -/
def penv : List Nat → List Value → Env → Env
  | p :: ps, x :: xs, l => penv ps xs ((p, x) :: l)
  | _, _, l => l
def pok (n : Nat) : List Nat → List Nat → Bool
  | p :: ps, ks => Nat.blt p n && !(ks.any (Nat.beq p)) && pok n ps (p :: ks)
  | [], _ => true
theorem agrees_set {n p : Nat} {x : Value} {t : Array Value} {l : Env} (ha : Agrees n t l) (hp : Nat.blt p n = true) (hf : ((l.map (·.1)).any (Nat.beq p)) = false) : Agrees n (t.setIfInBounds p x) ((p, x) :: l) := by
  have hlt : p < t.size := by rw [ha.1]; simpa [Nat.blt_eq] using hp
  refine ⟨by simpa using ha.1, fun q hq => ?_⟩
  rcases List.mem_cons.1 hq with rfl | hq
  · show (t.setIfInBounds p x).getD p undef = x
    rw [Array.getD_eq_getD_getElem?, Array.getElem?_setIfInBounds_self_of_lt hlt]; rfl
  · have hne : p ≠ q.1 := fun e => by
      have : ((l.map (·.1)).any (Nat.beq p)) = true := List.any_eq_true.2 ⟨q.1, List.mem_map.2 ⟨q, hq, rfl⟩, by rw [e]; simp⟩
      rw [hf] at this; cases this
    rw [Array.getD_eq_getD_getElem?, Array.getElem?_setIfInBounds_ne hne, ← Array.getD_eq_getD_getElem?]
    exact ha.2 q hq
theorem agrees_penv {n : Nat} : ∀ {ps : List Nat} {xs : List Value} {t : Array Value} {l : Env}, xs.length = ps.length → pok n ps (l.map (·.1)) = true → Agrees n t l →
    Agrees n ((ps.zip xs).foldl (fun t p => t.setIfInBounds p.1 p.2) t) (penv ps xs l)
  | [], [], t, l, _, _, ha => ha
  | [], _ :: _, _, _, h, _, _ => by simp at h
  | _ :: _, [], _, _, h, _, _ => by simp at h
  | p :: ps, x :: xs, t, l, h, hp, ha => by
    unfold pok at hp
    simp only [Bool.and_eq_true, Bool.not_eq_true'] at hp
    exact agrees_penv (ps := ps) (xs := xs) (by simpa using h) (show pok n ps (((p, x) :: l).map (·.1)) = true from hp.2) (agrees_set ha hp.1.1 hp.1.2)

theorem zip_fold (ps : List Nat) (xs : List Value) (t : Array Value) : (ps.toArray.zip xs.toArray).foldl (fun t (p, v) => t.setIfInBounds p v) t = (ps.zip xs).foldl (fun t p => t.setIfInBounds p.1 p.2) t := by
  rw [List.zip_toArray]
  simp
/-- The record of a loop, by its state and its pending jump. -/
abbrev Recs := LoopState → Option Code → Loop
def roundQ (rec : Recs) (lp : Nat) (K : Ending → World → Prop) : Exit → Env → World → Prop
  | .normal, _, W => W.heap[lp]? = some (.loop (rec .busy none)) ∧ K (.returned (.bool true)) (W.putObj lp (.loop (rec .ready none)))
  | .ret, _, W => W.heap[lp]? = some (.loop (rec .busy none)) ∧ K (.returned (.bool false)) (W.putObj lp (.loop (rec .done (some .ret))))
  | .exit id, _, W => W.heap[lp]? = some (.loop (rec .busy none)) ∧ K (.returned (.bool false)) (W.putObj lp (.loop (rec .done (some (.exit id)))))
  | _, _, _ => False
def beginQ (P : Program) (n : Nat) (body : Code) (rec : Recs) (lp : Nat) (K : Ending → World → Prop) : Exit → Env → World → Prop
  | .normal, l, W => W.heap[lp]? = some (.loop (rec .ready none)) ∧ ∀ W1, W1 = W.putObj lp (.loop (rec .busy none)) → @WpE (mkRnd (some lp) [] noEsc) P n body (roundQ rec lp K) l W1
  | _, _, _ => False

theorem round_of_wp {P : Program} {n lp : Nat} {f : FuncId} {t : Array Value} {ps : List Nat} {xs : List Value} {assign body : Code} {rec : Recs} {l : Env} {W : World} {K : Ending → World → Prop}
    (hrec : ∃ base : Loop, rec = fun st pe => { base with state := st, pending := pe }) (hxs : xs.length = ps.length) (hp : pok n ps (l.map (·.1)) = true) (ha : Agrees n t l)
    (h : @WpE (mkRnd (some lp) [] noEsc) P n assign (beginQ P n body rec lp K) (penv ps xs l) W) :
    RoundIn Fence.wide 0 P lp f ((ps.zip xs).foldl (fun t p => t.setIfInBounds p.1 p.2) t) assign body W K := by
  obtain ⟨base, rfl⟩ := hrec
  refine roundIn_of_wpIn trivial ?_
  have h1 : assign.wpIn (Fence.wide.inRound lp) 0 P (@EPost (mkRnd (some lp) [] noEsc) n (beginQ P n body (fun st pe => { base with state := st, pending := pe }) lp K)) ⟨(ps.zip xs).foldl (fun t p => t.setIfInBounds p.1 p.2) t, []⟩ W := h _ (agrees_penv hxs hp ha)
  refine wpIn_mono h1 fun e a w' he => ?_
  rcases he with ⟨hd, l', hag, hq⟩ | ⟨_, he⟩
  rotate_left
  · exact he.elim
  obtain ⟨t', d'⟩ := a
  have hd : d' = [] := hd
  subst hd
  cases e with
  | normal =>
    obtain ⟨hl, hb⟩ := hq
    have hbr := run_beginRound (P := P) hl rfl
    refine ⟨_, hbr, ?_⟩
    have h2 : body.wpIn (Fence.wide.inRound lp) 0 P (@EPost (mkRnd (some lp) [] noEsc) n (roundQ (fun st pe => { base with state := st, pending := pe }) lp K)) ⟨t', []⟩ (w'.putObj lp (.loop { base with state := .busy, pending := none })) := hb _ rfl t' hag
    refine wpIn_mono h2 fun e a w' he => ?_
    rcases he with ⟨hd, l', hag, hq⟩ | ⟨_, he⟩
    rotate_left
    · exact he.elim
    cases e with
    | normal =>
      obtain ⟨hl, hK⟩ := hq
      have := run_endRound (P := P) none hl
      exact ⟨_, _, this, hK⟩
    | ret =>
      obtain ⟨hl, hK⟩ := hq
      have := run_endRound (P := P) (some .ret) hl
      exact ⟨_, _, this, hK⟩
    | exit id =>
      obtain ⟨hl, hK⟩ := hq
      have := run_endRound (P := P) (some (.exit id)) hl
      exact ⟨_, _, this, hK⟩
    | goto id => exact hq.elim
    | panic ch => exact hq.elim
    | outgrown => exact hq.elim
  | ret => exact hq.elim
  | exit id => exact hq.elim
  | goto id => exact hq.elim
  | panic ch => exact hq.elim
  | outgrown => exact hq.elim

/-- What the loop's end leads to. -/
def afterQ (P : Program) (fn : Func) (R : Value → World → Prop) (n id D : Nat) (rest : Code) (l : Env) (w : World) : Option Code → Prop
  | none => @WpE (rndD P fn R D) P n rest (fun _ _ _ => False) l w
  | some (.exit i) => i = id ∧ @WpE (rndD P fn R D) P n rest (fun _ _ _ => False) l w
  | some .ret => w.heap[D]? = some (.deferred (some [])) ∧ retQ P fn R .ret l (w.putObj D (.deferred none))
  | _ => False
def onlyN (J : Env → World → Prop) : Exit → Env → World → Prop
  | .normal, l, w => J l w
  | _, _, _ => False
def RangeJ (P : Program) (fn : Func) (R : Value → World → Prop) (n id : Nat) (g : Operand) (ps : List Nat) (assign body rest : Code) : Env → World → Prop := fun l w =>
  pok n ps (l.map (·.1)) = true ∧ ∃ gv, evalE l g = some gv ∧ ∀ (rec : Recs) (D : Nat) (w1 : World), D = w.heap.size → w1 = (w.alloc (.deferred (some []))).alloc (.loop (rec .ready none)) →
    (∀ (xs : List Value) (W : World) (K : Ending → World → Prop), xs.length = ps.length → W.heap[D + 1]? = some (.loop (rec .ready none)) →
      @WpE (mkRnd (some (D + 1)) [] noEsc) P n assign (beginQ P n body rec (D + 1) K) (penv ps xs l) W → CallsY (P := P) (yieldV (D + 1)) xs.toArray W K) →
    CallsV (P := P) gv #[yieldV (D + 1)] w1 (fun e w2 => (∃ v, e = .returned v) ∧ ∃ st pe, w2.heap[D + 1]? = some (.loop (rec st pe)) ∧ st ≠ .busy ∧ afterQ P fn R n id D rest l (w2.putObj (D + 1) (.loop (rec .exhausted pe))) pe)

theorem rangeJ_mk {P : Program} {fn : Func} {R : Value → World → Prop} {n id : Nat} {g : Operand} {ps : List Nat} {assign body rest : Code} {l : Env} {w : World} {gv : Value} (hp : pok n ps (l.map (·.1)) = true) (hg : evalE l g = some gv)
    (h : ∀ (rec : Recs) (D : Nat) (w1 : World), D = w.heap.size → w1 = (w.alloc (.deferred (some []))).alloc (.loop (rec .ready none)) →
    (∀ (xs : List Value) (W : World) (K : Ending → World → Prop), xs.length = ps.length → W.heap[D + 1]? = some (.loop (rec .ready none)) →
      @WpE (mkRnd (some (D + 1)) [] noEsc) P n assign (beginQ P n body rec (D + 1) K) (penv ps xs l) W → CallsY (P := P) (yieldV (D + 1)) xs.toArray W K) →
    CallsV (P := P) gv #[yieldV (D + 1)] w1 (fun e w2 => (∃ v, e = .returned v) ∧ ∃ st pe, w2.heap[D + 1]? = some (.loop (rec st pe)) ∧ st ≠ .busy ∧ afterQ P fn R n id D rest l (w2.putObj (D + 1) (.loop (rec .exhausted pe))) pe)) :
    onlyN (RangeJ P fn R n id g ps assign body rest) .normal l w := ⟨hp, gv, hg, h⟩
/-- A region that draws, ahead of any loop. -/
theorem wpY_of_wp0 {esc : Act → World → Prop} {P : Program} {n : Nat} {c : Code} {Q : Exit → Env → World → Prop} {l : Env} {w : World} (h : @WpE rnd0 P n c Q l w) : @WpE (mkRnd none [] esc) P n c Q l w := by
  intro t ha
  have h : c.wp P (@EPost rnd0 n Q) ⟨t, []⟩ w := h t ha
  show c.wpIn Fence.wide 0 P (@EPost (mkRnd none [] esc) n Q) ⟨t, []⟩ w
  refine wpIn_wide.2 (wp_mono h fun e a w' he => ?_)
  rcases he with he | ⟨_, he⟩
  · exact .inl he
  · exact he.elim
theorem wpE_seq_range {P : Program} {fn : Func} {R : Value → World → Prop} {n id : Nat} {c x r1 b rg rest assign body : Code} {g : Operand} {ps : List Nat} {psa : Array Nat} {Q : Exit → Env → World → Prop} {l : Env} {w : World}
    (hc : c = .seq x rest) (hx : x = .seq r1 b) (hb : b = .block id rg) (hr : rg = .rangeFunc g psa assign body) (hps : psa = ps.toArray)
    (h1 : @WpE (rndY P fn R) P n r1 (onlyN (RangeJ P fn R n id g ps assign body rest)) l w) : @WpE (rndY P fn R) P n c Q l w := by
  subst hc; subst hx; subst hb; subst hr; subst hps
  intro t ha
  have h1 : r1.wpIn Fence.wide 0 P (@EPost (rndY P fn R) n (onlyN (RangeJ P fn R n id g ps assign body rest))) ⟨t, []⟩ w := h1 t ha
  show (Code.seq (.seq r1 (.block id (.rangeFunc g ps.toArray assign body))) rest).wpIn Fence.wide 0 P (@EPost (rndY P fn R) n Q) ⟨t, []⟩ w
  refine wpIn_seq (wpIn_seq (wpIn_mono h1 fun e a w' he => ?_))
  rcases he with ⟨hd, l', hag, hq⟩ | ⟨rfl, he⟩
  rotate_left
  · exact .inr ⟨rfl, he⟩
  obtain ⟨t', d'⟩ := a
  have hd : d' = [] := hd
  subst hd
  cases e with
  | ret => exact hq.elim
  | exit id => exact hq.elim
  | goto id => exact hq.elim
  | panic ch => exact hq.elim
  | outgrown => exact hq.elim
  | normal =>
  obtain ⟨hpok, gv, hg, hJ⟩ := hq
  refine wpIn_block (wpIn_rangeFunc ?_)
  intro fn' hfn
  obtain ⟨rec, hrec⟩ : ∃ rec : Recs, rec = fun st pe => { state := st, pending := pe, fn := fn', tmps := t', params := ps.toArray, assign, body, defers := w'.heap.size } := ⟨_, rfl⟩
  obtain ⟨w1, hw1⟩ : ∃ w1, w1 = (w'.alloc (.deferred (some []))).alloc (.loop (rec .ready none)) := ⟨_, rfl⟩
  have hB : ∀ (xs : List Value) (W : World) (K : Ending → World → Prop), xs.length = ps.length → W.heap[w'.heap.size + 1]? = some (.loop (rec .ready none)) →
      @WpE (mkRnd (some (w'.heap.size + 1)) [] noEsc) P n assign (beginQ P n body rec (w'.heap.size + 1) K) (penv ps xs l') W → CallsY (P := P) (yieldV (w'.heap.size + 1)) xs.toArray W K := by
    intro xs W K hxs hl hwp
    have hy := run_yield (P := P) (args := xs.toArray) hl (by rw [hrec]; simpa using hxs)
    refine .inr ⟨w'.heap.size + 1, fn', _, assign, body, rfl, ?_, round_of_wp (f := fn') (t := t') ⟨{ state := .ready, pending := none, fn := fn', tmps := t', params := ps.toArray, assign, body, defers := w'.heap.size }, hrec⟩ hxs hpok hag hwp⟩
    rw [hy, hrec]
    rw [zip_fold]
  obtain ⟨gf, first, captured, rfl, hgo, hcall⟩ := hJ rec _ w1 rfl hw1 hB
  have hev : Act.eval ⟨t', []⟩ g = .func (.func gf) first captured := evalE_eval hag hg
  refine ⟨w'.heap.size + 1, [{ target := .collected w'.heap.size, args := #[] }], w1, { target := .fn (.func gf) captured, args := first ++ #[yieldV (w'.heap.size + 1)] }, w1, gf, first ++ #[yieldV (w'.heap.size + 1)] ++ captured, w1, ?_, ?_, fun _ _ => trivial, ?_, fun h => (by cases h), ?_⟩
  · rw [hw1, hrec]; exact run_enterLoop_outer _ _ _ _ _
  · simp only [Go.resolve, hev]
    simp [go_sem, Deferred.ofValue]
  · simp [invoke, go_sem, run_callFunc hgo]
  · refine callsIn_wide.2 (Calls.mono hcall ?_)
    rintro e w2 ⟨⟨v, rfl⟩, st, pe, hl, hst, haft⟩
    have hend := run_endLoop (P := P) hl (by rw [hrec]; exact hst)
    rw [show ({ rec st pe with state := .exhausted } : Loop) = rec .exhausted pe from by rw [hrec], show (rec st pe).pending = pe from by rw [hrec]] at hend
    refine ⟨pe, _, hend, ?_⟩
    have goon : @WpE (rndD P fn R w'.heap.size) P n rest (fun _ _ _ => False) l' (w2.putObj (w'.heap.size + 1) (.loop (rec .exhausted pe))) →
        rest.wpIn Fence.wide 0 P (@EPost (rndY P fn R) n Q) ⟨t', [{ target := .collected w'.heap.size, args := #[] }]⟩ (w2.putObj (w'.heap.size + 1) (.loop (rec .exhausted pe))) := fun h => by
      have h : rest.wpIn Fence.wide 0 P (@EPost (rndD P fn R w'.heap.size) n (fun _ _ _ => False)) ⟨t', [{ target := .collected w'.heap.size, args := #[] }]⟩ (w2.putObj (w'.heap.size + 1) (.loop (rec .exhausted pe))) := h t' hag
      refine wpIn_mono h fun e a w3 he => ?_
      rcases he with ⟨_, l3, _, hq⟩ | he
      · exact hq.elim
      · exact .inr he
    cases pe with
    | none => exact goon haft
    | some c =>
      cases c with
      | exit i =>
        obtain ⟨rfl, haft⟩ := haft
        refine wpIn_exit ?_
        show Exit.inBlock i _ (.exit i) _ _
        simp only [Exit.inBlock, if_true]
        exact goon haft
      | ret =>
        obtain ⟨hD, haft⟩ := haft
        refine wpIn_ret ?_
        show @EPost (rndY P fn R) n Q .ret _ _
        exact .inr ⟨rfl, w'.heap.size, rfl, hD, haft t' ⟨n, hag⟩⟩
      | _ => exact haft.elim

/-! #### A region that draws, in a round or behind a loop -/
def noDefer (ops : Array Oper) : Bool := ops.all fun o => match o.op with | .defer .. => false | _ => true
theorem noDefer_spec {ops : Array Oper} (h : noDefer ops = true) {i : Nat} {o : Oper} (ho : ops[i]? = some o) : ∀ c, o.op ≠ .defer c := by
  intro c he
  unfold noDefer at h
  rw [Array.all_eq_true'] at h
  have := h o (Array.mem_of_getElem? ho)
  rw [he] at this
  cases this
theorem any_to_in {P : Program} {ops : Array Oper} {F : Fence} {ro : Option Nat} {ds : List Deferred} {Q Q' : Exit → Act → World → Prop} (hF : F = { Fence.wide with round := ro }) (hnd : noDefer ops = true) (hno : ∀ a w, ¬ Q .outgrown a w)
    (hq : ∀ t dl w, Q .normal ⟨t, dl⟩ w → Q' .normal ⟨t, dl ++ ds⟩ w) (hp : ∀ ch t dl w, Q (.panic ch) ⟨t, dl⟩ w → Q' (.panic ch) ⟨t, dl ++ ds⟩ w) :
    ∀ (fuel : Nat) (listed : Array Bool) (t : Array Value) (dl : List Deferred) (w : World), wpAny P .any ops Q fuel listed ⟨t, dl⟩ w → wpAnyIn F 0 P .any ops Q' fuel listed ⟨t, dl ++ ds⟩ w := by
  subst hF
  intro fuel
  induction fuel with
  | zero => intro listed t dl w h; exact ⟨h.1, hq _ _ _ h.2⟩
  | succ fuel ih =>
    intro listed t dl w h
    refine ⟨fun hr => hq _ _ _ (h.1 hr), fun i hi => ?_⟩
    have h := h.2 i hi
    unfold wpOp at h
    unfold wpOpIn
    cases ho : ops[i]? with
    | none => rw [ho] at h; exact ih _ _ _ _ h
    | some o =>
      rw [ho] at h
      simp only at h ⊢
      have hy : ∀ d1 d2, yielded ops (Act.mk t d1).tmps = yielded ops (Act.mk t d2).tmps := fun _ _ => rfl
      by_cases hw : Region.wanted o (yielded ops t) = true
      · rw [if_pos hw] at h ⊢
        rcases h with h | ⟨_, a0, w0, h⟩
        rotate_left
        · exact absurd h (hno _ _)
        refine ⟨fun _ _ => trivial, ?_⟩
        rw [Oper.semAt_eq _ _ _ (noDefer_spec hnd ho)]
        unfold Oper.wp at h
        have he : execOp (Act.eval ⟨t, dl ++ ds⟩) o = execOp (Act.eval ⟨t, dl⟩) o := by
          have : Act.eval ⟨t, dl ++ ds⟩ = Act.eval ⟨t, dl⟩ := by
            funext x
            cases x <;> rfl
          rw [this]
        rw [he]
        have hput : ∀ (v : Value) (d2 : List Deferred) w', wpAny P .any ops Q fuel (listed.setIfInBounds i true) (Act.put ⟨t, d2⟩ o.dst v) w' → wpAnyIn { Fence.wide with round := ro } 0 P .any ops Q' fuel (listed.setIfInBounds i true) (Act.put ⟨t, d2 ++ ds⟩ o.dst v) w' := fun v d2 w' hk => by
          cases hd : o.dst with
          | none => rw [hd] at hk; exact ih _ _ _ _ hk
          | some d => rw [hd] at hk; exact ih _ _ _ _ hk
        generalize (execOp (Act.eval ⟨t, dl⟩) o).run P w = r at h ⊢
        cases r with
        | halt x w' =>
          cases x with
          | panic v => exact hp _ _ _ _ h
          | _ => exact h.elim
        | ok nx w' =>
          cases nx with
          | value v => exact hput _ _ _ h
          | skip => exact hput _ _ _ h
          | defer d => exact hput _ (d :: dl) _ h
          | enter f args =>
            refine ⟨fun h => (by cases h), callsIn_wide.2 (Calls.mono h ?_)⟩
            intro e w'' hr
            cases e with
            | returned v => exact hput _ _ _ hr
            | panicked ch => exact hp _ _ _ _ hr
            | outgrown => obtain ⟨a0, w0, hr⟩ := hr; exact absurd hr (hno _ _)
          | row row args =>
            refine ⟨fun h => (by cases h), fun c cs _ => ?_⟩
            obtain ⟨v, w2, hR, hs⟩ := h c cs
            exact ⟨v, w2, hput _ _ _ hR, stepsIn_wide.2 hs⟩
          | _ => exact h.elim
      · rw [if_neg hw] at h ⊢
        refine ⟨fun _ _ => trivial, ?_⟩
        cases hd : o.dst with
        | none => rw [hd] at h; exact ih _ _ _ _ h
        | some d => rw [hd] at h; exact ih _ _ _ _ h
theorem wpE_mixregionY {ro : Option Nat} {ds : List Deferred} {esc : Act → World → Prop} {P : Program} {n id : Nat} {c : Code} {ops : Array Oper} {Q : Exit → Env → World → Prop} {l : Env} {w : World} (π : List Nat) (hc : c = .region id ops true)
    (hm : P.follows .mixedOrders = true) (hB : mixB ops = true) (hO : orderB ops π = true) (hnd : noDefer ops = true)
    (h : ∀ w1, (∃ k, w1 = w.drewN k) → RegM P n ops (@EPost rnd0 n (onlyN (Q .normal))) π [] 0 (toG l) w1) : @WpE (mkRnd ro ds esc) P n c Q l w := by
  subst hc
  intro t ha
  show (Code.region id ops true).wpIn { Fence.wide with round := ro } 0 P (@EPost (mkRnd ro ds esc) n Q) ⟨t, ds⟩ w
  refine wpIn_region_any hm ?_
  have h := (h w.drew ⟨1, rfl⟩ t ha.inv).2 hO t (Array.replicate ops.size false) t ?_ trivial ops.size ?_
  · refine any_to_in (ds := ds) rfl hnd (fun a w h => ?_) (fun t dl w h => ?_) (fun ch t dl w h => ?_) _ _ _ [] _ h
    · rcases h with ⟨_, _, _, h⟩ | ⟨h, _⟩
      · exact h.elim
      · cases h
    · rcases h with ⟨hd, l', hag, h⟩ | ⟨h, _⟩
      · have hd : dl = [] := hd
        subst hd
        exact .inl ⟨rfl, l', hag, h⟩
      · cases h
    · rcases h with ⟨_, _, _, h⟩ | ⟨h, _⟩
      · exact h.elim
      · cases h
  · refine ⟨hB, fun i hi => (by simp at hi), fun _ _ => rfl, by simp, fun i hi => ?_, fun j oj _ hl => ?_, ha.1, ha.1, fun s j hj => ?_, fun _ _ => rfl, fun i hi => (by simp at hi)⟩
    · rw [getD_replicate_false] at hi; cases hi
    · rw [getD_replicate_false] at hl; cases hl
    · rw [getD_replicate_false] at hj; cases hj
  · unfold unl
    exact Nat.le_trans (List.length_filter_le _ _) (by simp)

/-! #### A reading head, and a tail in order -/
theorem anyIn_of_head {P : Program} {ops : Array Oper} {F : Fence} {ro : Option Nat} {ds : List Deferred} {Q' : Exit → Act → World → Prop} {w : World} {m g : Nat} {L : Array Bool → Act → Prop} (hF : F = { Fence.wide with round := ro }) (hnd : noDefer ops = true)
    (hL : ∀ listed t, L listed ⟨t, []⟩ → wpAnyIn F 0 P .any ops Q' g listed ⟨t, ds⟩ w) :
    ∀ (f : Nat) (listed : Array Bool) (t : Array Value), wpAnyL P .any ops w m L f listed ⟨t, []⟩ → wpAnyIn F 0 P .any ops Q' (f + g) listed ⟨t, ds⟩ w := by
  subst hF
  intro f
  induction f with
  | zero => intro listed t h; rw [Nat.zero_add]; exact hL _ _ h
  | succ f ih =>
    intro listed t h
    rw [show f + 1 + g = (f + g) + 1 by omega]
    refine ⟨fun h0 => absurd h0 h.1, fun i hi => ?_⟩
    have h := (h.2 i hi).2
    unfold stOp at h
    unfold wpOpIn
    cases ho : ops[i]? with
    | none => rw [ho] at h; exact ih _ _ h
    | some o =>
      rw [ho] at h
      simp only at h ⊢
      by_cases hw : Region.wanted o (yielded ops t) = true
      · rw [if_pos hw] at h ⊢
        refine ⟨fun _ _ => trivial, ?_⟩
        rw [Oper.semAt_eq _ _ _ (noDefer_spec hnd ho)]
        unfold Oper.still at h
        have he : execOp (Act.eval ⟨t, ds⟩) o = execOp (Act.eval ⟨t, []⟩) o := by
          have : Act.eval ⟨t, ds⟩ = Act.eval ⟨t, []⟩ := by
            funext x
            cases x <;> rfl
          rw [this]
        rw [he]
        have hput : ∀ (v : Value), wpAnyL P .any ops w m L f (listed.setIfInBounds i true) (Act.put ⟨t, []⟩ o.dst v) → wpAnyIn { Fence.wide with round := ro } 0 P .any ops Q' (f + g) (listed.setIfInBounds i true) (Act.put ⟨t, ds⟩ o.dst v) w := fun v hk => by
          cases hd : o.dst with
          | none => rw [hd] at hk; exact ih _ _ hk
          | some d => rw [hd] at hk; exact ih _ _ hk
        generalize (execOp (Act.eval ⟨t, []⟩) o).run P w = r at h ⊢
        cases r with
        | halt x w' => exact h.elim
        | ok nx w' =>
          cases nx with
          | value v => obtain ⟨rfl, h⟩ := h; exact hput _ h
          | skip => obtain ⟨rfl, h⟩ := h; exact hput _ h
          | enter f args =>
            obtain ⟨rfl, v, hc, h⟩ := h
            refine ⟨fun h => (by cases h), callsIn_wide.2 (Calls.mono hc ?_)⟩
            rintro e w'' ⟨rfl, rfl⟩
            exact hput _ h
          | _ => exact h.elim
      · rw [if_neg hw] at h ⊢
        refine ⟨fun _ _ => trivial, ?_⟩
        cases hd : o.dst with
        | none => rw [hd] at h; exact ih _ _ h
        | some d => rw [hd] at h; exact ih _ _ h
theorem wpOpIn_mono' {F : Fence} {P : Program} {ops : Array Oper} {Q : Exit → Act → World → Prop} {i : Nat} {K K' : Act → World → Prop} {a : Act} {w : World} (h : ∀ a w, K a w → K' a w) (hh : wpOpIn F 0 P ops Q i K a w) : wpOpIn F 0 P ops Q i K' a w := by
  unfold wpOpIn at *
  split
  · rename_i ho; simp only [ho] at hh; exact h _ _ hh
  · rename_i o ho
    simp only [ho] at hh
    split
    · rename_i hw; simp only [hw, if_true] at hh; exact Oper.wpIn_mono h hh
    · rename_i hw; simp only [hw] at hh; exact ⟨hh.1, h _ _ hh.2⟩
theorem anyIn_of_seq {P : Program} {ops : Array Oper} {F : Fence} {Q' : Exit → Act → World → Prop} : ∀ (g k : Nat) (listed : Array Bool) (a : Act) (w : World),
    Region.seqB .any ops g k listed = true → wpOpsIn F 0 P ops Q' (List.range' k g) a w → wpAnyIn F 0 P .any ops Q' g listed a w
  | 0, k, listed, a, w, hB, h => ⟨by simpa [Region.seqB] using hB, h⟩
  | g + 1, k, listed, a, w, hB, h => by
    simp only [Region.seqB, Bool.and_eq_true, decide_eq_true_eq] at hB
    refine ⟨fun h1 => (by rw [hB.1] at h1; cases h1), fun i hi => ?_⟩
    rw [hB.1] at hi
    have hik : i = k := by simpa using hi
    subst hik
    rw [List.range'_succ, wpOpsIn_cons] at h
    exact wpOpIn_mono' (fun a' w' h' => anyIn_of_seq g (i + 1) _ a' w' hB.2 h') h

theorem wpE_tailregionY {ro : Option Nat} {ds : List Deferred} {esc : Act → World → Prop} {P : Program} {n id : Nat} {c : Code} {ops : Array Oper} {Q : Exit → Env → World → Prop} {l : Env} {w : World} (hc : c = .region id ops true)
    (m : Nat) (hm : P.follows .mixedOrders = true) (hB : Region.lexTailB .any ops m = true) (hnd : noDefer ops = true)
    (h : ∀ w1, (∃ k, w1 = w.drewN k) → RegQ P n ops m (fun w' => w' = w1) (fun a => ∀ t, a = ⟨t, []⟩ → wpOpsIn (mkRnd ro ds esc).F 0 P ops (@EPost (mkRnd ro ds esc) n Q) (List.range' m (ops.size - m)) ⟨t, ds⟩ w1) 0 (toG l) w1) : @WpE (mkRnd ro ds esc) P n c Q l w := by
  subst hc
  intro t ha
  show (Code.region id ops true).wpIn { Fence.wide with round := ro } 0 P (@EPost (mkRnd ro ds esc) n Q) ⟨t, ds⟩ w
  have h := (h w.drew ⟨1, rfl⟩ (fun w' hw => hw ▸ Ext.refl _) t ha.inv).2
  rw [List.drop_zero] at h
  have h := still_of_quiet _ _ h
  simp only [Region.lexTailB, Bool.and_eq_true, decide_eq_true_eq] at hB
  obtain ⟨⟨⟨⟨hsel, hn⟩, hs⟩, hc⟩, hlex⟩ := hB
  have htl : (ops.toList.take m).length = m := by simp; omega
  have inv0 : HeadInv .any ops m (Array.replicate ops.size false) :=
    ⟨by simp, fun j oj _ hl => (by rw [Go.getD_replicate_false] at hl; cases hl), fun t _ ht => getD_in (by simpa using ht) (Go.getD_replicate_false _ _)⟩
  have H := wpAnyL_lex (md := .any) (g := ops.size - m) hsel hs hc hn (ops.toList.take m) 0 _ _ (fun j hj => by
    have hj' : j < m := by rw [htl] at hj; exact hj
    simp [hj']) (by simpa using htl) inv0 (by rw [htl]; exact hlex) h
  refine wpIn_region_any hm ?_
  have := anyIn_of_head (ro := ro) (ds := ds) (F := { Fence.wide with round := ro }) (Q' := @EPost (mkRnd ro ds esc) n Q) (g := ops.size - m) rfl hnd (fun listed t hL => anyIn_of_seq _ m listed _ _ hL.1 (hL.2 t rfl)) _ _ _ H
  rw [htl, show m + (ops.size - m) = ops.size by omega] at this
  exact this
theorem qreg_tailY {ro : Option Nat} {ds : List Deferred} {esc : Act → World → Prop} {P : Program} {n : Nat} {ops : Array Oper} {m : Nat} {i : Nat} {ge : GEnv} {w : World} {Q : Exit → Env → World → Prop} (hi : i = m) (h : @RegG (mkRnd ro ds esc) P n ops (@EPost (mkRnd ro ds esc) n Q) i ge w) :
    RegQ P n ops m (fun w' => w' = w) (fun a => ∀ t, a = ⟨t, []⟩ → wpOpsIn (mkRnd ro ds esc).F 0 P ops (@EPost (mkRnd ro ds esc) n Q) (List.range' m (ops.size - m)) ⟨t, ds⟩ w) i ge w := by
  subst hi
  intro _ t hinv
  refine ⟨Nat.le_refl _, ?_⟩
  rw [List.drop_of_length_le (by simp; omega)]
  intro t' ht'
  obtain rfl : t = t' := by injection ht'
  exact h t hinv
/-- A call in the head: it leaves the world as it is. -/
theorem qreg_enterS {P : Program} {n : Nat} {ops : Array Oper} {m : Nat} {Q : Act → Prop} {i : Nat} {ge : GEnv} {w : World} {op : Op} {ty : TypeId} {dst : Option Nat} (f : FuncId) (args : Array Value) (v : Value)
    (ho : opAt n ops ge i = some (op, ty, dst)) (hx : ∀ ww, (ex op ty (rho ge)).run P ww = .ok (.enter f args) ww)
    (hcall : Calls P f args w (fun e w'' => e = .returned v ∧ w'' = w))
    (h : RegQ P n ops m (fun w' => w' = w) Q (i + 1) (putG dst v ge) w) : RegQ P n ops m (fun w' => w' = w) Q i ge w :=
  qreg_gen v ho (fun w' hw he => by
    subst hw
    rw [hx w']
    exact ⟨rfl, hcall⟩) h
section
variable [Rnd]
/-! ### The same rules, in few words -/
section
variable {P : Program} {n : Nat} {c : Code} {Q : Exit → Env → World → Prop} {l : Env} {w : World} {ops : Array Oper} {X : Exit → Act → World → Prop} {i : Nat} {ge : GEnv}
def Code.rid : Code → Nat
  | .region i _ _ => i
  | _ => 0
theorem Zs (x y : Code) (h : WpE P n x (seqQ P n y Q) l w) (hc : c = .seq x y := by kernel_rfl) : WpE P n c Q l w := wpE_seq hc h
theorem Zr (ops : Array Oper) (h : RegG P n ops (EPost n Q) 0 (toG l) w) (hc : c = .region (Code.rid c) ops false := by kernel_rfl) : WpE P n c Q l w := wpE_region hc h
theorem Zt (ops : Array Oper) (y : Code) (h : RegG P n ops (EPost n (seqQ P n y Q)) 0 (toG l) w) (hc : c = .seq (.region (Code.rid (Code.l c)) ops false) y := by kernel_rfl) : WpE P n c Q l w := wpE_seq hc (wpE_region rfl h)
theorem Zn (ms : List Mode) (j : Nat) (ge' : GEnv) (hn : RegG P n ops X j ge' w) (hj : i + ms.length = j := by kernel_rfl)
    (h : (stepsP P n ops ms i ge).map (fun g => ge'.map (fun p => gfind g p.1)) = some (ge'.map (fun p => some p.2)) := by kernel_rfl) : RegG P n ops X i ge w := reg_run ms j ge' hj h hn
theorem Ze (l : Env) (h : Q .normal l w) (hi : ops.size = i := by kernel_rfl) (hl : l.map (fun p => gfind ge p.1) = l.map (fun p => some ([], p.2)) := by kernel_rfl) : RegG P n ops (EPost n Q) i ge w := reg_end l hi hl h
theorem Zf (ms : List Mode) (l : Env) (h : Q .normal l w) (hi : ops.size = i + ms.length := by kernel_rfl)
    (hp : (stepsP P n ops ms i ge).map (fun g => l.map (fun p => gfind g p.1)) = some (l.map (fun p => some ([], p.2))) := by kernel_rfl) : RegG P n ops (EPost n Q) i ge w := by
  cases hq : stepsP P n ops ms i ge with
  | none => rw [hq] at hp; cases hp
  | some g =>
    rw [hq] at hp
    simp only [Option.map_some, Option.some.injEq] at hp
    exact stepsP_sound lawG ms i ge g hq (reg_end l hi hp h)
theorem Zp (y : Code) (ms : List Mode) (l' : Env) (k : WpE P n y Q l' w) (hc : c = .seq (.region (Code.rid (Code.l c)) (Code.ops (Code.l c)) false) y := by kernel_rfl) (hi : (Code.ops (Code.l c)).size = 0 + ms.length := by kernel_rfl)
    (hp : (stepsP P n (Code.ops (Code.l c)) ms 0 (toG l)).map (fun g => l'.map (fun p => gfind g p.1)) = some (l'.map (fun p => some ([], p.2))) := by kernel_rfl) : WpE P n c Q l w :=
  wpE_seq hc (wpE_region rfl (Zf ms l' k hi hp))
theorem Zc (s : Nat) (b : Bool) (x y : Code) (ht : b = true → WpE P n x Q l w) (hf : b = false → WpE P n y Q l w) (hc : c = .cond (.tmp s) x y := by kernel_rfl) (hb : evalE l (.tmp s) = some (.bool b) := by kernel_rfl) : WpE P n c Q l w := wpE_cond hc hb ht hf
theorem Zb (id : Nat) (x : Code) (h : WpE P n x (blockQ id Q) l w) (hc : c = .block id x := by kernel_rfl) : WpE P n c Q l w := wpE_block hc h
theorem Zm (f : FuncId) (args : Array Value) (dst : Option Nat) (h : Calls P f args w (fun e w' => ∃ v, e = .returned v ∧ RegG P n ops X (i + 1) (putG dst v ge) w'))
    (hr : ∀ ww, (opAt n ops ge i).map (fun x => ((ex x.1 x.2.1 (rho ge)).run P ww, x.2.2)) = some (.ok (.enter f args) ww, dst) := by intro ww; kernel_rfl) : RegG P n ops X i ge w := by
  cases ho : opAt n ops ge i with
  | none => have := hr w; rw [ho] at this; cases this
  | some x =>
    obtain ⟨op, ty, d⟩ := x
    have hk : ∀ ww, (ex op ty (rho ge)).run P ww = .ok (.enter f args) ww ∧ d = dst := fun ww => by
      have := hr ww
      rw [ho] at this
      simpa only [Option.map_some, Option.some.injEq, Prod.mk.injEq] using this
    obtain rfl := (hk w).2
    exact reg_enter f args ho (fun ww => (hk ww).1) h
theorem Zw (dst : Option Nat) (f : Nat → Value) (o : Obj) (h : ∀ b w', b = w.heap.size → w' = w.alloc o → RegG P n ops X (i + 1) (putG dst (f b) ge) w')
    (hr : (opAt n ops ge i).map (fun x => ((ex x.1 x.2.1 (rho ge)).run P w, x.2.2)) = some (.ok (.value (f w.heap.size)) { w with heap := w.heap.push o }, dst) := by kernel_rfl) : RegG P n ops X i ge w := by
  cases ho : opAt n ops ge i with
  | none => rw [ho] at hr; cases hr
  | some x =>
    obtain ⟨op, ty, d⟩ := x
    rw [ho] at hr
    have hk : (ex op ty (rho ge)).run P w = .ok (.value (f w.heap.size)) { w with heap := w.heap.push o } ∧ d = dst := by
      simpa only [Option.map_some, Option.some.injEq, Prod.mk.injEq] using hr
    obtain rfl := hk.2
    exact reg_new f o ho hk.1 h
def Pl (k : Nat) : List Mode := List.replicate k .plain
def P1 : List Mode := [.plain]
def P2 : List Mode := [.plain, .plain]
def P3 : List Mode := [.plain, .plain, .plain]
def P4 : List Mode := [.plain, .plain, .plain, .plain]
theorem Zv (F : Option Addr → GEnv) {p q : Option Addr} (hp : p = q) (h : RegG P n ops X i (F q) w) : RegG P n ops X i (F p) w := hp ▸ h
theorem Zi (t e : TypeId) (x ix b o l c : Nat) (j : Int) (d : Nat) (ty : TypeId) (h0 : 0 ≤ j) (h1 : j < l) (h : RegG P n ops X (i + 1) (putG (some d) (.pointer (some ⟨b, o + j.toNat, none⟩)) ge) w) (ho : opAt n ops ge i = some (.indexAddr t (.tmp x) (.tmp ix), ty, some d) := by kernel_rfl)
    (hx : rho ge (.tmp x) = .slice (some ⟨b, o, none⟩) l c := by kernel_rfl) (hi : rho ge (.tmp ix) = .int .i64 j := by kernel_rfl) (ht : P.underlying t = some (.slice e) := by kernel_rfl) (hs : sizeP P e = some 1 := by kernel_rfl) : RegG P n ops X i ge w := reg_indexS1 ho hx hi ht hs h0 h1 h
theorem Zj (t e : TypeId) (x ix b o l c : Nat) (j : Int) (sz d : Nat) (ty : TypeId) (h0 : 0 ≤ j) (h1 : j < l) (h : RegG P n ops X (i + 1) (putG (some d) (.pointer (some ⟨b, o + j.toNat * sz, none⟩)) ge) w) (ho : opAt n ops ge i = some (.indexAddr t (.tmp x) (.tmp ix), ty, some d) := by kernel_rfl)
    (hx : rho ge (.tmp x) = .slice (some ⟨b, o, none⟩) l c := by kernel_rfl) (hi : rho ge (.tmp ix) = .int .i64 j := by kernel_rfl) (ht : P.underlying t = some (.slice e) := by kernel_rfl) (hs : sizeP P e = some sz := by kernel_rfl) : RegG P n ops X i ge w := reg_indexS ho hx hi ht hs h0 h1 h
theorem Zl (t : TypeId) (a b o : Nat) (ty : TypeId) (d : Nat) {v : Value} (hc : w.cell? ⟨b, o, none⟩ = some v) (h : RegG P n ops X (i + 1) (putG (some d) v ge) w)
    (ho : opAt n ops ge i = some (.load t (.tmp a), ty, some d) := by kernel_rfl) (ha : rho ge (.tmp a) = .pointer (some ⟨b, o, none⟩) := by kernel_rfl) (ht : plain1 P t = true := by kernel_rfl) : RegG P n ops X i ge w := reg_load1 ho ha ht hc h
theorem Zo (t : TypeId) (a x b o k : Nat) (vs : List Value) (hw : Writable w b o k) (h : ∀ w', w' = World.puts b o vs w → RegG P n ops X (i + 1) (putG none undef ge) w') (ho : opAt n ops ge i = some (.store t (.tmp a) (.tmp x), 0, none) := by kernel_rfl)
    (ha : rho ge (.tmp a) = .pointer (some ⟨b, o, none⟩) := by kernel_rfl) (hx : (rho ge (.tmp x)).cells = vs.toArray := by kernel_rfl) (hs : sizeP P t = some k := by kernel_rfl) (hk : vs.length = k := by kernel_rfl) (h1 : oneCells vs = true := by kernel_rfl) : RegG P n ops X i ge w :=
  reg_store vs ho ha hx hs hk h1 hw h
end
end
end Go.Proofs.YtfmkemmgakdddaaGreatDoor
