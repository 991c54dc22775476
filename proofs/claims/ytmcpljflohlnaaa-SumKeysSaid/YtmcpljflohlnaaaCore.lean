/- The engine's core: frames known by some slots, and rules that step through Go code by small closed checks. -/
import Derived.WalkKit
import Derived.BigQuiet
import Derived.Deep.Quiet
import Derived.SizedLaws
namespace Go.Proofs.Ytmcpljflohlnaaa
open Go
set_option linter.unusedSimpArgs false
set_option linter.unusedVariables false

/-! ### Numbers: Go's operations on bits -/
def band (k : IntKind) (x y : Int) : Int := k.wrap (BitVec.ofInt k.bits x &&& BitVec.ofInt k.bits y).toNat
def bor (k : IntKind) (x y : Int) : Int := k.wrap (BitVec.ofInt k.bits x ||| BitVec.ofInt k.bits y).toNat
def bxor (k : IntKind) (x y : Int) : Int := k.wrap (BitVec.ofInt k.bits x ^^^ BitVec.ofInt k.bits y).toNat
def bandnot (k : IntKind) (x y : Int) : Int := k.wrap (BitVec.ofInt k.bits x &&& ~~~ BitVec.ofInt k.bits y).toNat

/-! ### Frames known by some slots -/
abbrev Env := List (Nat × Value)

def Agrees (n : Nat) (t : Array Value) (l : Env) : Prop := t.size = n ∧ ∀ p ∈ l, t.getD p.1 undef = p.2

def EPost (n : Nat) (Q : Exit → Env → World → Prop) : Exit → Act → World → Prop :=
  fun e a w => a.defers = [] ∧ ∃ l, Agrees n a.tmps l ∧ Q e l w

def WpE (P : Program) (n : Nat) (c : Code) (Q : Exit → Env → World → Prop) (l : Env) (w : World) : Prop :=
  ∀ t, Agrees n t l → c.wp P (EPost n Q) ⟨t, []⟩ w

theorem EPost.act {n : Nat} {Q : Exit → Env → World → Prop} {e : Exit} {a : Act} {w : World} (h : EPost n Q e a w) :
    ∃ t l, a = ⟨t, []⟩ ∧ Agrees n t l ∧ Q e l w := by
  obtain ⟨t, d⟩ := a
  obtain ⟨hd, l, h1, h2⟩ := h
  simp only at hd
  subst hd
  exact ⟨t, l, rfl, h1, h2⟩

theorem EPost.mk {n : Nat} {Q : Exit → Env → World → Prop} {e : Exit} {t : Array Value} {w : World} {l : Env} (h : Agrees n t l) (hq : Q e l w) :
    EPost n Q e ⟨t, []⟩ w := ⟨rfl, l, h, hq⟩

def efind : Env → Nat → Option Value
  | [], _ => none
  | (j, v) :: r, i => bif Nat.beq i j then some v else efind r i

theorem efind_mem : ∀ {l : Env} {i : Nat} {v : Value}, efind l i = some v → (i, v) ∈ l
  | (j, u) :: _, i, v, h => by
    unfold efind at h
    cases hb : Nat.beq i j with
    | true =>
      rw [hb] at h
      have : i = j := Nat.eq_of_beq_eq_true hb
      subst this
      simp only [cond_true, Option.some.injEq] at h
      subst h
      exact List.mem_cons_self ..
    | false =>
      rw [hb] at h
      simp only [cond_false] at h
      exact List.mem_cons_of_mem _ (efind_mem h)

/-- The check of a smaller environment. -/
def Sub (l l' : Env) : Prop := l'.map (fun p => efind l p.1) = l'.map (fun p => some p.2)

theorem Sub.mk {l l' : Env} (h : l'.map (fun p => efind l p.1) = l'.map (fun p => some p.2)) : Sub l l' := h

theorem Sub.agrees {n : Nat} {t : Array Value} {l l' : Env} (h : Sub l l') (ha : Agrees n t l) : Agrees n t l' := by
  refine ⟨ha.1, fun p hp => ?_⟩
  have : efind l p.1 = some p.2 := by
    have := List.map_inj_left.1 h p hp
    exact this
  exact ha.2 _ (efind_mem this)

theorem wpE_prune {P : Program} {n : Nat} {c : Code} {Q : Exit → Env → World → Prop} {l l' : Env} {w : World} (hs : Sub l l')
    (h : WpE P n c Q l' w) : WpE P n c Q l w := fun t ha => h t (hs.agrees ha)

theorem wpE_mono {P : Program} {n : Nat} {c : Code} {Q Q' : Exit → Env → World → Prop} {l : Env} {w : World} (hq : ∀ e l w, Q e l w → Q' e l w)
    (h : WpE P n c Q l w) : WpE P n c Q' l w := fun t ha =>
  wp_mono (h t ha) fun _ _ _ he => let ⟨_, l, h0, h1, h2⟩ := he.act; h0 ▸ EPost.mk h1 (hq _ _ _ h2)

/-! ### Structure -/
def Code.l : Code → Code
  | .seq a _ => a | .block _ a => a | .loop a => a | .scope a => a | .cond _ a _ => a | _ => .skip
def Code.r : Code → Code
  | .seq _ b => b | .cond _ _ b => b | _ => .skip
def Code.ops : Code → Array Oper
  | .region _ o _ => o | _ => #[]

def seqQ (P : Program) (n : Nat) (y : Code) (Q : Exit → Env → World → Prop) : Exit → Env → World → Prop
  | .normal, l, w => WpE P n y Q l w
  | e, l, w => Q e l w

theorem wpE_seq {P : Program} {n : Nat} {c x y : Code} {Q : Exit → Env → World → Prop} {l : Env} {w : World} (hc : c = .seq x y)
    (h : WpE P n x (seqQ P n y Q) l w) : WpE P n c Q l w := by
  subst hc
  intro t ha
  refine wp_seq (wp_mono (h t ha) fun e a w' he => ?_)
  obtain ⟨t', l', rfl, h1, h2⟩ := he.act
  cases e with
  | normal => exact h2 t' h1
  | _ => exact EPost.mk h1 h2

def cutQ (J : Env → World → Prop) (Q : Exit → Env → World → Prop) : Exit → Env → World → Prop
  | .normal, l, w => J l w
  | e, l, w => Q e l w

theorem wpE_seq_cut {P : Program} {n : Nat} {c x y : Code} {Q : Exit → Env → World → Prop} {l : Env} {w : World} (hc : c = .seq x y)
    (J : Env → World → Prop) (h : WpE P n x (cutQ (fun l w => ∃ l', Sub l l' ∧ J l' w) Q) l w) (hy : ∀ l w, J l w → WpE P n y Q l w) : WpE P n c Q l w :=
  wpE_seq hc (wpE_mono (fun e l w hq => by
    cases e with
    | normal => obtain ⟨l', hs, h'⟩ := hq; exact wpE_prune hs (hy _ _ h')
    | _ => exact hq) h)

theorem wpE_skip {P : Program} {n : Nat} {c : Code} {Q : Exit → Env → World → Prop} {l : Env} {w : World} (hc : c = .skip)
    (h : Q .normal l w) : WpE P n c Q l w := by
  subst hc; exact fun t ha => wp_skip (EPost.mk ha h)

theorem wpE_exit {P : Program} {n id : Nat} {c : Code} {Q : Exit → Env → World → Prop} {l : Env} {w : World} (hc : c = .exit id)
    (h : Q (.exit id) l w) : WpE P n c Q l w := by
  subst hc; exact fun t ha => wp_exit (EPost.mk ha h)

theorem wpE_ret {P : Program} {n : Nat} {c : Code} {Q : Exit → Env → World → Prop} {l : Env} {w : World} (hc : c = .ret)
    (h : Q .ret l w) : WpE P n c Q l w := by
  subst hc; exact fun t ha => wp_ret (EPost.mk ha h)

def blockQ (id : Nat) (Q : Exit → Env → World → Prop) : Exit → Env → World → Prop
  | .exit id', l, w => bif Nat.beq id' id then Q .normal l w else Q (.exit id') l w
  | e, l, w => Q e l w

theorem wpE_block {P : Program} {n id : Nat} {c x : Code} {Q : Exit → Env → World → Prop} {l : Env} {w : World} (hc : c = .block id x)
    (h : WpE P n x (blockQ id Q) l w) : WpE P n c Q l w := by
  subst hc
  intro t ha
  refine wp_block (wp_mono (h t ha) fun e a w' he => ?_)
  obtain ⟨t', l', rfl, h1, h2⟩ := he.act
  cases e with
  | exit id' =>
    simp only [Exit.inBlock]
    simp only [blockQ] at h2
    by_cases hid : id' = id
    · subst hid
      rw [if_pos rfl]
      rw [show Nat.beq id' id' = true from by simp] at h2
      exact EPost.mk h1 h2
    · rw [if_neg hid]
      rw [show Nat.beq id' id = false from by
        cases hb : Nat.beq id' id with
        | true => exact absurd (Nat.eq_of_beq_eq_true hb) hid
        | false => rfl] at h2
      exact EPost.mk h1 h2
  | _ => exact EPost.mk h1 h2

/-- A block whose normal end is cut: x is the block, y what follows. -/
theorem wpE_seq_block_cut {P : Program} {n id : Nat} {c b x y : Code} {Q : Exit → Env → World → Prop} {l : Env} {w : World} (hc : c = .seq b y) (hb : b = .block id x)
    (J : Env → World → Prop) (h : WpE P n x (blockQ id (cutQ (fun l w => ∃ l', Sub l l' ∧ J l' w) Q)) l w) (hy : ∀ l w, J l w → WpE P n y Q l w) : WpE P n c Q l w :=
  wpE_seq_cut hc J (wpE_block hb h) hy

def evalE (l : Env) : Operand → Option Value
  | .tmp s => efind l s
  | .const v => some v
  | .global g => some (.pointer (some ⟨g, 0, none⟩))
  | .func f => some (.func (.func f) #[] #[])

theorem evalE_eval {n : Nat} {t : Array Value} {l : Env} (ha : Agrees n t l) {x : Operand} {v : Value} (h : evalE l x = some v) : Act.eval ⟨t, []⟩ x = v := by
  cases x with
  | tmp s => exact ha.2 (s, v) (efind_mem h)
  | const u => exact Option.some.inj h
  | global g => exact Option.some.inj h
  | func f => exact Option.some.inj h

theorem wpE_cond {P : Program} {n : Nat} {c x y : Code} {o : Operand} {b : Bool} {Q : Exit → Env → World → Prop} {l : Env} {w : World} (hc : c = .cond o x y)
    (hb : evalE l o = some (.bool b)) (ht : b = true → WpE P n x Q l w) (hf : b = false → WpE P n y Q l w) : WpE P n c Q l w := by
  subst hc
  exact fun t ha => wp_cond_split (evalE_eval ha hb) (fun h => ht h t ha) (fun h => hf h t ha)

/-- A loop: an invariant over environments, with a number that goes down. -/
def loopQ (IE : Nat → Env → World → Prop) (m : Nat) (Q : Exit → Env → World → Prop) : Exit → Env → World → Prop
  | .normal, l, w => ∃ m', m' < m ∧ ∃ l', Sub l l' ∧ IE m' l' w
  | e, l, w => Q e l w

theorem wpE_loop {P : Program} {n : Nat} {c x : Code} {Q : Exit → Env → World → Prop} {l : Env} {w : World} (hc : c = .loop x)
    (IE : Nat → Env → World → Prop) {m : Nat} {l' : Env} (hs : Sub l l') (h0 : IE m l' w)
    (round : ∀ m l w, IE m l w → WpE P n x (loopQ IE m Q) l w) : WpE P n c Q l w := by
  subst hc
  intro t ha
  have ha' := hs.agrees ha
  -- the measure: the least number for which the invariant holds
  have key : ∀ (a : Act) (w : World), (∃ m l, a.defers = [] ∧ Agrees n a.tmps l ∧ IE m l w) → ∃ m, (∃ l, a.defers = [] ∧ Agrees n a.tmps l ∧ IE m l w) ∧ ∀ k, k < m → ¬ ∃ l, a.defers = [] ∧ Agrees n a.tmps l ∧ IE k l w := by
    intro a w hex
    classical
    obtain ⟨m, hm⟩ := hex
    induction m using Nat.strongRecOn with
    | _ m ih =>
      by_cases h : ∃ k, k < m ∧ ∃ l, a.defers = [] ∧ Agrees n a.tmps l ∧ IE k l w
      · obtain ⟨k, hk, hl⟩ := h; exact ih k hk hl
      · exact ⟨m, hm, fun k hk hl => h ⟨k, hk, hl⟩⟩
  classical
  let μ : Act → World → Nat := fun a w => if h : ∃ m l, a.defers = [] ∧ Agrees n a.tmps l ∧ IE m l w then Classical.choose (key a w h) else 0
  refine wp_loop (fun a w => ∃ m l, a.defers = [] ∧ Agrees n a.tmps l ∧ IE m l w) μ ⟨m, l', rfl, ha', h0⟩ ?_
  intro a w hI
  have hspec := Classical.choose_spec (key a w hI)
  have hμ : μ a w = Classical.choose (key a w hI) := dif_pos hI
  rw [← hμ] at hspec
  obtain ⟨⟨l1, hd1, hag1, hIE1⟩, _⟩ := hspec
  obtain ⟨t1, d1⟩ := a
  simp only at hd1
  subst hd1
  refine wp_mono (round _ l1 w hIE1 t1 hag1) fun e a' w' he => ?_
  obtain ⟨t', l2, rfl, h1, h2⟩ := he.act
  cases e with
  | normal =>
    obtain ⟨m', hm', l3, hs3, hI3⟩ := h2
    have hex : ∃ m l, (⟨t', []⟩ : Act).defers = [] ∧ Agrees n (⟨t', []⟩ : Act).tmps l ∧ IE m l w' := ⟨m', l3, rfl, hs3.agrees h1, hI3⟩
    refine ⟨hex, ?_⟩
    have hspec2 := Classical.choose_spec (key ⟨t', []⟩ w' hex)
    have hμ2 : μ ⟨t', []⟩ w' = Classical.choose (key ⟨t', []⟩ w' hex) := dif_pos hex
    rw [hμ2]
    refine Nat.lt_of_le_of_lt ?_ hm'
    rcases Nat.lt_or_ge m' (Classical.choose (key ⟨t', []⟩ w' hex)) with hlt | hge
    · exact absurd ⟨l3, rfl, hs3.agrees h1, hI3⟩ (hspec2.2 m' hlt)
    · exact hge
  | _ => exact EPost.mk h1 h2

theorem seqQ_ret {P : Program} {n : Nat} {y : Code} {Q : Exit → Env → World → Prop} {l : Env} {w : World} (h : Q .ret l w) : seqQ P n y Q .ret l w := h
theorem blockQ_ret {id : Nat} {Q : Exit → Env → World → Prop} {l : Env} {w : World} (h : Q .ret l w) : blockQ id Q .ret l w := h
theorem loopQ_ret {IE : Nat → Env → World → Prop} {m : Nat} {Q : Exit → Env → World → Prop} {l : Env} {w : World} (h : Q .ret l w) : loopQ IE m Q .ret l w := h
theorem cutQ_ret {J : Env → World → Prop} {Q : Exit → Env → World → Prop} {l : Env} {w : World} (h : Q .ret l w) : cutQ J Q .ret l w := h

/-! ### A function's call -/
def retQ (P : Program) (fn : Func) (R : Value → World → Prop) : Exit → Env → World → Prop
  | .ret, l, w | .normal, l, w => ∀ t, (∃ n, Agrees n t l) → ∃ v, (results fn t).run P w = .ok v w ∧ R v w
  | _, _, _ => False

def startEnv (args : List Value) : Env := args.zipIdx.map fun p => (p.2, p.1)

theorem calls_of_wpE {P : Program} {f : FuncId} {fn : Func} {c : Code} {args : List Value} {w : World} {R : Value → World → Prop}
    (hf : P.funcs[f]? = some fn) (hb : fn.body = some c) (n : Nat) (hn : fn.ntmps = n) (hsz : Nat.ble args.length n = true) (l : Env) (hl : startEnv args = l)
    (h : WpE P n c (retQ P fn R) l w) : Calls P f args.toArray w (fun e w' => ∃ v, e = .returned v ∧ R v w') := by
  refine calls_of_wp hf hb ?_
  have hsz' : args.length ≤ n := Nat.le_of_ble_eq_true hsz
  have hag : Agrees n (args.toArray ++ Array.replicate (fn.ntmps - args.toArray.size) undef) l := by
    subst hl
    refine ⟨by simp; omega, fun p hp => ?_⟩
    simp only [startEnv, List.mem_map] at hp
    obtain ⟨⟨v, i⟩, hm, rfl⟩ := hp
    have hi := List.mem_zipIdx_iff_getElem?.1 hm
    simp only at hi ⊢
    have hlt : i < args.length := (List.getElem?_eq_some_iff.1 hi).1
    rw [Array.getD_eq_getD_getElem?, Array.getElem?_append_left (by simpa using hlt)]
    simp [hi]
  refine wp_mono (h _ hag) fun e a w' he => ?_
  obtain ⟨t', l', rfl, h1, h2⟩ := he.act
  cases e with
  | normal => obtain ⟨v, hv, hR⟩ := h2 t' ⟨n, h1⟩; exact ⟨rfl, v, hv, v, rfl, hR⟩
  | ret => obtain ⟨v, hv, hR⟩ := h2 t' ⟨n, h1⟩; exact ⟨rfl, v, hv, v, rfl, hR⟩
  | exit id => exact h2.elim
  | goto id => exact h2.elim
  | panic ch => exact h2.elim
  | outgrown => exact h2.elim

/-! ### Inside a region -/
abbrev Gd := List (Nat × Bool)
abbrev GEnv := List (Nat × Gd × Value)

def gfind : GEnv → Nat → Option (Gd × Value)
  | [], _ => none
  | (j, x) :: r, i => bif Nat.beq i j then some x else gfind r i

def Holds (t : Array Value) (φ : Gd) : Prop := ∀ p ∈ φ, t.getD p.1 undef = .bool p.2

structure Inv (n : Nat) (t : Array Value) (ge : GEnv) : Prop where
  size : t.size = n
  ok : ∀ s φ v, gfind ge s = some (φ, v) → (Holds t φ → t.getD s undef = v) ∧ (¬ Holds t φ → t.getD s undef = undef)

def RegG (P : Program) (n : Nat) (ops : Array Oper) (Q : Exit → Act → World → Prop) (i : Nat) (ge : GEnv) (w : World) : Prop :=
  ∀ t, Inv n t ge → wpOps P ops Q (List.range' i (ops.size - i)) ⟨t, []⟩ w

def toG (l : Env) : GEnv := l.map fun p => (p.1, [], p.2)

theorem gfind_toG {l : Env} {s : Nat} {φ : Gd} {v : Value} : gfind (toG l) s = some (φ, v) → φ = [] ∧ efind l s = some v := by
  induction l with
  | nil => intro h; cases h
  | cons p l ih =>
    intro h
    simp only [toG, List.map_cons, gfind] at h
    unfold efind
    cases hb : Nat.beq s p.1 with
    | true =>
      rw [hb] at h
      simp only [cond_true, Option.some.injEq, Prod.mk.injEq] at h
      exact ⟨h.1.symm, by rw [← h.2]; rfl⟩
    | false =>
      rw [hb] at h
      exact ih h

theorem Agrees.inv {n : Nat} {t : Array Value} {l : Env} (ha : Agrees n t l) : Inv n t (toG l) := by
  refine ⟨ha.1, fun s φ v h => ?_⟩
  obtain ⟨rfl, h2⟩ := gfind_toG h
  have := ha.2 (s, v) (efind_mem h2)
  exact ⟨fun _ => this, fun hn => absurd (fun p hp => by cases hp) hn⟩

theorem wpE_region {P : Program} {n id : Nat} {c : Code} {ops : Array Oper} {Q : Exit → Env → World → Prop} {l : Env} {w : World} (hc : c = .region id ops false)
    (h : RegG P n ops (EPost n Q) 0 (toG l) w) : WpE P n c Q l w := by
  subst hc
  intro t ha
  refine wp_region ?_
  have := h t ha.inv
  rwa [List.range_eq_range']

/-- The region's end: what is known of its slots. -/
theorem reg_end {P : Program} {n i : Nat} {ops : Array Oper} {Q : Exit → Env → World → Prop} {ge : GEnv} {w : World} (l : Env) (hi : ops.size = i)
    (hl : l.map (fun p => gfind ge p.1) = l.map (fun p => some ([], p.2))) (h : Q .normal l w) : RegG P n ops (EPost n Q) i ge w := by
  intro t hinv
  subst hi
  rw [Nat.sub_self]
  refine EPost.mk ⟨hinv.size, fun p hp => ?_⟩ h
  have := List.map_inj_left.1 hl p hp
  exact (hinv.ok _ _ _ this).1 (fun p hp => by cases hp)

/-! #### Operations that neither read nor write memory -/
def plainVal (P : Program) {α : Type} : Sem α → Option α
  | .pure a => some a
  | .program k => plainVal P (k P)
  | .mark _ k => plainVal P k
  | _ => none

theorem plainVal_run {P : Program} {α : Type} (s : Sem α) {a : α} (h : plainVal P s = some a) (w : World) : s.run P w = .ok a w := by
  induction s with
  | pure b => simp only [plainVal, Option.some.injEq] at h; subst h; rfl
  | program k ih => exact ih P h
  | mark m k ih => exact ih h
  | _ => cases h

def avail (ge : GEnv) (φ : Gd) : Operand → Bool
  | .tmp s => match gfind ge s with
    | some (ψ, _) => ψ.all fun p => φ.any fun q => Nat.beq p.1 q.1 && (p.2 == q.2)
    | none => false
  | _ => true

def rho (ge : GEnv) : Operand → Value
  | .tmp s => match gfind ge s with
    | some (_, v) => v
    | none => undef
  | .const v => v
  | .global g => .pointer (some ⟨g, 0, none⟩)
  | .func f => .func (.func f) #[] #[]

theorem avail_eval {n : Nat} {t : Array Value} {ge : GEnv} {φ : Gd} (hinv : Inv n t ge) (hφ : Holds t φ) {x : Operand} (h : avail ge φ x = true) :
    Act.eval ⟨t, []⟩ x = rho ge x := by
  cases x with
  | tmp s =>
    simp only [avail] at h
    simp only [rho, Act.eval]
    cases hg : gfind ge s with
    | none => rw [hg] at h; cases h
    | some pv =>
      obtain ⟨ψ, v⟩ := pv
      rw [hg] at h
      refine (hinv.ok s ψ v hg).1 fun p hp => ?_
      have := List.all_eq_true.1 h p hp
      obtain ⟨q, hq, he⟩ := List.any_eq_true.1 this
      simp only [Bool.and_eq_true, beq_iff_eq] at he
      have h1 : p.1 = q.1 := Nat.eq_of_beq_eq_true he.1
      have h2 := he.2
      have := hφ q hq
      rw [h1, h2]; exact this
  | const u => rfl
  | global g => rfl
  | func f => rfl

def notSelect : Op → Bool
  | .select .. => false
  | _ => true

theorem notSelect_spec {o : Oper} (h : notSelect o.op = true) : ∀ cs b, o.op ≠ .select cs b := by
  intro cs b he
  rw [he] at h
  cases h

def freeOf (ge : GEnv) (d : Nat) : Bool := ge.all fun e => e.2.1.all fun p => !Nat.beq p.1 d

theorem freeOf_spec {ge : GEnv} {d : Nat} (h : freeOf ge d = true) {s : Nat} {φ : Gd} {v : Value} (hg : gfind ge s = some (φ, v)) : ∀ p ∈ φ, p.1 ≠ d := by
  induction ge with
  | nil => cases hg
  | cons e ge ih =>
    simp only [freeOf, List.all_cons, Bool.and_eq_true] at h
    obtain ⟨j, x⟩ := e
    simp only [gfind] at hg
    cases hb : Nat.beq s j with
    | true =>
      rw [hb] at hg
      simp only [cond_true, Option.some.injEq] at hg
      intro p hp hpd
      have h1 := h.1
      simp only [hg] at h1
      have := List.all_eq_true.1 h1 p hp
      subst hpd
      simp at this
    | false =>
      rw [hb] at hg
      exact ih h.2 hg

theorem Holds.put {t : Array Value} {φ : Gd} {d : Nat} {v : Value} (hd : ∀ p ∈ φ, p.1 ≠ d) : Holds (t.setIfInBounds d v) φ ↔ Holds t φ := by
  have : ∀ p ∈ φ, (t.setIfInBounds d v).getD p.1 undef = t.getD p.1 undef := fun p hp => by
    rw [Array.getD_eq_getD_getElem?, Array.getD_eq_getD_getElem?, Array.getElem?_setIfInBounds_ne (fun h => hd p hp h.symm)]
  exact ⟨fun h p hp => (this p hp) ▸ h p hp, fun h p hp => (this p hp).trans (h p hp)⟩

/-- One slot is written: its value is known under the guards φ, and is 'undef' where they fail. -/
theorem Inv.put {n : Nat} {t : Array Value} {ge : GEnv} {d : Nat} {φ : Gd} {v u : Value} (hinv : Inv n t ge) (hd : Nat.blt d n = true) (hf : freeOf ge d = true)
    (hφd : ∀ p ∈ φ, p.1 ≠ d) (h1 : Holds t φ → u = v) (h2 : ¬ Holds t φ → u = undef) : Inv n (t.setIfInBounds d u) ((d, φ, v) :: ge) := by
  have hlt : d < t.size := by rw [hinv.size]; simpa [Nat.blt_eq] using hd
  refine ⟨by simpa using hinv.size, fun s ψ x hg => ?_⟩
  simp only [gfind] at hg
  cases hb : Nat.beq s d with
  | true =>
    rw [hb] at hg
    have : s = d := Nat.eq_of_beq_eq_true hb
    subst this
    simp only [cond_true, Option.some.injEq, Prod.mk.injEq] at hg
    obtain ⟨rfl, rfl⟩ := hg
    have e : (t.setIfInBounds s u).getD s undef = u := by
      rw [Array.getD_eq_getD_getElem?, Array.getElem?_setIfInBounds_self_of_lt hlt]; rfl
    rw [e, Holds.put hφd]
    exact ⟨h1, h2⟩
  | false =>
    rw [hb] at hg
    simp only [cond_false] at hg
    have hne : s ≠ d := fun h => by rw [h] at hb; simp at hb
    have e : (t.setIfInBounds d u).getD s undef = t.getD s undef := by
      rw [Array.getD_eq_getD_getElem?, Array.getD_eq_getD_getElem?, Array.getElem?_setIfInBounds_ne (fun h => hne h.symm)]
    rw [e, Holds.put (freeOf_spec hf hg)]
    exact hinv.ok _ _ _ hg

def pickV (a b : Operand) (va vb : Value) : Value → Option Value
  | .bool x => match a, b with
    | .const (.bool true), _ => match vb with
      | .bool y => some (.bool (x || y))
      | _ => none
    | _, .const (.bool false) => match va with
      | .bool y => some (.bool (x && y))
      | _ => none
    | _, _ => none
  | _ => none

/-- The guards of an operation: those of the slot that it names, and that one. -/
def ogd (ops : Array Oper) (ge : GEnv) (o : Oper) : Option Gd :=
  match o.guard with
  | none => some []
  | some (j, want) => match (ops[j]?).bind (·.dst) with
    | none => none
    | some s => match gfind ge s with
      | none => none
      | some (ψ, _) => some ((s, want) :: ψ)

def isB (want : Bool) : Value → Bool
  | .bool c => c == want
  | _ => false

def isNo (want : Bool) : Value → Bool
  | .bool c => c == !want
  | .tuple _ => true
  | _ => false

/-- Is the guard of an operation known to say 'want' or not? -/
def gsure (ops : Array Oper) (ge : GEnv) (o : Oper) (yes : Bool) : Bool :=
  match o.guard with
  | none => yes
  | some (j, want) => match (ops[j]?).bind (·.dst) with
    | none => false
    | some s => match gfind ge s with
      | some ([], v) => bif yes then isB want v else isNo want v
      | some _ => false
      | none => false

def plainOp (P : Program) (ge : GEnv) (o : Oper) : Option Value :=
  match plainVal P (execOp (rho ge) o) with
  | some (.value v) => some v
  | _ => none

inductive Mode where
  | plain | pick | sure | skip

def stepP (P : Program) (n : Nat) (ops : Array Oper) (m : Mode) (i : Nat) (ge : GEnv) : Option GEnv :=
  match ops[i]? with
  | none => none
  | some o => match o.dst with
    | none => none
    | some d => bif Nat.blt d n && freeOf ge d then
        match m with
        | .skip => bif gsure ops ge o false then some ((d, [], undef) :: ge) else none
        | .sure => bif gsure ops ge o true && notSelect o.op && o.op.operands.toList.all (avail ge []) then
            match plainOp P ge o with
            | some v => some ((d, [], v) :: ge)
            | none => none
          else none
        | .plain => match ogd ops ge o with
          | none => none
          | some φ => bif φ.all (fun p => !Nat.beq p.1 d) && notSelect o.op && o.op.operands.toList.all (avail ge φ) then
              match plainOp P ge o with
              | some v => some ((d, φ, v) :: ge)
              | none => none
            else none
        | .pick => match o.op with
          | .pick (.tmp s) a b => match ogd ops ge o with
            | none => none
            | some φ => bif φ.all (fun p => !Nat.beq p.1 d) && avail ge φ (.tmp s) && avail ge ((s, true) :: φ) a && avail ge ((s, false) :: φ) b then
                match pickV a b (rho ge a) (rho ge b) (rho ge (.tmp s)) with
                | some v => some ((d, φ, v) :: ge)
                | none => none
              else none
          | _ => none
      else none

def stepsP (P : Program) (n : Nat) (ops : Array Oper) : List Mode → Nat → GEnv → Option GEnv
  | [], _, ge => some ge
  | m :: ms, i, ge => match stepP P n ops m i ge with
    | some ge' => stepsP P n ops ms (i + 1) ge'
    | none => none

theorem yielded_spec {ops : Array Oper} {t : Array Value} {j s : Nat} (hs : (ops[j]?).bind (·.dst) = some s) (b : Bool) :
    yielded ops t j = some b ↔ t.getD s undef = .bool b := by
  unfold yielded
  rw [hs]
  simp only [Option.bind_some, Array.getD_eq_getD_getElem?]
  cases h : t[s]? with
  | none => simp [undef]
  | some v => cases v <;> simp [undef]

theorem ogd_wanted {n : Nat} {ops : Array Oper} {t : Array Value} {ge : GEnv} (hinv : Inv n t ge) {o : Oper} {φ : Gd} (h : ogd ops ge o = some φ) :
    (Region.wanted o (yielded ops t) = true ↔ Holds t φ) := by
  unfold ogd at h
  unfold Region.wanted
  cases hg : o.guard with
  | none => rw [hg] at h; simp only [Option.some.injEq] at h; subst h; simp [Holds]
  | some jw =>
    obtain ⟨j, want⟩ := jw
    rw [hg] at h
    simp only at h ⊢
    cases hs : (ops[j]?).bind (·.dst) with
    | none => rw [hs] at h; cases h
    | some s =>
      rw [hs] at h
      simp only at h
      cases hf : gfind ge s with
      | none => rw [hf] at h; cases h
      | some pv =>
        obtain ⟨ψ, v⟩ := pv
        rw [hf] at h
        simp only [Option.some.injEq] at h
        subst h
        rw [beq_iff_eq, yielded_spec hs]
        constructor
        · intro hb p hp
          rcases List.mem_cons.1 hp with rfl | hp
          · exact hb
          · by_cases hh : Holds t ψ
            · exact hh p hp
            · have := (hinv.ok s ψ v hf).2 hh
              rw [this] at hb
              cases hb
        · intro hh
          exact hh (s, want) (List.mem_cons_self ..)

theorem gsure_wanted {n : Nat} {ops : Array Oper} {t : Array Value} {ge : GEnv} (hinv : Inv n t ge) {o : Oper} {yes : Bool} (h : gsure ops ge o yes = true) :
    Region.wanted o (yielded ops t) = yes := by
  unfold gsure at h
  unfold Region.wanted
  cases hg : o.guard with
  | none => rw [hg] at h; simp only at h ⊢; exact h.symm
  | some jw =>
    obtain ⟨j, want⟩ := jw
    rw [hg] at h
    simp only at h ⊢
    cases hs : (ops[j]?).bind (·.dst) with
    | none => rw [hs] at h; cases h
    | some s =>
      rw [hs] at h
      simp only at h
      cases hf : gfind ge s with
      | none => rw [hf] at h; cases h
      | some pv =>
        obtain ⟨ψ, v⟩ := pv
        rw [hf] at h
        cases ψ with
        | cons a b => simp only at h; cases h
        | nil =>
          simp only at h
          have hv := (hinv.ok s [] v hf).1 (fun p hp => by cases hp)
          cases yes with
          | true =>
            simp only [cond_true] at h
            cases v <;> simp only [isB] at h <;> try (cases h; done)
            rename_i c
            have hc := beq_iff_eq.1 h
            subst hc
            have hy := (yielded_spec hs _).2 hv
            rw [hy]
            simp
          | false =>
            simp only [cond_false] at h
            cases v <;> simp only [isNo] at h <;> try (cases h; done)
            · rename_i c
              have hc := beq_iff_eq.1 h
              subst hc
              have hy := (yielded_spec hs _).2 hv
              rw [hy]
              cases want <;> rfl
            · rename_i vs
              have hy : yielded ops t j ≠ some want := fun hy => by
                have := (yielded_spec hs _).1 hy
                rw [hv] at this
                cases this
              simpa using hy

theorem range'_step {i k : Nat} (h : i < k) : List.range' i (k - i) = i :: List.range' (i + 1) (k - (i + 1)) := by
  have : k - i = (k - (i + 1)) + 1 := by omega
  rw [this, List.range'_succ]

theorem getElem?_lt {ops : Array Oper} {i : Nat} {o : Oper} (h : ops[i]? = some o) : i < ops.size := by
  rcases Nat.lt_or_ge i ops.size with h' | h'
  · exact h'
  · rw [Array.getElem?_eq_none h'] at h; cases h

theorem wpOps_value {P : Program} {ops : Array Oper} {Q : Exit → Act → World → Prop} {i d : Nat} {o : Oper} {t : Array Value} {w w' : World} {v : Value} (ho : ops[i]? = some o)
    (hd : o.dst = some d) (hw : Region.wanted o (yielded ops t) = true) (hr : (execOp (Act.eval ⟨t, []⟩) o).run P w = .ok (.value v) w')
    (h : wpOps P ops Q (List.range' (i + 1) (ops.size - (i + 1))) ⟨t.setIfInBounds d v, []⟩ w') : wpOps P ops Q (List.range' i (ops.size - i)) ⟨t, []⟩ w := by
  rw [range'_step (getElem?_lt ho)]
  simp only [wpOps, ho]
  rw [if_pos hw]
  refine .inl ?_
  unfold Oper.wp
  rw [hr]
  show wpOps P ops Q _ (Act.put ⟨t, []⟩ o.dst v) w'
  rw [hd]
  exact h

theorem wpOps_skipped {P : Program} {ops : Array Oper} {Q : Exit → Act → World → Prop} {i d : Nat} {o : Oper} {t : Array Value} {w : World} (ho : ops[i]? = some o)
    (hd : o.dst = some d) (hw : Region.wanted o (yielded ops t) = false)
    (h : wpOps P ops Q (List.range' (i + 1) (ops.size - (i + 1))) ⟨t.setIfInBounds d undef, []⟩ w) : wpOps P ops Q (List.range' i (ops.size - i)) ⟨t, []⟩ w := by
  rw [range'_step (getElem?_lt ho)]
  simp only [wpOps, ho]
  rw [hw, if_neg (by decide)]
  show wpOps P ops Q _ (Act.put ⟨t, []⟩ o.dst undef) w
  rw [hd]
  exact h

theorem plainOp_run {P : Program} {ge : GEnv} {o : Oper} {v : Value} (h : plainOp P ge o = some v) (w : World) : (execOp (rho ge) o).run P w = .ok (.value v) w := by
  unfold plainOp at h
  split at h
  · rename_i u hu
    simp only [Option.some.injEq] at h
    subst h
    exact plainVal_run _ hu w
  · cases h

theorem exec_rho {n : Nat} {t : Array Value} {ge : GEnv} {φ : Gd} (hinv : Inv n t ge) (hφ : Holds t φ) {o : Oper} (hsel : notSelect o.op = true)
    (hav : o.op.operands.toList.all (avail ge φ) = true) : execOp (Act.eval ⟨t, []⟩) o = execOp (rho ge) o :=
  execOp_congr o (notSelect_spec hsel) fun x hx => avail_eval hinv hφ (List.all_eq_true.1 hav x (by simpa using hx))

theorem bif_some {c : Bool} {α : Type} {x : Option α} {y : α} (h : (bif c then x else none) = some y) : c = true ∧ x = some y := by
  cases c
  · cases h
  · exact ⟨rfl, h⟩

/-- What steps from operation to operation: a value is put into its slot, or the operation is passed over. -/
structure StepLaw (P : Program) (ops : Array Oper) (X : Nat → Array Value → Prop) : Prop where
  value : ∀ {i d : Nat} {o : Oper} {t : Array Value} {v : Value}, ops[i]? = some o → o.dst = some d → Region.wanted o (yielded ops t) = true →
    (∀ w, (execOp (Act.eval ⟨t, []⟩) o).run P w = .ok (.value v) w) → X (i + 1) (t.setIfInBounds d v) → X i t
  skip : ∀ {i d : Nat} {o : Oper} {t : Array Value}, ops[i]? = some o → o.dst = some d → Region.wanted o (yielded ops t) = false →
    X (i + 1) (t.setIfInBounds d undef) → X i t

theorem lawG {P : Program} {ops : Array Oper} {Q : Exit → Act → World → Prop} {w : World} :
    StepLaw P ops (fun i t => wpOps P ops Q (List.range' i (ops.size - i)) ⟨t, []⟩ w) :=
  ⟨fun ho hd hw hr h => wpOps_value ho hd hw (hr w) h, fun ho hd hw h => wpOps_skipped ho hd hw h⟩

def RegX (X : Nat → Array Value → Prop) (n i : Nat) (ge : GEnv) : Prop := ∀ t, Inv n t ge → X i t

theorem stepP_sound {P : Program} {n : Nat} {ops : Array Oper} {X : Nat → Array Value → Prop} (law : StepLaw P ops X) {m : Mode} {i : Nat} {ge ge' : GEnv}
    (h : stepP P n ops m i ge = some ge') (hn : RegX X n (i + 1) ge') : RegX X n i ge := by
  intro t hinv
  unfold stepP at h
  cases ho : ops[i]? with
  | none => rw [ho] at h; cases h
  | some o =>
    rw [ho] at h
    simp only at h
    cases hd : o.dst with
    | none => rw [hd] at h; cases h
    | some d =>
      rw [hd] at h
      simp only at h
      obtain ⟨hc, h⟩ := bif_some h
      simp only [Bool.and_eq_true] at hc
      obtain ⟨hdn, hfree⟩ := hc
      cases m with
      | skip =>
        simp only at h
        obtain ⟨hs, h⟩ := bif_some h
        simp only [Option.some.injEq] at h
        subst h
        exact law.skip ho hd (gsure_wanted hinv hs) (hn _ (hinv.put hdn hfree (fun p hp => by cases hp) (fun _ => rfl) (fun hh => absurd (fun p hp => by cases hp) hh)))
      | sure =>
        simp only at h
        obtain ⟨hs, h⟩ := bif_some h
        simp only [Bool.and_eq_true] at hs
        cases hp : plainOp P ge o with
        | none => rw [hp] at h; cases h
        | some v =>
          rw [hp] at h
          simp only [Option.some.injEq] at h
          subst h
          have hH : Holds t [] := fun p hp => by cases hp
          refine law.value (v := v) ho hd (gsure_wanted hinv hs.1.1) (fun w => ?_) (hn _ (hinv.put (v := v) (u := v) hdn hfree (fun p hp => by cases hp) (fun _ => rfl) (fun hh => absurd hH hh)))
          rw [exec_rho hinv hH hs.1.2 hs.2]
          exact plainOp_run hp w
      | plain =>
        simp only at h
        cases hφ : ogd ops ge o with
        | none => rw [hφ] at h; cases h
        | some φ =>
          rw [hφ] at h
          simp only at h
          obtain ⟨hs, h⟩ := bif_some h
          simp only [Bool.and_eq_true] at hs
          cases hp : plainOp P ge o with
          | none => rw [hp] at h; cases h
          | some v =>
            rw [hp] at h
            simp only [Option.some.injEq] at h
            subst h
            have hφd : ∀ p ∈ φ, p.1 ≠ d := fun p hp hpd => by
              have := List.all_eq_true.1 hs.1.1 p hp
              subst hpd
              simp at this
            have hw := ogd_wanted (ops := ops) hinv hφ
            by_cases hH : Holds t φ
            · refine law.value (v := v) ho hd (hw.2 hH) (fun w => ?_) (hn _ (hinv.put (v := v) (u := v) hdn hfree hφd (fun _ => rfl) (fun hh => absurd hH hh)))
              rw [exec_rho hinv hH hs.1.2 hs.2]
              exact plainOp_run hp w
            · have hw' : Region.wanted o (yielded ops t) = false := by
                cases hb : Region.wanted o (yielded ops t) with
                | true => exact absurd (hw.1 hb) hH
                | false => rfl
              exact law.skip ho hd hw' (hn _ (hinv.put hdn hfree hφd (fun hh => absurd hh hH) (fun _ => rfl)))
      | pick =>
        simp only at h
        split at h
        · rename_i s a b hop
          cases hφ : ogd ops ge o with
          | none => rw [hφ] at h; cases h
          | some φ =>
            rw [hφ] at h
            simp only at h
            obtain ⟨hs, h⟩ := bif_some h
            simp only [Bool.and_eq_true] at hs
            cases hp : pickV a b (rho ge a) (rho ge b) (rho ge (.tmp s)) with
            | none => rw [hp] at h; cases h
            | some v =>
              rw [hp] at h
              simp only [Option.some.injEq] at h
              subst h
              have hφd : ∀ p ∈ φ, p.1 ≠ d := fun p hp hpd => by
                have := List.all_eq_true.1 hs.1.1.1 p hp
                subst hpd
                simp at this
              have hw := ogd_wanted (ops := ops) hinv hφ
              by_cases hH : Holds t φ
              · refine law.value ho hd (hw.2 hH) (v := v) (fun w => ?_) (hn _ (hinv.put (v := v) (u := v) hdn hfree hφd (fun _ => rfl) (fun hh => absurd hH hh)))
                have hcv := avail_eval hinv hH hs.1.1.2
                have hexec : execOp (Act.eval ⟨t, []⟩) o = (do pure (.value (if ← asBool (Act.eval ⟨t, []⟩ (.tmp s)) then Act.eval ⟨t, []⟩ a else Act.eval ⟨t, []⟩ b)) : Sem Next) := by
                  unfold execOp; rw [hop]
                rw [hexec, hcv]
                generalize hx : rho ge (.tmp s) = vc at hp hcv
                cases vc <;> simp only [pickV] at hp <;> try (cases hp; done)
                rename_i x
                have hev : Act.eval ⟨t, []⟩ (.tmp s) = .bool x := hcv
                have hHs : Holds t ((s, x) :: φ) := fun p hp => by
                  rcases List.mem_cons.1 hp with rfl | hp
                  · exact hev
                  · exact hH p hp
                have hA : x = true → Act.eval ⟨t, []⟩ a = rho ge a := fun hxt => by subst hxt; exact avail_eval hinv hHs hs.1.2
                have hB : x = false → Act.eval ⟨t, []⟩ b = rho ge b := fun hxt => by subst hxt; exact avail_eval hinv hHs hs.2
                have goal : (if x then Act.eval ⟨t, []⟩ a else Act.eval ⟨t, []⟩ b) = v := by
                  split at hp
                  · rename_i a' b' 
                    cases hvb : rho ge b with
                    | bool y =>
                      rw [hvb] at hp
                      simp only [Option.some.injEq] at hp
                      subst hp
                      cases x with
                      | true => rfl
                      | false => simp only [Bool.false_eq_true, if_false, Bool.false_or]; rw [hB rfl, hvb]
                    | _ => rw [hvb] at hp; cases hp
                  · cases hva : rho ge a with
                    | bool y =>
                      rw [hva] at hp
                      simp only [Option.some.injEq] at hp
                      subst hp
                      cases x with
                      | true => simp only [if_true, Bool.true_and]; rw [hA rfl, hva]
                      | false => rfl
                    | _ => rw [hva] at hp; cases hp
                  · cases hp
                rw [← goal]
                rfl
              · have hw' : Region.wanted o (yielded ops t) = false := by
                  cases hb : Region.wanted o (yielded ops t) with
                  | true => exact absurd (hw.1 hb) hH
                  | false => rfl
                exact law.skip ho hd hw' (hn _ (hinv.put hdn hfree hφd (fun hh => absurd hh hH) (fun _ => rfl)))
        · cases h

theorem stepsP_sound {P : Program} {n : Nat} {ops : Array Oper} {X : Nat → Array Value → Prop} (law : StepLaw P ops X) : ∀ (ms : List Mode) (i : Nat) (ge ge' : GEnv),
    stepsP P n ops ms i ge = some ge' → RegX X n (i + ms.length) ge' → RegX X n i ge
  | [], i, ge, ge', h, hn => by simp only [stepsP, Option.some.injEq] at h; subst h; exact hn
  | m :: ms, i, ge, ge', h, hn => by
    simp only [stepsP] at h
    cases h1 : stepP P n ops m i ge with
    | none => rw [h1] at h; cases h
    | some g1 =>
      rw [h1] at h
      exact stepP_sound law h1 (stepsP_sound law ms (i + 1) g1 ge' h (by rw [List.length_cons] at hn; rwa [Nat.add_assoc, Nat.add_comm 1]))

theorem Inv.prune {n : Nat} {t : Array Value} {ge ge' : GEnv} (hinv : Inv n t ge) (h : ge'.map (fun p => gfind ge p.1) = ge'.map (fun p => some p.2)) : Inv n t ge' := by
  refine ⟨hinv.size, fun s φ v hg => ?_⟩
  have hmem : ∀ {g : GEnv} {s : Nat} {x : Gd × Value}, gfind g s = some x → (s, x) ∈ g := by
    intro g
    induction g with
    | nil => intro s x h; cases h
    | cons e g ih =>
      intro s x h
      obtain ⟨j, y⟩ := e
      simp only [gfind] at h
      cases hb : Nat.beq s j with
      | true =>
        rw [hb] at h
        have : s = j := Nat.eq_of_beq_eq_true hb
        subst this
        simp only [cond_true, Option.some.injEq] at h
        subst h
        exact List.mem_cons_self ..
      | false => rw [hb] at h; exact List.mem_cons_of_mem _ (ih h)
  have := List.map_inj_left.1 h _ (hmem hg)
  exact hinv.ok _ _ _ this

theorem regX_run {P : Program} {n : Nat} {ops : Array Oper} {X : Nat → Array Value → Prop} (law : StepLaw P ops X) {i : Nat} {ge : GEnv} (ms : List Mode) (j : Nat) (ge' : GEnv)
    (hj : i + ms.length = j) (h : (stepsP P n ops ms i ge).map (fun g => ge'.map (fun p => gfind g p.1)) = some (ge'.map (fun p => some p.2)))
    (hn : RegX X n j ge') : RegX X n i ge := by
  cases hs : stepsP P n ops ms i ge with
  | none => rw [hs] at h; cases h
  | some g =>
    rw [hs] at h
    simp only [Option.map_some, Option.some.injEq] at h
    subst hj
    exact stepsP_sound law ms i ge g hs fun t hinv => hn t (hinv.prune h)

/-- THE RULE: run operations i, i+1, .. by kernel, keep what is wanted. -/
theorem reg_run {P : Program} {n : Nat} {ops : Array Oper} {Q : Exit → Act → World → Prop} {i : Nat} {ge : GEnv} {w : World} (ms : List Mode) (j : Nat) (ge' : GEnv)
    (hj : i + ms.length = j) (h : (stepsP P n ops ms i ge).map (fun g => ge'.map (fun p => gfind g p.1)) = some (ge'.map (fun p => some p.2)))
    (hn : RegG P n ops Q j ge' w) : RegG P n ops Q i ge w := regX_run lawG ms j ge' hj h hn

/-- A Bool in a slot becomes known: entries under its guards lose them, or are nothing. -/
def resolve1 (s : Nat) (c : Bool) (j : Nat) (x : Gd × Value) : Gd × Value :=
  bif Nat.beq j s then ([], .bool c)
  else bif x.1.any (fun p => Nat.beq p.1 s && (p.2 != c)) then ([], undef)
  else (x.1.filter (fun p => !Nat.beq p.1 s), x.2)

def resolve (s : Nat) (c : Bool) (ge : GEnv) : GEnv := ge.map fun e => (e.1, resolve1 s c e.1 e.2)

theorem gfind_resolve (s : Nat) (c : Bool) : ∀ (ge : GEnv) (j : Nat), gfind (resolve s c ge) j = (gfind ge j).map (resolve1 s c j)
  | [], _ => rfl
  | (k, x) :: r, j => by
    simp only [resolve, List.map_cons, gfind]
    cases hb : Nat.beq j k with
    | true =>
      have : j = k := Nat.eq_of_beq_eq_true hb
      subst this
      rfl
    | false => exact gfind_resolve s c r j

theorem resolve_inv {n : Nat} {t : Array Value} {ge : GEnv} {s : Nat} {c : Bool} (hinv : Inv n t ge) (hs : t.getD s undef = .bool c) : Inv n t (resolve s c ge) := by
  refine ⟨hinv.size, fun j φ v h => ?_⟩
  rw [gfind_resolve] at h
  cases hg : gfind ge j with
  | none => rw [hg] at h; cases h
  | some x =>
    obtain ⟨φ0, v0⟩ := x
    rw [hg] at h
    simp only [Option.map_some, Option.some.injEq, resolve1] at h
    have h0 := hinv.ok j φ0 v0 hg
    cases h1 : Nat.beq j s with
    | true =>
      have : j = s := Nat.eq_of_beq_eq_true h1
      subst this
      rw [h1] at h
      simp only [cond_true, Prod.mk.injEq] at h
      obtain ⟨rfl, rfl⟩ := h
      exact ⟨fun _ => hs, fun hn => absurd (fun p hp => by cases hp) hn⟩
    | false =>
      rw [h1] at h
      simp only [cond_false] at h
      cases h2 : φ0.any (fun p => Nat.beq p.1 s && (p.2 != c)) with
      | true =>
        rw [h2] at h
        simp only [cond_true, Prod.mk.injEq] at h
        obtain ⟨rfl, rfl⟩ := h
        obtain ⟨p, hp, he⟩ := List.any_eq_true.1 h2
        simp only [Bool.and_eq_true, bne_iff_ne] at he
        have hps : p.1 = s := Nat.eq_of_beq_eq_true he.1
        have hnot : ¬ Holds t φ0 := fun hh => by
          have := hh p hp
          rw [hps, hs] at this
          simp only [Value.bool.injEq] at this
          exact he.2 this.symm
        exact ⟨fun _ => h0.2 hnot, fun hn => absurd (fun p hp => by cases hp) hn⟩
      | false =>
        rw [h2] at h
        simp only [cond_false, Prod.mk.injEq] at h
        obtain ⟨rfl, rfl⟩ := h
        have hiff : Holds t (φ0.filter (fun p => !Nat.beq p.1 s)) ↔ Holds t φ0 := by
          constructor
          · intro hh p hp
            cases hb : Nat.beq p.1 s with
            | false => exact hh p (List.mem_filter.2 ⟨hp, by simp [hb]⟩)
            | true =>
              have hps : p.1 = s := Nat.eq_of_beq_eq_true hb
              have hno : (Nat.beq p.1 s && (p.2 != c)) = false := by
                cases hx : (Nat.beq p.1 s && (p.2 != c)) with
                | false => rfl
                | true =>
                  have : φ0.any (fun p => Nat.beq p.1 s && (p.2 != c)) = true := List.any_eq_true.2 ⟨p, hp, hx⟩
                  rw [h2] at this; cases this
              rw [hb] at hno
              simp only [Bool.true_and, bne_eq_false_iff_eq] at hno
              rw [hps, hs, hno]
          · intro hh p hp
            exact hh p (List.mem_filter.1 hp).1
        rw [hiff]; exact h0

theorem regX_split {X : Nat → Array Value → Prop} {n i : Nat} {ge : GEnv} (s : Nat) (b : Bool)
    (hs : gfind ge s = some ([], .bool b)) (ht : b = true → RegX X n i (resolve s true ge)) (hf : b = false → RegX X n i (resolve s false ge)) : RegX X n i ge := by
  intro t hinv
  have hv := (hinv.ok s _ _ hs).1 (fun p hp => by cases hp)
  cases b with
  | true => exact ht rfl t (resolve_inv hinv hv)
  | false => exact hf rfl t (resolve_inv hinv hv)

/-- Part on a Bool in a slot. -/
theorem reg_split {P : Program} {n : Nat} {ops : Array Oper} {Q : Exit → Act → World → Prop} {i : Nat} {ge : GEnv} {w : World} (s : Nat) (b : Bool)
    (hs : gfind ge s = some ([], .bool b)) (ht : b = true → RegG P n ops Q i (resolve s true ge) w) (hf : b = false → RegG P n ops Q i (resolve s false ge) w) :
    RegG P n ops Q i ge w := regX_split (X := fun i t => wpOps P ops Q (List.range' i (ops.size - i)) ⟨t, []⟩ w) s b hs ht hf

/-! #### Operations that read or write memory, and calls -/
def ex (op : Op) (ty : TypeId) (ρ : Operand → Value) : Sem Next := execOp ρ ⟨none, op, ty, "", #[], none⟩

theorem ex_eq (ρ : Operand → Value) (o : Oper) : execOp ρ o = ex o.op o.type ρ := by
  obtain ⟨d, op, ty, p, a, g⟩ := o
  unfold ex execOp
  cases op <;> rfl

def opAt (n : Nat) (ops : Array Oper) (ge : GEnv) (i : Nat) : Option (Op × TypeId × Option Nat) :=
  match ops[i]? with
  | none => none
  | some o => bif gsure ops ge o true && notSelect o.op && o.op.operands.toList.all (avail ge []) && (match o.dst with
      | none => true
      | some d => Nat.blt d n && freeOf ge d) then some (o.op, o.type, o.dst) else none

def putG (dst : Option Nat) (v : Value) (ge : GEnv) : GEnv :=
  match dst with
  | some d => (d, [], v) :: ge
  | none => ge

def OpS (P : Program) (op : Op) (ty : TypeId) (ρ : Operand → Value) (w : World) (K : Value → World → Prop) : Prop :=
  match (ex op ty ρ).run P w with
  | .ok (.value v) w' => K v w'
  | .ok .skip w' => K undef w'
  | .ok (.enter f args) w' => Calls P f args w' (fun e w'' => ∃ v, e = .returned v ∧ K v w'')
  | _ => False

theorem reg_op {P : Program} {n : Nat} {ops : Array Oper} {Q : Exit → Act → World → Prop} {i : Nat} {ge : GEnv} {w : World} {op : Op} {ty : TypeId} {dst : Option Nat}
    (ho : opAt n ops ge i = some (op, ty, dst)) (h : OpS P op ty (rho ge) w (fun v w' => RegG P n ops Q (i + 1) (putG dst v ge) w')) : RegG P n ops Q i ge w := by
  intro t hinv
  unfold opAt at ho
  cases hoi : ops[i]? with
  | none => rw [hoi] at ho; cases ho
  | some o =>
    rw [hoi] at ho
    simp only at ho
    obtain ⟨hc, ho⟩ := bif_some ho
    simp only [Bool.and_eq_true] at hc
    obtain ⟨⟨⟨hg, hsel⟩, hav⟩, hdst⟩ := hc
    simp only [Option.some.injEq, Prod.mk.injEq] at ho
    obtain ⟨hop, hty, hds⟩ := ho
    have hH : Holds t [] := fun p hp => by cases hp
    have hexec := exec_rho hinv hH hsel hav
    have hw := gsure_wanted (ops := ops) hinv hg
    rw [range'_step (getElem?_lt hoi)]
    simp only [wpOps, hoi]
    rw [if_pos hw]
    refine .inl ?_
    unfold Oper.wp
    rw [hexec, ex_eq, hop, hty]
    have hput : ∀ v w', RegG P n ops Q (i + 1) (putG dst v ge) w' → wpOps P ops Q (List.range' (i + 1) (ops.size - (i + 1))) (Act.put ⟨t, []⟩ o.dst v) w' := by
      intro v w' hr
      rw [hds] at hdst ⊢
      cases dst with
      | none => exact hr t hinv
      | some d =>
        simp only [Bool.and_eq_true] at hdst
        exact hr _ (hinv.put (v := v) (u := v) hdst.1 hdst.2 (fun p hp => by cases hp) (fun _ => rfl) (fun hh => absurd hH hh))
    unfold OpS at h
    generalize (ex op ty (rho ge)).run P w = r at h ⊢
    cases r with
    | halt x w' => exact h.elim
    | ok nx w' =>
      cases nx with
      | value v => exact hput _ _ h
      | skip => exact hput _ _ h
      | enter f args =>
        refine Calls.mono h ?_
        rintro e w'' ⟨v, rfl, hr⟩
        exact hput _ _ hr
      | _ => exact h.elim

/-- An operation that the kernel runs by itself, the world a variable: new blocks, constants. -/
theorem reg_exec {P : Program} {n : Nat} {ops : Array Oper} {Q : Exit → Act → World → Prop} {i : Nat} {ge : GEnv} {w : World} {op : Op} {ty : TypeId} {dst : Option Nat}
    (v : Value) (w' : World) (ho : opAt n ops ge i = some (op, ty, dst)) (hr : (ex op ty (rho ge)).run P w = .ok (.value v) w')
    (h : RegG P n ops Q (i + 1) (putG dst v ge) w') : RegG P n ops Q i ge w :=
  reg_op ho (by unfold OpS; rw [hr]; exact h)

theorem reg_enter {P : Program} {n : Nat} {ops : Array Oper} {Q : Exit → Act → World → Prop} {i : Nat} {ge : GEnv} {w : World} {op : Op} {ty : TypeId} {dst : Option Nat}
    (f : FuncId) (args : Array Value) (ho : opAt n ops ge i = some (op, ty, dst)) (hr : ∀ ww, (ex op ty (rho ge)).run P ww = .ok (.enter f args) ww)
    (h : Calls P f args w (fun e w' => ∃ v, e = .returned v ∧ RegG P n ops Q (i + 1) (putG dst v ge) w')) : RegG P n ops Q i ge w :=
  reg_op ho (by unfold OpS; rw [hr]; exact h)

theorem reg_val {P : Program} {n : Nat} {ops : Array Oper} {Q : Exit → Act → World → Prop} {i : Nat} {ge : GEnv} {w : World} {op : Op} {ty : TypeId} {dst : Option Nat}
    (v : Value) (ho : opAt n ops ge i = some (op, ty, dst)) (hr : ∀ ww, (ex op ty (rho ge)).run P ww = .ok (.value v) ww)
    (h : RegG P n ops Q (i + 1) (putG dst v ge) w) : RegG P n ops Q i ge w :=
  reg_exec v w ho (hr w) h

/-- An operation that makes one new block. -/
theorem reg_new {P : Program} {n : Nat} {ops : Array Oper} {Q : Exit → Act → World → Prop} {i : Nat} {ge : GEnv} {w : World} {op : Op} {ty : TypeId} {dst : Option Nat}
    (f : Nat → Value) (o : Obj) (ho : opAt n ops ge i = some (op, ty, dst)) (hr : (ex op ty (rho ge)).run P w = .ok (.value (f w.heap.size)) { w with heap := w.heap.push o })
    (h : ∀ b w', b = w.heap.size → w' = w.alloc o → RegG P n ops Q (i + 1) (putG dst (f b) ge) w') : RegG P n ops Q i ge w :=
  reg_exec _ _ ho hr (h _ _ rfl rfl)

theorem reg_conv {P : Program} {n : Nat} {ops : Array Oper} {Q : Exit → Act → World → Prop} {i : Nat} {ge : GEnv} {w : World} (ge' : GEnv) (he : ge = ge')
    (h : RegG P n ops Q i ge' w) : RegG P n ops Q i ge w := he ▸ h


/-! #### Memory: what a program reads and writes -/
structure Slc where
  ptr : Option Addr
  len : Nat
  cap : Nat

def pblk (p : Option Addr) : Nat := (p.getD ⟨0, 0, none⟩).block
def poff (p : Option Addr) : Nat := (p.getD ⟨0, 0, none⟩).off
/-- It leads to a cell. -/
abbrev IsAt (p : Option Addr) : Prop := p = some ⟨pblk p, poff p, none⟩

def CellsAt (w : World) (b : Nat) : Nat → List Value → Prop
  | _, [] => True
  | o, v :: r => w.cell? ⟨b, o, none⟩ = some v ∧ CellsAt w b (o + 1) r

def Writable (w : World) (b o k : Nat) : Prop := ∀ i, i < k → (∃ v, w.cell? ⟨b, o + i, none⟩ = some v) ∧ w.frozen? ⟨b, o + i, none⟩ = false

def World.puts (b : Nat) : Nat → List Value → World → World
  | _, [], w => w
  | o, v :: r, w => World.puts b (o + 1) r (w.setCell ⟨b, o, none⟩ v)

def plain1 (P : Program) (t : TypeId) : Bool :=
  match P.underlying t with
  | some (.struct _) | some (.array ..) | none => false
  | _ => true

def aggT (P : Program) (t : TypeId) : Bool :=
  match P.underlying t with
  | some (.struct _) | some (.array ..) => true
  | _ => false

def sizeP (P : Program) (t : TypeId) : Option Nat := (P.info? t).map (·.size)

def oneCell : Value → Bool
  | .agg _ | .tuple _ => false
  | _ => true

def oneCells (vs : List Value) : Bool := vs.all oneCell

theorem run_underlying {P : Program} {t : TypeId} {d : TypeDesc} (h : P.underlying t = some d) (w : World) : (underlying t).run P w = .ok d w := by
  simp [underlying, program, Sem.run, bind, Sem.bind, h, pure]

theorem run_sizeOf {P : Program} {t : TypeId} {k : Nat} (h : sizeP P t = some k) (w : World) : (sizeOf t).run P w = .ok k w := by
  unfold sizeP at h
  cases hi : P.info? t with
  | none => rw [hi] at h; cases h
  | some i =>
    rw [hi] at h
    simp only [Option.map_some, Option.some.injEq] at h
    simp [sizeOf, typeInfo, program, Sem.run, bind, Sem.bind, hi, pure, h]

theorem run_isAgg_false {P : Program} {t : TypeId} (h : plain1 P t = true) (w : World) : (isAgg t).run P w = .ok false w := by
  unfold plain1 at h
  cases hu : P.underlying t with
  | none => rw [hu] at h; cases h
  | some d =>
    rw [hu] at h
    cases d <;> first | (cases h; done) | simp [isAgg, underlying, program, Sem.run, bind, Sem.bind, hu, pure]

theorem run_isAgg_true {P : Program} {t : TypeId} (h : aggT P t = true) (w : World) : (isAgg t).run P w = .ok true w := by
  unfold aggT at h
  cases hu : P.underlying t with
  | none => rw [hu] at h; cases h
  | some d =>
    rw [hu] at h
    cases d <;> first | (cases h; done) | simp [isAgg, underlying, program, Sem.run, bind, Sem.bind, hu, pure]

theorem run_map {P : Program} {α β : Type} (f : α → β) (s : Sem α) (w : World) : (Functor.map f s).run P w = match s.run P w with
      | .ok a w' => .ok (f a) w'
      | .halt h w' => .halt h w' := by
  show (s >>= fun a => pure (f a)).run P w = _
  rw [Sem.run_bind]
  cases s.run P w <;> rfl

theorem run_bind' {P : Program} {α β : Type} (s : Sem α) (f : α → Sem β) (w : World) :
    (s >>= f).run P w = match s.run P w with
      | .ok a w' => (f a).run P w'
      | .halt h w' => .halt h w' := by
  rw [Sem.run_bind]; rfl

theorem addr_add (b o k : Nat) : Addr.add ⟨b, o, none⟩ k = ⟨b, o + k, none⟩ := by
  unfold Addr.add
  split
  · rename_i h; subst h; rfl
  · rfl

theorem run_loadCellsFrom {P : Program} {w : World} {b o : Nat} : ∀ (vs : List Value) (i : Nat) (acc : Array Value), CellsAt w b (o + i) vs →
    (loadCellsFrom ⟨b, o, none⟩ i vs.length acc).run P w = .ok (acc ++ vs.toArray) w
  | [], i, acc, _ => by simp [loadCellsFrom, pure, Sem.run]
  | v :: vs, i, acc, h => by
    rw [List.length_cons, loadCellsFrom, run_bind']
    have h1 : (load (Addr.add ⟨b, o, none⟩ i)).run P w = .ok v w := by
      rw [addr_add]
      simp [load, Sem.run, h.1]
    rw [h1]
    simp only
    rw [run_loadCellsFrom vs (i + 1) _ (by have := h.2; rwa [Nat.add_assoc] at this)]
    simp

theorem run_loadCells {P : Program} {w : World} {b o : Nat} {vs : List Value} (h : CellsAt w b o vs) {k : Nat} (hk : vs.length = k) :
    (loadCells ⟨b, o, none⟩ k).run P w = .ok vs.toArray w := by
  subst hk
  unfold loadCells
  rw [run_loadCellsFrom vs 0 _ (by simpa using h)]
  simp

theorem cell?_setCell_ne {w : World} {b o o' : Nat} {v : Value} (h : o ≠ o') : (w.setCell ⟨b, o, none⟩ v).cell? ⟨b, o', none⟩ = w.cell? ⟨b, o', none⟩ := by
  unfold World.setCell World.cell?
  simp only [Array.getElem?_modify]
  simp only [if_true]
  cases w.heap[b]? with
  | none => rfl
  | some ob => cases ob <;> simp [Array.getElem?_setIfInBounds_ne h]

theorem frozen?_setCell {w : World} {b o : Nat} {v : Value} (a : Addr) : (w.setCell ⟨b, o, none⟩ v).frozen? a = w.frozen? a := by
  unfold World.setCell World.frozen?
  simp only [Array.getElem?_modify]
  by_cases hb : b = a.block
  · subst hb
    simp only [if_true]
    cases w.heap[a.block]? with
    | none => rfl
    | some ob => cases ob <;> rfl
  · rw [if_neg hb]

theorem Writable.tail {w : World} {b o k : Nat} {v : Value} (h : Writable w b o (k + 1)) : Writable (w.setCell ⟨b, o, none⟩ v) b (o + 1) k := by
  intro i hi
  have := h (i + 1) (by omega)
  rw [show o + (i + 1) = o + 1 + i from by omega] at this
  rw [cell?_setCell_ne (by omega), frozen?_setCell]
  exact this

theorem run_storeCells {P : Program} {b o : Nat} : ∀ (vs : List Value) (i : Nat) (w : World), Writable w b (o + i) vs.length → oneCells vs = true →
    (storeCells ⟨b, o, none⟩ vs i).run P w = .ok () (World.puts b (o + i) vs w)
  | [], i, w, _, _ => by simp [storeCells, pure, Sem.run, World.puts]
  | v :: vs, i, w, h, h1 => by
    simp only [oneCells, List.all_cons, Bool.and_eq_true] at h1
    rw [storeCells, run_bind', addr_add]
    have hw := h 0 (by simp)
    rw [Nat.add_zero] at hw
    obtain ⟨⟨u, hu⟩, hf⟩ := hw
    have hs : (store ⟨b, o + i, none⟩ v).run P w = .ok () (w.setCell ⟨b, o + i, none⟩ v) := by
      unfold store
      have hone := h1.1
      cases v <;> first | (cases hone; done) | simp [Sem.run, hu, hf]
    rw [hs]
    simp only [World.puts]
    have := run_storeCells (P := P) (b := b) (o := o) vs (i + 1) (w.setCell ⟨b, o + i, none⟩ v) (by rw [← Nat.add_assoc]; exact Writable.tail (by simpa using h)) h1.2
    rw [this, ← Nat.add_assoc]

section
variable {P : Program} {n : Nat} {ops : Array Oper} {Q : Exit → Act → World → Prop} {i : Nat} {ge : GEnv} {w : World} {ty : TypeId} {dst : Option Nat}

theorem run_load1 {t : TypeId} {a : Operand} {b o : Nat} {v : Value} (ha : rho ge a = .pointer (some ⟨b, o, none⟩))
    (ht : plain1 P t = true) (hc : w.cell? ⟨b, o, none⟩ = some v) : (ex (.load t a) ty (rho ge)).run P w = .ok (.value v) w := by
  unfold ex execOp Instr.loadAt
  simp only [ha]
  simp [run_bind', Instr.sureAddr, loadVar, run_isAgg_false ht, load, Sem.run, hc, pure]

theorem reg_load1 {t : TypeId} {a : Operand} {b o : Nat} {v : Value} (ho : opAt n ops ge i = some (.load t a, ty, dst)) (ha : rho ge a = .pointer (some ⟨b, o, none⟩))
    (ht : plain1 P t = true) (hc : w.cell? ⟨b, o, none⟩ = some v) (h : RegG P n ops Q (i + 1) (putG dst v ge) w) : RegG P n ops Q i ge w :=
  reg_op ho (by
    unfold OpS; rw [run_load1 ha ht hc]; exact h)

theorem run_loadN {t : TypeId} {a : Operand} {b o k : Nat} {vs : List Value} (ha : rho ge a = .pointer (some ⟨b, o, none⟩))
    (ht : aggT P t = true) (hs : sizeP P t = some k) (hk : vs.length = k) (hc : CellsAt w b o vs) : (ex (.load t a) ty (rho ge)).run P w = .ok (.value (.agg vs.toArray)) w := by
  subst hk
  unfold ex execOp Instr.loadAt
  simp only [ha]
  simp [run_bind', Instr.sureAddr, loadVar, run_isAgg_true ht, run_sizeOf hs, run_loadCells hc rfl, Sem.run, pure]

theorem reg_loadN {t : TypeId} {a : Operand} {b o k : Nat} (vs : List Value) (ho : opAt n ops ge i = some (.load t a, ty, dst)) (ha : rho ge a = .pointer (some ⟨b, o, none⟩))
    (ht : aggT P t = true) (hs : sizeP P t = some k) (hk : vs.length = k) (hc : CellsAt w b o vs) (h : RegG P n ops Q (i + 1) (putG dst (.agg vs.toArray) ge) w) : RegG P n ops Q i ge w :=
  reg_op ho (by
    unfold OpS; rw [run_loadN ha ht hs hk hc]; exact h)

theorem reg_store {t : TypeId} {a x : Operand} {b o k : Nat} (vs : List Value) (ho : opAt n ops ge i = some (.store t a x, ty, dst)) (ha : rho ge a = .pointer (some ⟨b, o, none⟩))
    (hx : (rho ge x).cells = vs.toArray) (hs : sizeP P t = some k) (hk : vs.length = k) (h1 : oneCells vs = true) (hw : Writable w b o k)
    (h : ∀ w', w' = World.puts b o vs w → RegG P n ops Q (i + 1) (putG dst undef ge) w') : RegG P n ops Q i ge w :=
  reg_op ho (by
    subst hk
    have hx : (rho ge x).cells.toList = vs := by rw [hx]
    replace h := h _ rfl
    have hr : (ex (.store t a x) ty (rho ge)).run P w = .ok .skip (World.puts b o vs w) := by
      unfold ex execOp Instr.storeAt
      simp only [ha]
      have hlen : (rho ge x).cells.size = vs.length := by rw [← hx]; simp
      simp only [run_bind', Instr.sureAddr, storeVar, run_sizeOf hs, Sem.run, pure, hlen, ne_eq, not_true_eq_false, if_false]
      rw [hx, run_storeCells vs 0 w (by simpa using hw) h1]
      simp
    unfold OpS; rw [hr]; exact h)

theorem run_indexS {t e : TypeId} {x ix : Operand} {b o l c sz : Nat} {k : IntKind} {j : Int}
    (hx : rho ge x = .slice (some ⟨b, o, none⟩) l c) (hi : rho ge ix = .int k j) (ht : P.underlying t = some (.slice e)) (hs : sizeP P e = some sz)
    (h0 : 0 ≤ j) (h1 : j < l) : (ex (.indexAddr t x ix) ty (rho ge)).run P w = .ok (.value (.pointer (some ⟨b, o + j.toNat * sz, none⟩))) w := by
  unfold ex execOp Instr.indexAt
  simp only [hx, hi]
  simp only [run_bind', asIntOf, run_underlying ht, Sem.run, pure]
  rw [if_pos ⟨h0, h1⟩]
  simp [run_bind', run_sizeOf hs, Sem.run, pure, addr_add]

theorem reg_indexS {t e : TypeId} {x ix : Operand} {b o l c sz : Nat} {k : IntKind} {j : Int} (ho : opAt n ops ge i = some (.indexAddr t x ix, ty, dst))
    (hx : rho ge x = .slice (some ⟨b, o, none⟩) l c) (hi : rho ge ix = .int k j) (ht : P.underlying t = some (.slice e)) (hs : sizeP P e = some sz)
    (h0 : 0 ≤ j) (h1 : j < l) (h : RegG P n ops Q (i + 1) (putG dst (.pointer (some ⟨b, o + j.toNat * sz, none⟩)) ge) w) : RegG P n ops Q i ge w :=
  reg_op ho (by
    unfold OpS; rw [run_indexS hx hi ht hs h0 h1]; exact h)

theorem reg_indexS1 {t e : TypeId} {x ix : Operand} {b o l c : Nat} {k : IntKind} {j : Int} (ho : opAt n ops ge i = some (.indexAddr t x ix, ty, dst))
    (hx : rho ge x = .slice (some ⟨b, o, none⟩) l c) (hi : rho ge ix = .int k j) (ht : P.underlying t = some (.slice e)) (hs : sizeP P e = some 1)
    (h0 : 0 ≤ j) (h1 : j < l) (h : RegG P n ops Q (i + 1) (putG dst (.pointer (some ⟨b, o + j.toNat, none⟩)) ge) w) : RegG P n ops Q i ge w :=
  reg_indexS ho hx hi ht hs h0 h1 (by simpa using h)

theorem run_indexA {t e : TypeId} {x ix : Operand} {b o len sz : Nat} {k : IntKind} {j : Int}
    (hx : rho ge x = .pointer (some ⟨b, o, none⟩)) (hi : rho ge ix = .int k j) (ht : P.underlying t = some (.array len e)) (hs : sizeP P e = some sz)
    (h0 : 0 ≤ j) (h1 : j < len) : (ex (.indexAddr t x ix) ty (rho ge)).run P w = .ok (.value (.pointer (some ⟨b, o + j.toNat * sz, none⟩))) w := by
  unfold ex execOp Instr.indexAt
  simp only [hx, hi]
  simp only [run_bind', asIntOf, run_underlying ht, Sem.run, pure, Instr.sureAddr]
  rw [if_pos ⟨h0, h1⟩]
  simp [run_bind', run_sizeOf hs, Sem.run, pure, addr_add]

theorem reg_indexA {t e : TypeId} {x ix : Operand} {b o len sz : Nat} {k : IntKind} {j : Int} (ho : opAt n ops ge i = some (.indexAddr t x ix, ty, dst))
    (hx : rho ge x = .pointer (some ⟨b, o, none⟩)) (hi : rho ge ix = .int k j) (ht : P.underlying t = some (.array len e)) (hs : sizeP P e = some sz)
    (h0 : 0 ≤ j) (h1 : j < len) (h : RegG P n ops Q (i + 1) (putG dst (.pointer (some ⟨b, o + j.toNat * sz, none⟩)) ge) w) : RegG P n ops Q i ge w :=
  reg_op ho (by
    unfold OpS; rw [run_indexA hx hi ht hs h0 h1]; exact h)

theorem reg_indexA1 {t e : TypeId} {x ix : Operand} {b o len : Nat} {k : IntKind} {j : Int} (ho : opAt n ops ge i = some (.indexAddr t x ix, ty, dst))
    (hx : rho ge x = .pointer (some ⟨b, o, none⟩)) (hi : rho ge ix = .int k j) (ht : P.underlying t = some (.array len e)) (hs : sizeP P e = some 1)
    (h0 : 0 ≤ j) (h1 : j < len) (h : RegG P n ops Q (i + 1) (putG dst (.pointer (some ⟨b, o + j.toNat, none⟩)) ge) w) : RegG P n ops Q i ge w :=
  reg_indexA ho hx hi ht hs h0 h1 (by simpa using h)

/-- Byte i of a string, as a number. -/
def byteAt (s : ByteArray) (i : Int) : Int := ((s.data.toList.getD i.toNat 0).toNat : Int)

theorem run_indexStr {t : TypeId} {x ix : Operand} {s : ByteArray} {k : IntKind} {j : Int}
    (hx : rho ge x = .string s) (hi : rho ge ix = .int k j) (ht : P.underlying t = some .string) (h0 : 0 ≤ j) (h1 : j < s.size) :
    (ex (.index t x ix) ty (rho ge)).run P w = .ok (.value (.int .u8 (byteAt s j))) w := by
  unfold ex execOp Instr.index
  simp only [hx, hi]
  have hlt : j.toNat < s.size := by omega
  have hget : (if 0 ≤ j then s[j.toNat]? else none) = some (s[j.toNat]'hlt) := by rw [if_pos h0]; exact getElem?_pos s _ hlt
  have hb : byteAt s j = ((s[j.toNat]'hlt).toNat : Int) := by
    unfold byteAt
    rw [List.getD_eq_getElem?_getD, List.getElem?_eq_getElem (by simpa using hlt)]
    rfl
  simp only [run_bind', asIntOf, run_underlying ht, Sem.run, pure, hget, hb]

theorem reg_indexStr {t : TypeId} {x ix : Operand} {s : ByteArray} {k : IntKind} {j : Int} (ho : opAt n ops ge i = some (.index t x ix, ty, dst))
    (hx : rho ge x = .string s) (hi : rho ge ix = .int k j) (ht : P.underlying t = some .string) (h0 : 0 ≤ j) (h1 : j < s.size)
    (h : RegG P n ops Q (i + 1) (putG dst (.int .u8 (byteAt s j)) ge) w) : RegG P n ops Q i ge w :=
  reg_op ho (by unfold OpS; rw [run_indexStr hx hi ht h0 h1]; exact h)

/-- s[:h] -/
theorem reg_sliceHi {t e : TypeId} {x hi : Operand} {p : Option Addr} {l c sz : Nat} {k : IntKind} {j : Int} (ho : opAt n ops ge i = some (.slice t x none (some hi) none, ty, dst))
    (hx : rho ge x = .slice p l c) (hh : rho ge hi = .int k j) (ht : P.underlying t = some (.slice e)) (hs : sizeP P e = some sz)
    (h0 : 0 ≤ j) (h1 : j ≤ c) (h : RegG P n ops Q (i + 1) (putG dst (.slice p j.toNat c) ge) w) : RegG P n ops Q i ge w :=
  reg_op ho (by
    have hr : (ex (.slice t x none (some hi) none) ty (rho ge)).run P w = .ok (.value (.slice p j.toNat c)) w := by
      unfold ex execOp Instr.sliceAt
      simp only [hx, Option.map_none, Option.map_some]
      simp only [run_bind', run_underlying ht, Sem.run, pure, Instr.slice, Instr.sliceBounds, Instr.sliceBound, hh, asIntOf]
      rw [if_pos ⟨h0, h1⟩]
      simp only [run_bind', Sem.run, pure, run_sizeOf hs, Nat.zero_mul, Nat.sub_zero]
      have hadd : p.map (fun a => a.add 0) = p := by cases p <;> simp [Addr.add]
      split <;> simp_all
    unfold OpS; rw [hr]; exact h)

end

/-! ### What a call hands back -/
def ResAt (P : Program) (l : Env) (w : World) : List ResultVar → List Value → Prop
  | [], [] => True
  | .tmp s :: r, v :: vs => efind l s = some v ∧ ResAt P l w r vs
  | .cell a t :: r, v :: vs => ∃ b o cs, efind l a = some (.pointer (some ⟨b, o, none⟩)) ∧ CellsAt w b o cs ∧ sizeP P t = some cs.length ∧
      ((aggT P t = true ∧ v = .agg cs.toArray) ∨ (plain1 P t = true ∧ cs = [v])) ∧ ResAt P l w r vs
  | _, _ => False

theorem sizeP_of {P : Program} {t : TypeId} {k : Nat} {cs : List Value} (h : sizeP P t = some k) (hk : cs.length = k) : sizeP P t = some cs.length := by rw [hk]; exact h

def resVar (t : Array Value) : ResultVar → Sem Value
  | .tmp s => pure (t.getD s undef)
  | .cell a ty => do loadVar ty (← asAddr (t.getD a undef))

theorem run_resAt {P : Program} {l : Env} {w : World} {n : Nat} {t : Array Value} (ha : Agrees n t l) : ∀ (rs : List ResultVar) (vs : List Value), ResAt P l w rs vs →
    (rs.mapM (resVar t)).run P w = .ok vs w
  | [], [], _ => by simp [pure, Sem.run]
  | [], _ :: _, h => h.elim
  | .tmp s :: r, [], h => h.elim
  | .cell a ty :: r, [], h => h.elim
  | .tmp s :: r, v :: vs, h => by
    have h1 : t.getD s undef = v := ha.2 (s, v) (efind_mem h.1)
    have hv : (resVar t (.tmp s)).run P w = .ok v w := by simp only [resVar, h1]; rfl
    rw [List.mapM_cons, run_bind', hv]
    simp only
    rw [run_bind', run_resAt ha r vs h.2]
    rfl
  | .cell a ty :: r, v :: vs, h => by
    obtain ⟨b, o, cs, h1, h2, h3, h4, h5⟩ := h
    have h1 : t.getD a undef = .pointer (some ⟨b, o, none⟩) := ha.2 (a, _) (efind_mem h1)
    have hl : (loadVar ty ⟨b, o, none⟩).run P w = .ok v w := by
      unfold loadVar
      rcases h4 with ⟨ht, rfl⟩ | ⟨ht, rfl⟩
      · simp [run_bind', run_isAgg_true ht, run_sizeOf h3, run_loadCells h2 rfl, pure, Sem.run]
      · rw [run_bind', run_isAgg_false ht]
        simp [load, Sem.run, h2.1]
    have hv : (resVar t (.cell a ty)).run P w = .ok v w := by
      simp only [resVar, h1, run_bind', asAddr, pure, Sem.run, hl]
    rw [List.mapM_cons, run_bind', hv]
    simp only
    rw [run_bind', run_resAt ha r vs h5]
    rfl

theorem run_results {P : Program} {l : Env} {w : World} {n : Nat} {t : Array Value} {fn : Func} {vs : List Value} (ha : Agrees n t l) (h : ResAt P l w fn.results.toList vs) :
    (results fn t).run P w = .ok (if h : vs.toArray.size = 1 then vs.toArray[0] else .tuple vs.toArray) w := by
  have e : results fn t = (fn.results.mapM (resVar t) >>= fun vs => pure (if h : vs.size = 1 then vs[0] else .tuple vs)) := rfl
  rw [e, run_bind', ← Array.toArray_toList (xs := fn.results), List.mapM_toArray, run_map, run_resAt ha fn.results.toList vs h]
  rfl

theorem retS {P : Program} {fn : Func} {R : Value → World → Prop} {l : Env} {w : World} {rs : List ResultVar} {v : Value} (hr : fn.results.toList = rs) (h : ResAt P l w rs [v])
    (hR : R v w) : retQ P fn R .ret l w := by
  intro t ⟨n, ha⟩
  subst hr
  exact ⟨v, run_results ha h, hR⟩

theorem retT {P : Program} {fn : Func} {R : Value → World → Prop} {l : Env} {w : World} {rs : List ResultVar} {vs : List Value} (hr : fn.results.toList = rs) (h : ResAt P l w rs vs)
    (h1 : Nat.beq vs.length 1 = false) (hR : R (.tuple vs.toArray) w) : retQ P fn R .ret l w := by
  intro t ⟨n, ha⟩
  subst hr
  refine ⟨.tuple vs.toArray, ?_, hR⟩
  rw [run_results ha h, dif_neg]
  intro hh
  have : vs.length = 1 := by simpa using hh
  rw [this] at h1
  cases h1

/-! ### A region that draws its order, and only reads: the walk in the text's order serves every order -/
def RegQ (P : Program) (n : Nat) (ops : Array Oper) (Q : Act → Prop) (i : Nat) (ge : GEnv) (w : World) : Prop :=
  ∀ t, Inv n t ge → wpQuiet P ops (fun w' => ∃ k, w' = w.drewN k) Q (ops.toList.drop i) ⟨t, []⟩

theorem drop_step {ops : Array Oper} {i : Nat} {o : Oper} (h : ops[i]? = some o) : ops.toList.drop i = o :: ops.toList.drop (i + 1) := by
  have hlt := getElem?_lt h
  have : ops.toList[i]'(by simpa using hlt) = o := by
    have := Array.getElem?_eq_getElem hlt
    rw [h] at this
    simpa using this.symm
  rw [List.drop_eq_getElem_cons (by simpa using hlt), this]

theorem lawQ {P : Program} {ops : Array Oper} {C : World → Prop} {Q : Act → Prop} :
    StepLaw P ops (fun i t => wpQuiet P ops C Q (ops.toList.drop i) ⟨t, []⟩) := by
  constructor
  · intro i d o t v ho hd hw hr h
    show wpQuiet P ops C Q (ops.toList.drop i) ⟨t, []⟩
    rw [drop_step ho]
    unfold wpQuiet
    rw [if_pos hw]
    refine ⟨v, fun w _ => ?_, ?_⟩
    · unfold Oper.quietAt; rw [hr w]; exact ⟨rfl, rfl⟩
    · rw [hd]; exact h
  · intro i d o t ho hd hw h
    show wpQuiet P ops C Q (ops.toList.drop i) ⟨t, []⟩
    rw [drop_step ho]
    unfold wpQuiet
    rw [hw, if_neg (by decide), hd]
    exact h

theorem wpE_drawregion {P : Program} {n id : Nat} {c : Code} {ops : Array Oper} {Q : Exit → Env → World → Prop} {l : Env} {w : World} (hc : c = .region id ops true)
    (hm : P.follows .mixedOrders = true) (hB : Region.lexB .any ops = true)
    (h : RegQ P n ops (fun a => ∀ w', (∃ k, w' = w.drewN k) → EPost n Q .normal a w') 0 (toG l) w) : WpE P n c Q l w := by
  subst hc
  intro t ha
  refine wp_region_quiet (C := fun w' => ∃ k, w' = w.drewN k) hm hB ⟨1, rfl⟩ ?_
  exact h t ha.inv

theorem qreg_run {P : Program} {n : Nat} {ops : Array Oper} {Q : Act → Prop} {i : Nat} {ge : GEnv} {w : World} (ms : List Mode) (j : Nat) (ge' : GEnv)
    (hj : i + ms.length = j) (h : (stepsP P n ops ms i ge).map (fun g => ge'.map (fun p => gfind g p.1)) = some (ge'.map (fun p => some p.2)))
    (hn : RegQ P n ops Q j ge' w) : RegQ P n ops Q i ge w := regX_run lawQ ms j ge' hj h hn

theorem qreg_split {P : Program} {n : Nat} {ops : Array Oper} {Q : Act → Prop} {i : Nat} {ge : GEnv} {w : World} (s : Nat) (b : Bool)
    (hs : gfind ge s = some ([], .bool b)) (ht : b = true → RegQ P n ops Q i (resolve s true ge) w) (hf : b = false → RegQ P n ops Q i (resolve s false ge) w) :
    RegQ P n ops Q i ge w := regX_split (X := fun i t => wpQuiet P ops (fun w' => ∃ k, w' = w.drewN k) Q (ops.toList.drop i) ⟨t, []⟩) s b hs ht hf

theorem qreg_conv {P : Program} {n : Nat} {ops : Array Oper} {Q : Act → Prop} {i : Nat} {ge : GEnv} {w : World} (ge' : GEnv) (he : ge = ge')
    (h : RegQ P n ops Q i ge' w) : RegQ P n ops Q i ge w := he ▸ h

theorem qreg_end {P : Program} {n i : Nat} {ops : Array Oper} {Q : Exit → Env → World → Prop} {ge : GEnv} {w : World} (l : Env) (hi : ops.size = i)
    (hl : l.map (fun p => gfind ge p.1) = l.map (fun p => some ([], p.2))) (h : ∀ w', (∃ k, w' = w.drewN k) → Q .normal l w') :
    RegQ P n ops (fun a => ∀ w', (∃ k, w' = w.drewN k) → EPost n Q .normal a w') i ge w := by
  intro t hinv
  subst hi
  rw [List.drop_of_length_le (by simp)]
  intro w' hw'
  refine EPost.mk ⟨hinv.size, fun p hp => ?_⟩ (h w' hw')
  have := List.map_inj_left.1 hl p hp
  exact (hinv.ok _ _ _ this).1 (fun p hp => by cases hp)

/-- An operation that reads: its run in every world of the class. -/
theorem qreg_op {P : Program} {n : Nat} {ops : Array Oper} {Q : Act → Prop} {i : Nat} {ge : GEnv} {w : World} {op : Op} {ty : TypeId} {dst : Option Nat} (v : Value)
    (ho : opAt n ops ge i = some (op, ty, dst)) (hr : ∀ k, (ex op ty (rho ge)).run P (w.drewN k) = .ok (.value v) (w.drewN k))
    (h : RegQ P n ops Q (i + 1) (putG dst v ge) w) : RegQ P n ops Q i ge w := by
  intro t hinv
  unfold opAt at ho
  cases hoi : ops[i]? with
  | none => rw [hoi] at ho; cases ho
  | some o =>
    rw [hoi] at ho
    simp only at ho
    obtain ⟨hc, ho⟩ := bif_some ho
    simp only [Bool.and_eq_true] at hc
    obtain ⟨⟨⟨hg, hsel⟩, hav⟩, hdst⟩ := hc
    simp only [Option.some.injEq, Prod.mk.injEq] at ho
    obtain ⟨hop, hty, hds⟩ := ho
    have hH : Holds t [] := fun p hp => by cases hp
    have hexec := exec_rho hinv hH hsel hav
    have hw := gsure_wanted (ops := ops) hinv hg
    rw [drop_step hoi]
    unfold wpQuiet
    rw [if_pos hw]
    refine ⟨v, ?_, ?_⟩
    · rintro _ ⟨k, rfl⟩
      unfold Oper.quietAt
      rw [hexec, ex_eq, hop, hty, hr k]
      exact ⟨rfl, rfl⟩
    · rw [hds] at hdst ⊢
      cases dst with
      | none => exact h t hinv
      | some d =>
        simp only [Bool.and_eq_true] at hdst
        exact h _ (hinv.put (v := v) (u := v) hdst.1 hdst.2 (fun p hp => by cases hp) (fun _ => rfl) (fun hh => absurd hH hh))

section
variable {P : Program} {n : Nat} {ops : Array Oper} {Q : Act → Prop} {i : Nat} {ge : GEnv} {w : World} {ty : TypeId} {dst : Option Nat}

theorem qreg_val {op : Op} (v : Value) (ho : opAt n ops ge i = some (op, ty, dst)) (hr : ∀ ww, (ex op ty (rho ge)).run P ww = .ok (.value v) ww)
    (h : RegQ P n ops Q (i + 1) (putG dst v ge) w) : RegQ P n ops Q i ge w := qreg_op v ho (fun k => hr _) h

theorem qreg_load1 {t : TypeId} {a : Operand} {b o : Nat} {v : Value} (ho : opAt n ops ge i = some (.load t a, ty, dst)) (ha : rho ge a = .pointer (some ⟨b, o, none⟩))
    (ht : plain1 P t = true) (hc : w.cell? ⟨b, o, none⟩ = some v) (h : RegQ P n ops Q (i + 1) (putG dst v ge) w) : RegQ P n ops Q i ge w :=
  qreg_op v ho (fun k => run_load1 ha ht (by simpa using hc)) h

theorem CellsAt.drewN {w : World} {b k : Nat} : ∀ {vs : List Value} {o : Nat}, CellsAt w b o vs → CellsAt (w.drewN k) b o vs
  | [], _, _ => trivial
  | _ :: _, _, h => ⟨h.1, CellsAt.drewN h.2⟩

theorem qreg_loadN {t : TypeId} {a : Operand} {b o k : Nat} (vs : List Value) (ho : opAt n ops ge i = some (.load t a, ty, dst)) (ha : rho ge a = .pointer (some ⟨b, o, none⟩))
    (ht : aggT P t = true) (hs : sizeP P t = some k) (hk : vs.length = k) (hc : CellsAt w b o vs) (h : RegQ P n ops Q (i + 1) (putG dst (.agg vs.toArray) ge) w) : RegQ P n ops Q i ge w :=
  qreg_op _ ho (fun _ => run_loadN ha ht hs hk hc.drewN) h

theorem qreg_indexS {t e : TypeId} {x ix : Operand} {b o l c sz : Nat} {k : IntKind} {j : Int} (ho : opAt n ops ge i = some (.indexAddr t x ix, ty, dst))
    (hx : rho ge x = .slice (some ⟨b, o, none⟩) l c) (hi : rho ge ix = .int k j) (ht : P.underlying t = some (.slice e)) (hs : sizeP P e = some sz)
    (h0 : 0 ≤ j) (h1 : j < l) (h : RegQ P n ops Q (i + 1) (putG dst (.pointer (some ⟨b, o + j.toNat * sz, none⟩)) ge) w) : RegQ P n ops Q i ge w :=
  qreg_op _ ho (fun _ => run_indexS hx hi ht hs h0 h1) h

theorem qreg_indexS1 {t e : TypeId} {x ix : Operand} {b o l c : Nat} {k : IntKind} {j : Int} (ho : opAt n ops ge i = some (.indexAddr t x ix, ty, dst))
    (hx : rho ge x = .slice (some ⟨b, o, none⟩) l c) (hi : rho ge ix = .int k j) (ht : P.underlying t = some (.slice e)) (hs : sizeP P e = some 1)
    (h0 : 0 ≤ j) (h1 : j < l) (h : RegQ P n ops Q (i + 1) (putG dst (.pointer (some ⟨b, o + j.toNat, none⟩)) ge) w) : RegQ P n ops Q i ge w :=
  qreg_indexS ho hx hi ht hs h0 h1 (by simpa using h)

theorem qreg_indexA {t e : TypeId} {x ix : Operand} {b o len sz : Nat} {k : IntKind} {j : Int} (ho : opAt n ops ge i = some (.indexAddr t x ix, ty, dst))
    (hx : rho ge x = .pointer (some ⟨b, o, none⟩)) (hi : rho ge ix = .int k j) (ht : P.underlying t = some (.array len e)) (hs : sizeP P e = some sz)
    (h0 : 0 ≤ j) (h1 : j < len) (h : RegQ P n ops Q (i + 1) (putG dst (.pointer (some ⟨b, o + j.toNat * sz, none⟩)) ge) w) : RegQ P n ops Q i ge w :=
  qreg_op _ ho (fun _ => run_indexA hx hi ht hs h0 h1) h

theorem qreg_indexA1 {t e : TypeId} {x ix : Operand} {b o len : Nat} {k : IntKind} {j : Int} (ho : opAt n ops ge i = some (.indexAddr t x ix, ty, dst))
    (hx : rho ge x = .pointer (some ⟨b, o, none⟩)) (hi : rho ge ix = .int k j) (ht : P.underlying t = some (.array len e)) (hs : sizeP P e = some 1)
    (h0 : 0 ≤ j) (h1 : j < len) (h : RegQ P n ops Q (i + 1) (putG dst (.pointer (some ⟨b, o + j.toNat, none⟩)) ge) w) : RegQ P n ops Q i ge w :=
  qreg_indexA ho hx hi ht hs h0 h1 (by simpa using h)

theorem qreg_indexStr {t : TypeId} {x ix : Operand} {s : ByteArray} {k : IntKind} {j : Int} (ho : opAt n ops ge i = some (.index t x ix, ty, dst))
    (hx : rho ge x = .string s) (hi : rho ge ix = .int k j) (ht : P.underlying t = some .string) (h0 : 0 ≤ j) (h1 : j < s.size)
    (h : RegQ P n ops Q (i + 1) (putG dst (.int .u8 (byteAt s j)) ge) w) : RegQ P n ops Q i ge w :=
  qreg_op _ ho (fun _ => run_indexStr hx hi ht h0 h1) h
end

/-! ### Single operations -/
section
variable {P : Program} {ge : GEnv} {ty xt yt : TypeId} {x y : Operand}

theorem run_shl {k k' : IntKind} {a b : Int} {m : Nat} (hx : rho ge x = .int k a) (hy : rho ge y = .int k' b) (hk : k.bits = m) (h0 : 0 ≤ b) (w : World) :
    (ex (.binOp .shl xt x y yt) ty (rho ge)).run P w = .ok (.value (.int k (k.wrap (a * 2 ^ (min b.toNat m))))) w := by
  subst hk
  unfold ex execOp
  simp only [hx, hy]
  simp only [run_bind', eqGuard, binOp, Op.shift]
  have hb : ¬ b < 0 := by omega
  simp [Sem.run, pure, hb]

theorem run_shr {k k' : IntKind} {a b : Int} {m : Nat} (hx : rho ge x = .int k a) (hy : rho ge y = .int k' b) (hk : k.bits = m) (h0 : 0 ≤ b) (w : World) :
    (ex (.binOp .shr xt x y yt) ty (rho ge)).run P w = .ok (.value (.int k (Int.fdiv a (2 ^ (min b.toNat m))))) w := by
  subst hk
  unfold ex execOp
  simp only [hx, hy]
  simp only [run_bind', eqGuard, binOp, Op.shift]
  have hb : ¬ b < 0 := by omega
  simp [Sem.run, pure, hb]

theorem run_quo {k : IntKind} {a b : Int} (hx : rho ge x = .int k a) (hy : rho ge y = .int k b) (h0 : b ≠ 0) (w : World) :
    (ex (.binOp .quo xt x y yt) ty (rho ge)).run P w = .ok (.value (.int k (k.wrap (Int.tdiv a b)))) w := by
  unfold ex execOp
  simp only [hx, hy]
  simp only [run_bind', eqGuard, binOp, Op.intDiv]
  simp [Sem.run, pure, h0]

theorem run_rem {k : IntKind} {a b : Int} (hx : rho ge x = .int k a) (hy : rho ge y = .int k b) (h0 : b ≠ 0) (w : World) :
    (ex (.binOp .rem xt x y yt) ty (rho ge)).run P w = .ok (.value (.int k (Int.tmod a b))) w := by
  unfold ex execOp
  simp only [hx, hy]
  simp only [run_bind', eqGuard, binOp, Op.intDiv]
  simp [Sem.run, pure, h0]

theorem run_stradd {a b : ByteArray} (hx : rho ge x = .string a) (hy : rho ge y = .string b) (h0 : ((a.size + b.size : Nat) : Int) ≤ 9223372036854775807) (w : World) :
    (ex (.binOp .add xt x y yt) ty (rho ge)).run P w = .ok (.value (.string (a ++ b))) w := by
  unfold ex execOp
  simp only [hx, hy]
  simp only [run_bind', eqGuard, binOp, Op.stringOp]
  have hm : IntKind.i64.max = 9223372036854775807 := by decide
  have hb : ¬ ((a.size + b.size : Nat) : Int) > IntKind.i64.max := by omega
  rw [if_neg hb]
  simp [Sem.run, pure]
end

/-! ### What came in -/
/-- What is said of a datum's sizes: each string, slice and map in it is within the form's reach. -/
def Light {H : Type} (P : Program) (t : TypeId) (d : DataW H) : Prop := ∀ n ∈ d.weights P t, n ≤ reachBytes

theorem light_arg {H : Type} {P : Program} {ts : List TypeId} {ds : List (DataW H)} (h : (DataW.weightsEach P ts ds).all (· ≤ reachBytes) = true) {j : Nat} {t : TypeId} {d : DataW H}
    (ht : ts[j]? = some t) (hd : ds[j]? = some d) : Light P t d := fun n hn => by
  have := List.all_eq_true.1 h n (DataW.weights_mem_each ht hd n hn)
  simpa using this

theorem light_field {H : Type} {P : Program} {t : TypeId} {fs : Array Field} {xs : List (DataW H × List MemPlace)} (hs : P.underlying t = some (.struct fs)) (h : Light P t (.agg (xs.map (·.1)))) {i : Nat} {f : Field} {y : DataW H × List MemPlace}
    (hf : fs[i]? = some f) (hy : xs[i]? = some y) : Light P f.type y.1 := fun n hn => by
  refine h n ?_
  simp only [DataW.weights, hs]
  refine DataW.weights_mem_each (ts := fs.toList.map (·.type)) (j := i) (t := f.type) (d := y.1) ?_ ?_ n hn
  · rw [List.getElem?_map, Array.getElem?_toList, hf]; rfl
  · rw [List.getElem?_map, hy]; rfl

theorem weightsAll_mem {H : Type} {P : Program} {e : TypeId} : ∀ {l : List (DataW H)} {d : DataW H}, d ∈ l → ∀ n ∈ d.weights P e, n ∈ DataW.weightsAll P e l
  | x :: l, d, hd, n, hn => by
    simp only [DataW.weightsAll, List.mem_append]
    rcases List.mem_cons.1 hd with rfl | hd
    · exact .inl hn
    · exact .inr (weightsAll_mem hd n hn)

/-- A slice that came in: nil; or each element up to the capacity lies there; and it is within the form's reach. -/
def OkSl (w : World) (s : Slc) (sz by_ : Nat) (E : List Value → Prop) : Prop :=
  (s.ptr = none ∧ s.len = 0 ∧ s.cap = 0) ∨
  (s.len ≤ s.cap ∧ s.cap ≤ 9223372036854775807 ∧ s.cap * by_ ≤ 140737488351232 ∧ ∃ a, s.ptr = some a ∧ ∀ i, i < s.cap → ∃ es, w.cells? 0 (a.add (i * sz)) sz = some es ∧ E es)

theorem ok_slice {H : Type} {enc : TypeId × Value → H} {P : Program} {w : World} {fuel : Nat} {t e : TypeId} {cs : List Value} {y : DataW H × List MemPlace} {sz by_ : Nat} {E : List Value → Prop}
    (ht : P.underlying t = some (.slice e)) (hs : P.cellsOf e = sz) (hb : P.bytesOf e = by_) (h : DataW.trod enc P w 0 (fun _ => true) true fuel t cs = some y) (hl : Light P t y.1)
    (hE : ∀ (n : Nat) (es : List Value) (z : DataW H × List MemPlace), DataW.trod enc P w 0 (fun _ => true) true n e es = some z → Light P e z.1 → E es) :
    ∃ s : Slc, cs = [.slice s.ptr s.len s.cap] ∧ OkSl w s sz by_ E := by
  subst hs
  subst hb
  rcases DataW.trod_slice ht h with ⟨rfl, _⟩ | ⟨a, len, cap, elems, rest, n, _, rfl, hy, _, hlc, hm, hlen, hel, hsp, _⟩
  · exact ⟨⟨none, 0, 0⟩, rfl, .inl ⟨rfl, rfl, rfl⟩⟩
  · obtain ⟨hr, hj⟩ := hsp rfl
    subst hy
    have hwt : (elems.length + rest.length) * P.bytesOf e ≤ reachBytes := by
      have := hl ((elems.length + rest.length) * P.bytesOf e) (by simp [DataW.weights, ht])
      exact this
    have hall : ∀ z ∈ elems ++ rest, Light P e z.1 := by
      intro z hz k hk
      refine hl k ?_
      simp only [DataW.weights, ht, List.mem_cons, List.mem_append]
      rcases List.mem_append.1 hz with hz | hz
      · exact .inr (.inl (weightsAll_mem (List.mem_map.2 ⟨z, hz, rfl⟩) k hk))
      · exact .inr (.inr (weightsAll_mem (List.mem_map.2 ⟨z, hz, rfl⟩) k hk))
    refine ⟨⟨some a, len, cap⟩, rfl, .inr ⟨hlc, hm, ?_, a, rfl, fun i hi => ?_⟩⟩
    · have : elems.length + rest.length = cap := by omega
      rw [this] at hwt
      exact hwt
    have key : ∀ {o : Option (DataW H × List MemPlace)}, (w.cells? 0 (a.add (i * P.cellsOf e)) (P.cellsOf e)).bind (DataW.trod enc P w 0 (fun _ => true) true n e) = o → (∃ z, o = some z ∧ Light P e z.1) →
        ∃ es, w.cells? 0 (a.add (i * P.cellsOf e)) (P.cellsOf e) = some es ∧ E es := by
      intro o ho hs
      subst ho
      cases hc : w.cells? 0 (a.add (i * P.cellsOf e)) (P.cellsOf e) with
      | none => rw [hc] at hs; obtain ⟨z, hz, _⟩ := hs; cases hz
      | some es =>
        rw [hc] at hs
        simp only [Option.bind_some] at hs
        obtain ⟨z, hz, hlz⟩ := hs
        exact ⟨es, rfl, hE n es z hz hlz⟩
    rcases Nat.lt_or_ge i len with hlt | hge
    · refine key (hel i hlt) ⟨elems[i]'(by omega), List.getElem?_eq_getElem (by omega), hall _ (List.mem_append_left _ (List.getElem_mem _))⟩
    · have := hj (i - len) (by simp only [Slc.cap] at hi; omega)
      rw [show len + (i - len) = i from by omega] at this
      refine key this ⟨rest[i - len]'(by simp only [Slc.cap] at hi; omega), List.getElem?_eq_getElem (by simp only [Slc.cap] at hi; omega), hall _ (List.mem_append_right _ (List.getElem_mem _))⟩

theorem wf_bounds {k : IntKind} {n : Int} (h : (Lit.int k n).wf = true) : (match k with
    | .i8 => -128 ≤ n ∧ n ≤ 127 | .i16 => -32768 ≤ n ∧ n ≤ 32767 | .i32 => -2147483648 ≤ n ∧ n ≤ 2147483647 | .i64 => -9223372036854775808 ≤ n ∧ n ≤ 9223372036854775807
    | .u8 => 0 ≤ n ∧ n ≤ 255 | .u16 => 0 ≤ n ∧ n ≤ 65535 | .u32 => 0 ≤ n ∧ n ≤ 4294967295 | .u64 => 0 ≤ n ∧ n ≤ 18446744073709551615) := by
  cases k <;> simp [Lit.wf, IntKind.min, IntKind.max, IntKind.bits, IntKind.signed] at h ⊢ <;> omega

/-! ### Slices: making, cutting, appending, copying -/
def repCells (k : Nat) (zs : List Value) : Array Value := (List.replicate k zs).flatten.toArray

theorem repCells_eq (zs : List Value) (k : Nat) : ((Array.range (k * zs.length)).map (fun i => zs.toArray[i % zs.toArray.size]!)) = repCells k zs := by
  apply Array.ext'
  simp only [Array.toList_map, Array.toList_range, repCells]
  induction k with
  | zero => simp
  | succ k ih =>
    rw [List.replicate_succ', List.flatten_append, ← ih, Nat.add_mul, Nat.one_mul, List.range_add, List.map_append]
    congr 1
    simp only [List.map_map, List.flatten_cons, List.flatten_nil, List.append_nil]
    apply List.ext_getElem
    · simp
    · intro i h1 h2
      simp only [List.length_map, List.length_range] at h1
      simp only [List.getElem_map, List.getElem_range, Function.comp, List.size_toArray]
      rw [Nat.add_comm, Nat.add_mul_mod_self_right, Nat.mod_eq_of_lt h1]
      simp [h1]

def zeroP (P : Program) (t : TypeId) : Option (List Value) := ((P.info? t).bind (·.zero)).map (·.cells.toList)
def bytesP (P : Program) (t : TypeId) : Option Nat := (P.info? t).map (·.bytes)

theorem run_zeroValue {P : Program} {t : TypeId} {zs : List Value} (h : zeroP P t = some zs) (w : World) : ∃ v, (zeroValue t).run P w = .ok v w ∧ v.cells = zs.toArray := by
  unfold zeroP at h
  cases hi : P.info? t with
  | none => rw [hi] at h; cases h
  | some i =>
    rw [hi] at h
    simp only [Option.bind_some] at h
    cases hz : i.zero with
    | none => rw [hz] at h; cases h
    | some v =>
      rw [hz] at h
      simp only [Option.map_some, Option.some.injEq] at h
      refine ⟨v, ?_, by rw [← h]⟩
      simp [zeroValue, typeInfo, program, Sem.run, bind, Sem.bind, hi, hz, pure]

theorem run_typeInfo {P : Program} {t : TypeId} {by_ : Nat} (h : bytesP P t = some by_) (w : World) : ∃ i, (typeInfo t).run P w = .ok i w ∧ i.bytes = by_ := by
  unfold bytesP at h
  cases hi : P.info? t with
  | none => rw [hi] at h; cases h
  | some i =>
    rw [hi] at h
    simp only [Option.map_some, Option.some.injEq] at h
    exact ⟨i, by simp [typeInfo, program, Sem.run, bind, Sem.bind, hi, pure], h⟩

theorem run_askRoom (P : Program) (n : Nat) (w : World) : (askRoom n).run P w = .ok () w := by
  unfold askRoom mark
  split <;> rfl

section
variable {P : Program} {n : Nat} {ops : Array Oper} {Q : Exit → Act → World → Prop} {i : Nat} {ge : GEnv} {w : World} {ty : TypeId} {dst : Option Nat}

theorem reg_makeSlice {t e : TypeId} {lo co : Operand} {l c : Int} {sz by_ : Nat} {zs : List Value} (ho : opAt n ops ge i = some (.makeSlice t lo co, ty, dst))
    (hl : rho ge lo = .int .i64 l) (hc : rho ge co = .int .i64 c) (ht : P.underlying t = some (.slice e)) (hs : sizeP P e = some sz) (hb : bytesP P e = some by_) (hz : zeroP P e = some zs)
    (hn : zs.length = sz) (hb1 : Nat.ble 1 by_ = true) (h0 : 0 ≤ l) (h1 : l ≤ c) (h2 : (by_ : Int) * c ≤ 281474976710656)
    (h : ∀ b w', b = w.heap.size → w' = w.alloc (Obj.cells (repCells c.toNat zs) e (0, 0)) → RegG P n ops Q (i + 1) (putG dst (.slice (some ⟨b, 0, none⟩) l.toNat c.toNat) ge) w') : RegG P n ops Q i ge w := by
  refine reg_op ho ?_
  subst hn
  have hby : 1 ≤ by_ := Nat.le_of_ble_eq_true hb1
  have hcb : c ≤ 281474976710656 := by
    have : 1 * c ≤ (by_ : Int) * c := Int.mul_le_mul_of_nonneg_right (by omega) (by omega)
    omega
  have hwl : IntKind.i64.wrap l = l := IntWalk.i64_in _ (by omega)
  have hwc : IntKind.i64.wrap c = c := IntWalk.i64_in _ (by omega)
  obtain ⟨v, hv, hvc⟩ := run_zeroValue hz w
  obtain ⟨inf, hinf, hbe⟩ := run_typeInfo hb w
  have hr : (ex (.makeSlice t lo co) ty (rho ge)).run P w = .ok (.value (.slice (some ⟨w.heap.size, 0, none⟩) l.toNat c.toNat)) (w.alloc (Obj.cells (repCells c.toNat zs) e (0, 0))) := by
    unfold ex execOp Instr.makeSlice
    simp only [hl, hc]
    simp only [run_bind', run_underlying ht, asInt, asIntOf, pure, Sem.run, hinf, hbe, hwl, hwc]
    have k1 : (decide (c < 0) || decide ((by_ : Int) * c > 2 ^ 48)) = false := by
      simp only [Bool.or_eq_false_iff, decide_eq_false_iff_not]
      have : (2 : Int) ^ 48 = 281474976710656 := by decide
      rw [this]; omega
    have k2 : ¬ ((decide (c < 0) || decide ((by_ : Int) * c > 2 ^ 48)) = true ∨ l < 0) := by
      rw [k1]; simp; omega
    simp only [k1, Bool.false_or, Bool.or_eq_true, decide_eq_true_eq]
    rw [if_neg (by omega)]
    simp only [run_bind', run_askRoom, run_sizeOf hs]
    by_cases hz0 : c.toNat * zs.length = 0
    · rw [if_pos hz0]
      simp only [pure, Sem.run, newRow, newObj, run_bind']
      have e1 : repCells c.toNat zs = #[] := by
        rw [← repCells_eq, hz0]; simp
      have e2 : ∀ f : Nat → Value, Array.map f (Array.range 0) = #[] := fun f => by simp
      rw [hz0, e1, e2]
      rfl
    · rw [if_neg hz0]
      simp only [run_bind', hv, pure, Sem.run, newRow, newObj, hvc]
      rw [repCells_eq]
      rfl
  unfold OpS
  rw [hr]
  exact h _ _ rfl rfl

/-- x[lo:hi:max] -/
def Slc.cut (sz : Nat) (s : Slc) (lo hi mx : Int) : Slc :=
  ⟨if mx.toNat = lo.toNat then s.ptr else s.ptr.map (·.add (lo.toNat * sz)), hi.toNat - lo.toNat, mx.toNat - lo.toNat⟩

theorem run_sliceBound {P : Program} {k : IntKind} {j : Int} {y : Nat} {code : BoundsCode} (h0 : 0 ≤ j) (h1 : j ≤ y) (w : World) : (Instr.sliceBound (.int k j) y code).run P w = .ok j.toNat w := by
  unfold Instr.sliceBound
  simp only [run_bind', asIntOf, pure, Sem.run]
  rw [if_pos ⟨h0, h1⟩]
  rfl

theorem run_sliceAll {t e : TypeId} {x : Operand} {lo hi mx : Option Operand} {s : Slc} {sz : Nat} {l h m : Nat} (hx : rho ge x = .slice s.ptr s.len s.cap) (ht : P.underlying t = some (.slice e)) (hs : sizeP P e = some sz)
    (hb : (Instr.sliceBounds true s.len s.cap (lo.map (rho ge)) (hi.map (rho ge)) (mx.map (rho ge))).run P w = .ok (l, h, m) w) :
    (ex (.slice t x lo hi mx) ty (rho ge)).run P w = .ok (.value (.slice (if m = l then s.ptr else s.ptr.map (·.add (l * sz))) (h - l) (m - l))) w := by
  unfold ex execOp Instr.sliceAt
  simp only [hx]
  simp only [run_bind', run_underlying ht, Instr.slice]
  simp only [run_bind', run_underlying ht, hb, run_sizeOf hs, pure, Sem.run]

theorem run_slice {t e : TypeId} {x lo : Operand} {s : Slc} {sz : Nat} {k : IntKind} {a : Int} (hx : rho ge x = .slice s.ptr s.len s.cap) (hl : rho ge lo = .int k a) (ht : P.underlying t = some (.slice e)) (hs : sizeP P e = some sz)
    (hc : 0 ≤ a ∧ a ≤ ((s.len : Nat) : Int) ∧ ((s.len : Nat) : Int) ≤ ((s.cap : Nat) : Int) ∧ ((s.cap : Nat) : Int) ≤ ((s.cap : Nat) : Int)) :
    (ex (.slice t x (some lo) none none) ty (rho ge)).run P w = .ok (.value (.slice (Slc.cut sz s a s.len s.cap).ptr (Slc.cut sz s a s.len s.cap).len (Slc.cut sz s a s.len s.cap).cap)) w := by
  rw [run_sliceAll (l := a.toNat) (h := s.len) (m := s.cap) hx ht hs]
  · unfold Slc.cut; simp
  · simp only [Instr.sliceBounds, Option.map_some, Option.map_none, hl, run_bind', pure, Sem.run, run_sliceBound hc.1 hc.2.1]

theorem run_sliceH {t e : TypeId} {x lo hi : Operand} {s : Slc} {sz : Nat} {k k' : IntKind} {a b : Int} (hx : rho ge x = .slice s.ptr s.len s.cap) (hl : rho ge lo = .int k a) (hh : rho ge hi = .int k' b) (ht : P.underlying t = some (.slice e)) (hs : sizeP P e = some sz)
    (hc : 0 ≤ a ∧ a ≤ b ∧ b ≤ ((s.cap : Nat) : Int) ∧ ((s.cap : Nat) : Int) ≤ ((s.cap : Nat) : Int)) :
    (ex (.slice t x (some lo) (some hi) none) ty (rho ge)).run P w = .ok (.value (.slice (Slc.cut sz s a b s.cap).ptr (Slc.cut sz s a b s.cap).len (Slc.cut sz s a b s.cap).cap)) w := by
  rw [run_sliceAll (l := a.toNat) (h := b.toNat) (m := s.cap) hx ht hs]
  · unfold Slc.cut; simp
  · simp only [Instr.sliceBounds, Option.map_some, Option.map_none, hl, hh, run_bind', pure, Sem.run, run_sliceBound (show 0 ≤ b by omega) hc.2.2.1]
    rw [run_sliceBound hc.1 (by omega)]

theorem run_sliceHM {t e : TypeId} {x lo hi mx : Operand} {s : Slc} {sz : Nat} {k k' k'' : IntKind} {a b c : Int} (hx : rho ge x = .slice s.ptr s.len s.cap) (hl : rho ge lo = .int k a) (hh : rho ge hi = .int k' b) (hm : rho ge mx = .int k'' c) (ht : P.underlying t = some (.slice e)) (hs : sizeP P e = some sz)
    (hc : 0 ≤ a ∧ a ≤ b ∧ b ≤ c ∧ c ≤ ((s.cap : Nat) : Int)) :
    (ex (.slice t x (some lo) (some hi) (some mx)) ty (rho ge)).run P w = .ok (.value (.slice (Slc.cut sz s a b c).ptr (Slc.cut sz s a b c).len (Slc.cut sz s a b c).cap)) w := by
  rw [run_sliceAll (l := a.toNat) (h := b.toNat) (m := c.toNat) hx ht hs]
  · unfold Slc.cut; simp
  · simp only [Instr.sliceBounds, Option.map_some, hl, hh, hm, run_bind', pure, Sem.run, run_sliceBound (show 0 ≤ c by omega) hc.2.2.2]
    rw [run_sliceBound (show 0 ≤ b by omega) (by omega)]
    simp only
    rw [run_sliceBound hc.1 (by omega)]

theorem reg_slice {t e : TypeId} {x lo : Operand} {s : Slc} {sz : Nat} {k : IntKind} {a : Int} (ho : opAt n ops ge i = some (.slice t x (some lo) none none, ty, dst))
    (hx : rho ge x = .slice s.ptr s.len s.cap) (hl : rho ge lo = .int k a) (ht : P.underlying t = some (.slice e)) (hs : sizeP P e = some sz)
    (hc : 0 ≤ a ∧ a ≤ ((s.len : Nat) : Int) ∧ ((s.len : Nat) : Int) ≤ ((s.cap : Nat) : Int) ∧ ((s.cap : Nat) : Int) ≤ ((s.cap : Nat) : Int))
    (h : ∀ r, r = Slc.cut sz s a s.len s.cap → RegG P n ops Q (i + 1) (putG dst (.slice r.ptr r.len r.cap) ge) w) : RegG P n ops Q i ge w :=
  reg_op ho (by unfold OpS; rw [run_slice hx hl ht hs hc]; exact h _ rfl)
theorem reg_sliceH {t e : TypeId} {x lo hi : Operand} {s : Slc} {sz : Nat} {k k' : IntKind} {a b : Int} (ho : opAt n ops ge i = some (.slice t x (some lo) (some hi) none, ty, dst))
    (hx : rho ge x = .slice s.ptr s.len s.cap) (hl : rho ge lo = .int k a) (hh : rho ge hi = .int k' b) (ht : P.underlying t = some (.slice e)) (hs : sizeP P e = some sz)
    (hc : 0 ≤ a ∧ a ≤ b ∧ b ≤ ((s.cap : Nat) : Int) ∧ ((s.cap : Nat) : Int) ≤ ((s.cap : Nat) : Int))
    (h : ∀ r, r = Slc.cut sz s a b s.cap → RegG P n ops Q (i + 1) (putG dst (.slice r.ptr r.len r.cap) ge) w) : RegG P n ops Q i ge w :=
  reg_op ho (by unfold OpS; rw [run_sliceH hx hl hh ht hs hc]; exact h _ rfl)
theorem reg_sliceHM {t e : TypeId} {x lo hi mx : Operand} {s : Slc} {sz : Nat} {k k' k'' : IntKind} {a b c : Int} (ho : opAt n ops ge i = some (.slice t x (some lo) (some hi) (some mx), ty, dst))
    (hx : rho ge x = .slice s.ptr s.len s.cap) (hl : rho ge lo = .int k a) (hh : rho ge hi = .int k' b) (hm : rho ge mx = .int k'' c) (ht : P.underlying t = some (.slice e)) (hs : sizeP P e = some sz)
    (hc : 0 ≤ a ∧ a ≤ b ∧ b ≤ c ∧ c ≤ ((s.cap : Nat) : Int))
    (h : ∀ r, r = Slc.cut sz s a b c → RegG P n ops Q (i + 1) (putG dst (.slice r.ptr r.len r.cap) ge) w) : RegG P n ops Q i ge w :=
  reg_op ho (by unfold OpS; rw [run_sliceHM hx hl hh hm ht hs hc]; exact h _ rfl)

theorem qreg_sliceHi {t e : TypeId} {x hi : Operand} {p : Option Addr} {l c sz : Nat} {k : IntKind} {j : Int} {Q : Act → Prop} (ho : opAt n ops ge i = some (.slice t x none (some hi) none, ty, dst))
    (hx : rho ge x = .slice p l c) (hh : rho ge hi = .int k j) (ht : P.underlying t = some (.slice e)) (hs : sizeP P e = some sz)
    (h0 : 0 ≤ j) (h1 : j ≤ c) (h : RegQ P n ops Q (i + 1) (putG dst (.slice p j.toNat c) ge) w) : RegQ P n ops Q i ge w :=
  qreg_op _ ho (fun kk => by
    rw [run_sliceAll (s := ⟨p, l, c⟩) (l := 0) (h := j.toNat) (m := c) hx ht hs]
    · have hadd : p.map (fun a => a.add 0) = p := by cases p <;> simp [Addr.add]
      simp [hadd]
    · simp only [Instr.sliceBounds, Option.map_some, Option.map_none, hh, run_bind', pure, Sem.run, run_sliceBound h0 h1]) h

/-! #### append, copy -/
/-- The first cells of a slice. -/
def SrcAtN (w : World) (x : Slc) (k sz : Nat) (src : List Value) : Prop :=
  src.length = k * sz ∧ (src = [] ∨ (IsAt x.ptr ∧ CellsAt w (pblk x.ptr) (poff x.ptr) src))
def SrcAt (w : World) (x : Slc) (sz : Nat) (src : List Value) : Prop := SrcAtN w x x.len sz src

def srcT (P : Program) (t : TypeId) : Bool := match P.underlying t with | some (.slice _) | some .string => true | _ => false

def AppendW (sz by_ : Nat) (e : TypeId) (zs : List Value) (s : Slc) (src : List Value) (k : Nat) (w : World) (K : Slc → World → Prop) : Prop :=
  (s.len + k ≤ s.cap → (src = [] ∧ K ⟨s.ptr, s.len + k, s.cap⟩ w) ∨
    (IsAt s.ptr ∧ Writable w (pblk s.ptr) (poff s.ptr + s.len * sz) src.length ∧ oneCells src = true ∧ ∀ w', w' = World.puts (pblk s.ptr) (poff s.ptr + s.len * sz) src w → K ⟨s.ptr, s.len + k, s.cap⟩ w')) ∧
  (s.cap < s.len + k → Builtin.nextslicecap (s.len + k) s.cap * by_ ≤ 281474976710656 ∧ ∃ old, SrcAt w s sz old ∧ ∀ cap b w', s.len + k ≤ cap → cap < 9223372036854775808 → b = w.heap.size →
    w' = (w.drew).alloc (Obj.cells (old ++ src ++ (repCells (cap - (s.len + k)) zs).toList).toArray e (0, 0)) → K ⟨some ⟨b, 0, none⟩, s.len + k, cap⟩ w')

theorem AppendW.mono {sz by_ : Nat} {e : TypeId} {zs : List Value} {s : Slc} {src : List Value} {k : Nat} {w : World} {K K' : Slc → World → Prop} (h : AppendW sz by_ e zs s src k w K)
    (hk : ∀ r w', K r w' → K' r w') : AppendW sz by_ e zs s src k w K' := by
  refine ⟨fun hc => ?_, fun hc => ?_⟩
  · rcases h.1 hc with ⟨h1, h2⟩ | ⟨h1, h2, h3, h4⟩
    · exact .inl ⟨h1, hk _ _ h2⟩
    · exact .inr ⟨h1, h2, h3, fun w' hw => hk _ _ (h4 w' hw)⟩
  · obtain ⟨h1, old, h2, h3⟩ := h.2 hc
    exact ⟨h1, old, h2, fun cap b w' ha hb hc hd => hk _ _ (h3 cap b w' ha hb hc hd)⟩

theorem run_firstCells {P : Program} {w : World} {x : Slc} {k sz : Nat} {src : List Value} (h : SrcAtN w x k sz src) : (Builtin.firstCells sz k (.slice x.ptr x.len x.cap)).run P w = .ok src.toArray w := by
  obtain ⟨hl, rfl | ⟨hp, hc⟩⟩ := h
  · cases hp : x.ptr with
    | none => simp [Builtin.firstCells, pure, Sem.run]
    | some a =>
      simp only [List.length_nil] at hl
      simp only [Builtin.firstCells, ← hl]
      simp [loadCells, loadCellsFrom, pure, Sem.run]
  · rw [hp]
    simp only [Builtin.firstCells]
    exact run_loadCells hc hl

theorem zeroCells_eq (zs : List Value) (k : Nat) : Builtin.zeroCells zs.toArray k = repCells k zs := by
  unfold Builtin.zeroCells
  rw [← repCells_eq]
  simp

theorem run_append {t tx e : TypeId} {a x : Operand} {s : Slc} {sz by_ k : Nat} {zs src : List Value} {xv : Value} {K : Value → World → Prop}
    (hs : rho ge a = .slice s.ptr s.len s.cap) (hx : rho ge x = xv) (ht : P.underlying t = some (.slice e)) (hsz : sizeP P e = some sz) (hb : bytesP P e = some by_) (hz : zeroP P e = some zs)
    (hb1 : Nat.ble 1 by_ = true) (hmk : srcT P tx = true)
    (hlen : ∀ w, (Builtin.lenOf xv).run P w = .ok k w) (hsrc : (Builtin.firstCells sz k xv).run P w = .ok src.toArray w) (hsrc' : (Builtin.firstCells sz k xv).run P (w.drew) = .ok src.toArray (w.drew))
    (h : AppendW sz by_ e zs s src k w (fun r w' => K (.slice r.ptr r.len r.cap) w')) :
    OpS P (.call { callee := .builtin .append, args := #[a, x], argTypes := #[t, tx] }) ty (rho ge) w K := by
  have hby : 1 ≤ by_ := Nat.le_of_ble_eq_true hb1
  obtain ⟨dx, hdx, hdx2⟩ : ∃ d, P.underlying tx = some d ∧ ((∃ e', d = .slice e') ∨ d = .string) := by
    unfold srcT at hmk
    cases hu : P.underlying tx with
    | none => rw [hu] at hmk; cases hmk
    | some d =>
      rw [hu] at hmk
      refine ⟨d, rfl, ?_⟩
      cases d <;> first | (cases hmk; done) | exact .inl ⟨_, rfl⟩ | exact .inr rfl
  unfold OpS
  have hex : ex (.call { callee := .builtin .append, args := #[a, x], argTypes := #[t, tx] }) ty (rho ge) =
      (do pure (.value (← Builtin.append_ #[t, tx] ty #[.slice s.ptr s.len s.cap, xv])) : Sem Next) := by
    unfold ex execOp
    simp [Go.resolve, Go.invoke, Go.builtin, hs, hx, bind, Sem.bind, pure]
  rw [hex, run_bind']
  unfold Builtin.append_
  simp only [List.getElem?_toArray, List.getElem?_cons_zero, List.getElem?_cons_succ]
  have hnint : ∀ (α : Type) (u v : α), (match dx with | TypeDesc.int _ => u | _ => v) = v := by
    intro α u v
    rcases hdx2 with ⟨e', rfl⟩ | rfl <;> rfl
  rcases hdx2 with ⟨e', rfl⟩ | rfl
  all_goals
  simp only [run_bind', run_underlying ht, run_sizeOf hsz, run_underlying hdx, pure, Sem.run, Bool.false_eq_true, if_false, hlen, Bool.not_false, if_true]
  by_cases hfit : s.len + k ≤ s.cap
  · rw [if_pos hfit]
    simp only [run_bind', hsrc]
    rcases h.1 hfit with ⟨he, hK⟩ | ⟨hp, hw, h1, hK⟩
    · subst he
      cases hp : s.ptr with
      | none => rw [hp] at hK; simp only [pure, Sem.run]; exact hK
      | some a => rw [hp] at hK; simp only [storeCells, pure, Sem.run, run_bind']; exact hK
    · have hK := hK _ rfl
      have hp' : s.ptr = some ⟨pblk s.ptr, poff s.ptr, none⟩ := hp
      clear hp
      generalize pblk s.ptr = pb at *
      generalize poff s.ptr = po at *
      rw [hp'] at hK ⊢
      simp only [run_bind', addr_add]
      have := run_storeCells (P := P) (b := pb) (o := po + s.len * sz) src 0 w (by simpa using hw) h1
      rw [this]
      simp only [pure, Sem.run]
      exact hK
  · rw [if_neg hfit]
    obtain ⟨hcap, old, hold, hK⟩ := h.2 (by omega)
    obtain ⟨inf, hinf, hbe⟩ := run_typeInfo hb w
    obtain ⟨v, hv, hvc⟩ := run_zeroValue hz (w.drew)
    have hold' : SrcAtN (w.drew) s s.len sz old := by
      obtain ⟨h1, h2⟩ := hold
      exact ⟨h1, h2.imp id (fun ⟨h3, h4⟩ => ⟨h3, (CellsAt.drewN (k := 1) h4)⟩)⟩
    simp only [run_bind', hinf, hbe]
    have k1 : ¬ (((s.len + k : Nat) : Int) > IntKind.i64.max ∧ (False ∨ by_ = 0)) := by
      intro hh
      rcases hh.2 with h3 | h3
      · exact h3
      · omega
    rw [if_neg k1]
    simp only [run_bind', pure, Sem.run]
    have k2 : ¬ (Builtin.nextslicecap (s.len + k) s.cap * by_ > 2 ^ 48) := by
      have : (2 : Nat) ^ 48 = 281474976710656 := by decide
      omega
    rw [hinf]
    simp only [hbe]
    rw [if_neg k2]
    simp only [choose, Sem.run, Question.forced, Bool.false_eq_true, if_false, run_bind']
    have hd : ({ heap := w.heap, tape := w.tape, drawn := w.drawn + 1, os := w.os, output := w.output } : World) = w.drew := rfl
    rw [hd]
    generalize hcv : Question.cut (.appendCap (s.len + k) s.cap e) (w.tape w.drawn (.appendCap (s.len + k) s.cap e)) = cap
    have hc1 : s.len + k ≤ cap ∧ cap < 9223372036854775808 ∨ 9223372036854775808 ≤ s.len + k := by
      rw [← hcv]
      simp only [Question.cut]
      rcases Nat.lt_or_ge (s.len + k) 9223372036854775808 with h9 | h9
      · left
        have : (2 : Nat) ^ 63 = 9223372036854775808 := by decide
        rw [this]
        have := Nat.mod_lt (w.tape w.drawn (.appendCap (s.len + k) s.cap e)) (show 0 < 9223372036854775808 - (s.len + k) by omega)
        omega
      · exact .inr h9
    obtain ⟨inf2, hinf2, hbe2⟩ := run_typeInfo hb (w.drew)
    rw [hinf2]
    simp only [run_askRoom]
    rw [run_firstCells hold']
    simp only [hsrc', hv, hvc, zeroCells_eq, newRow, newObj, run_bind', pure, Sem.run]
    have hle := le_nextslicecap (show s.cap < s.len + k by omega)
    have hnc : s.len + k < 9223372036854775808 := by
      have : Builtin.nextslicecap (s.len + k) s.cap * 1 ≤ Builtin.nextslicecap (s.len + k) s.cap * by_ := Nat.mul_le_mul_left _ hby
      omega
    rcases hc1 with ⟨ha, hb'⟩ | hb'
    · have := hK cap w.heap.size _ ha hb' rfl rfl
      have e1 : (w.drew).heap.size = w.heap.size := rfl
      rw [e1]
      have e2 : (old.toArray ++ src.toArray ++ repCells (cap - (s.len + k)) zs) = (old ++ src ++ (repCells (cap - (s.len + k)) zs).toList).toArray := by
        apply Array.ext'; simp
      rw [e2]
      exact this
    · omega

theorem reg_append {t tx e : TypeId} {a xo : Operand} {s x : Slc} {sz by_ : Nat} {zs : List Value} (src : List Value)
    (ho : opAt n ops ge i = some (.call { callee := .builtin .append, args := #[a, xo], argTypes := #[t, tx] }, ty, dst))
    (hs : rho ge a = .slice s.ptr s.len s.cap) (hx : rho ge xo = .slice x.ptr x.len x.cap) (ht : P.underlying t = some (.slice e)) (hsz : sizeP P e = some sz) (hb : bytesP P e = some by_) (hz : zeroP P e = some zs)
    (hb1 : Nat.ble 1 by_ = true) (hmk : srcT P tx = true)
    (hsrc : SrcAt w x sz src) (h : AppendW sz by_ e zs s src x.len w (fun r w' => RegG P n ops Q (i + 1) (putG dst (.slice r.ptr r.len r.cap) ge) w')) : RegG P n ops Q i ge w :=
  reg_op ho (run_append hs hx ht hsz hb hz hb1 hmk (fun w => rfl) (run_firstCells hsrc)
    (run_firstCells (w := w.drew) ⟨hsrc.1, hsrc.2.imp id (fun ⟨h3, h4⟩ => ⟨h3, (CellsAt.drewN (k := 1) h4)⟩)⟩) h)

/-- A string's bytes as cells. -/
def strCells (s : ByteArray) : List Value := s.data.toList.map fun b => .int .u8 b.toNat

theorem reg_appendStr {t tx e : TypeId} {a xo : Operand} {s : Slc} {str : ByteArray} {by_ : Nat} {zs : List Value}
    (ho : opAt n ops ge i = some (.call { callee := .builtin .append, args := #[a, xo], argTypes := #[t, tx] }, ty, dst))
    (hs : rho ge a = .slice s.ptr s.len s.cap) (hx : rho ge xo = .string str) (ht : P.underlying t = some (.slice e)) (hsz : sizeP P e = some 1) (hb : bytesP P e = some by_) (hz : zeroP P e = some zs)
    (hb1 : Nat.ble 1 by_ = true) (hmk : srcT P tx = true)
    (h : AppendW 1 by_ e zs s (strCells str) str.size w (fun r w' => RegG P n ops Q (i + 1) (putG dst (.slice r.ptr r.len r.cap) ge) w')) : RegG P n ops Q i ge w := by
  have key : ∀ w : World, (Builtin.firstCells 1 str.size (.string str)).run P w = .ok (strCells str).toArray w := by
    intro w
    have e1 : str.extract 0 str.size = str := by simp
    simp only [Builtin.firstCells, e1, pure, Sem.run, strCells]
    congr 1
    apply Array.ext'
    simp
  exact reg_op ho (run_append hs hx ht hsz hb hz hb1 hmk (fun w => rfl) (key w) (key _) h)

def CopyW (d : Slc) (src : List Value) (w : World) (K : World → Prop) : Prop :=
  (src = [] ∧ K w) ∨ (IsAt d.ptr ∧ Writable w (pblk d.ptr) (poff d.ptr) src.length ∧ oneCells src = true ∧ ∀ w', w' = World.puts (pblk d.ptr) (poff d.ptr) src w → K w')
theorem CopyW.mono {d : Slc} {src : List Value} {w : World} {K K' : World → Prop} (h : CopyW d src w K) (hk : ∀ w', K w' → K' w') : CopyW d src w K' := by
  rcases h with ⟨h1, h2⟩ | ⟨h1, h2, h3, h4⟩
  · exact .inl ⟨h1, hk _ h2⟩
  · exact .inr ⟨h1, h2, h3, fun w' hw => hk _ (h4 w' hw)⟩

theorem reg_copy {t tx e : TypeId} {a xo : Operand} {d x : Slc} {sz : Nat} (src : List Value)
    (ho : opAt n ops ge i = some (.call { callee := .builtin .copy, args := #[a, xo], argTypes := #[t, tx] }, ty, dst))
    (hd : rho ge a = .slice d.ptr d.len d.cap) (hx : rho ge xo = .slice x.ptr x.len x.cap) (ht : P.underlying t = some (.slice e)) (hsz : sizeP P e = some sz)
    (hsrc : SrcAtN w x (min x.len d.len) sz src) (h : CopyW d src w (fun w' => RegG P n ops Q (i + 1) (putG dst (.int .i64 ((min x.len d.len : Nat) : Int)) ge) w')) : RegG P n ops Q i ge w := by
  refine reg_op ho ?_
  unfold OpS
  have hex : ex (.call { callee := .builtin .copy, args := #[a, xo], argTypes := #[t, tx] }) ty (rho ge) =
      (do pure (.value (← Builtin.copy_ #[t, tx] ty #[.slice d.ptr d.len d.cap, .slice x.ptr x.len x.cap])) : Sem Next) := by
    unfold ex execOp
    simp [Go.resolve, Go.invoke, Go.builtin, hd, hx, bind, Sem.bind, pure]
  rw [hex, run_bind']
  unfold Builtin.copy_
  simp only [List.getElem?_toArray, List.getElem?_cons_zero, List.getElem?_cons_succ]
  have hmin : Nat.min x.len d.len = min x.len d.len := rfl
  simp only [run_bind', run_underlying ht, run_sizeOf hsz, pure, Sem.run, Builtin.lenOf, hmin, run_firstCells hsrc]
  rcases h with ⟨he, hK⟩ | ⟨hp, hw, h1, hK⟩
  · subst he
    cases hp : d.ptr with
    | none => simp only [Sem.run, goInt]; exact hK
    | some a => simp only [storeCells, pure, Sem.run, run_bind', goInt]; exact hK
  · have hK := hK _ rfl
    have hp' : d.ptr = some ⟨pblk d.ptr, poff d.ptr, none⟩ := hp
    clear hp
    generalize pblk d.ptr = pb at *
    generalize poff d.ptr = po at *
    rw [hp']
    have := run_storeCells (P := P) (b := pb) (o := po) src 0 w (by simpa using hw) h1
    simp only [run_bind', this, Sem.run, goInt]
    exact hK

/-! #### Comparisons with nil, of structs; values of function type -/
def isPtrT (P : Program) (t : TypeId) : Bool := match P.underlying t with | some (.pointer _) => true | _ => false
def isSliceT (P : Program) (t : TypeId) : Bool := match P.underlying t with | some (.slice _) => true | _ => false
def isMapT (P : Program) (t : TypeId) : Bool := match P.underlying t with | some (.map ..) => true | _ => false
end

section
variable {P : Program} {ge : GEnv} {ty xt yt : TypeId} {x y : Operand}
theorem run_cmp {op : BinOp} {r : Value} {w : World} (h1 : (eqGuard op xt x y (rho ge x) (rho ge y)).run P w = .ok () w) (h2 : (binOp op xt (rho ge x) (rho ge y)).run P w = .ok r w) :
    (ex (.binOp op xt x y yt) ty (rho ge)).run P w = .ok (.value r) w := by
  unfold ex execOp
  simp only [run_bind', h1, h2, pure, Sem.run]
theorem isPtrT_spec (h : isPtrT P xt = true) : ∃ e, ∀ w, (underlying xt).run P w = .ok (.pointer e) w := by
  unfold isPtrT at h
  cases hu : P.underlying xt with
  | none => rw [hu] at h; cases h
  | some d => rw [hu] at h; cases d <;> first | (cases h; done) | exact ⟨_, run_underlying hu⟩
theorem isSliceT_spec (h : isSliceT P xt = true) : ∃ e, ∀ w, (underlying xt).run P w = .ok (.slice e) w := by
  unfold isSliceT at h
  cases hu : P.underlying xt with
  | none => rw [hu] at h; cases h
  | some d => rw [hu] at h; cases d <;> first | (cases h; done) | exact ⟨_, run_underlying hu⟩
theorem isMapT_spec (h : isMapT P xt = true) : ∃ d : TypeId × TypeId, ∀ w, (underlying xt).run P w = .ok (.map d.1 d.2) w := by
  unfold isMapT at h
  cases hu : P.underlying xt with
  | none => rw [hu] at h; cases h
  | some d => rw [hu] at h; cases d <;> first | (cases h; done) | exact ⟨(_, _), run_underlying hu⟩
theorem run_ptr_eql_R {p : Option Addr} (hx : rho ge x = .pointer p) (hy : rho ge y = .pointer none) (ht : isPtrT P xt = true) (w : World) :
    (ex (.binOp .eql xt x y yt) ty (rho ge)).run P w = .ok (.value (.bool p.isNone)) w := by
  obtain ⟨d, hu⟩ := isPtrT_spec ht
  have he : (Op.equal xt (.pointer p) (.pointer none)).run P w = .ok p.isNone w := by
    show (Op.equalIn (9999 + 1) xt (.pointer p) (.pointer none)).run P w = _
    unfold Op.equalIn
    rw [run_bind', hu]
    cases p <;> rfl
  refine run_cmp (by rw [hx, hy]; rfl) ?_
  rw [hx, hy]
  show (Op.equal xt (.pointer p) (.pointer none) >>= fun r => pure (Value.bool (r))).run P w = _
  rw [run_bind', he]
  rfl
theorem run_ptr_eql_L {p : Option Addr} (hx : rho ge x = .pointer none) (hy : rho ge y = .pointer p) (ht : isPtrT P xt = true) (w : World) :
    (ex (.binOp .eql xt x y yt) ty (rho ge)).run P w = .ok (.value (.bool p.isNone)) w := by
  obtain ⟨d, hu⟩ := isPtrT_spec ht
  have he : (Op.equal xt (.pointer none) (.pointer p)).run P w = .ok p.isNone w := by
    show (Op.equalIn (9999 + 1) xt (.pointer none) (.pointer p)).run P w = _
    unfold Op.equalIn
    rw [run_bind', hu]
    cases p <;> rfl
  refine run_cmp (by rw [hx, hy]; rfl) ?_
  rw [hx, hy]
  show (Op.equal xt (.pointer none) (.pointer p) >>= fun r => pure (Value.bool (r))).run P w = _
  rw [run_bind', he]
  rfl
theorem run_ptr_neq_R {p : Option Addr} (hx : rho ge x = .pointer p) (hy : rho ge y = .pointer none) (ht : isPtrT P xt = true) (w : World) :
    (ex (.binOp .neq xt x y yt) ty (rho ge)).run P w = .ok (.value (.bool (!p.isNone))) w := by
  obtain ⟨d, hu⟩ := isPtrT_spec ht
  have he : (Op.equal xt (.pointer p) (.pointer none)).run P w = .ok p.isNone w := by
    show (Op.equalIn (9999 + 1) xt (.pointer p) (.pointer none)).run P w = _
    unfold Op.equalIn
    rw [run_bind', hu]
    cases p <;> rfl
  refine run_cmp (by rw [hx, hy]; rfl) ?_
  rw [hx, hy]
  show (Op.equal xt (.pointer p) (.pointer none) >>= fun r => pure (Value.bool (!r))).run P w = _
  rw [run_bind', he]
  rfl
theorem run_ptr_neq_L {p : Option Addr} (hx : rho ge x = .pointer none) (hy : rho ge y = .pointer p) (ht : isPtrT P xt = true) (w : World) :
    (ex (.binOp .neq xt x y yt) ty (rho ge)).run P w = .ok (.value (.bool (!p.isNone))) w := by
  obtain ⟨d, hu⟩ := isPtrT_spec ht
  have he : (Op.equal xt (.pointer none) (.pointer p)).run P w = .ok p.isNone w := by
    show (Op.equalIn (9999 + 1) xt (.pointer none) (.pointer p)).run P w = _
    unfold Op.equalIn
    rw [run_bind', hu]
    cases p <;> rfl
  refine run_cmp (by rw [hx, hy]; rfl) ?_
  rw [hx, hy]
  show (Op.equal xt (.pointer none) (.pointer p) >>= fun r => pure (Value.bool (!r))).run P w = _
  rw [run_bind', he]
  rfl
theorem run_slice_eql_R {p : Option Addr} {l c : Nat} (hx : rho ge x = .slice p l c) (hy : rho ge y = .slice none 0 0) (ht : isSliceT P xt = true) (w : World) :
    (ex (.binOp .eql xt x y yt) ty (rho ge)).run P w = .ok (.value (.bool p.isNone)) w := by
  obtain ⟨d, hu⟩ := isSliceT_spec ht
  have he : (Op.equal xt (.slice p l c) (.slice none 0 0)).run P w = .ok p.isNone w := by
    show (Op.equalIn (9999 + 1) xt (.slice p l c) (.slice none 0 0)).run P w = _
    unfold Op.equalIn
    rw [run_bind', hu]
    cases p <;> rfl
  refine run_cmp (by rw [hx, hy]; rfl) ?_
  rw [hx, hy]
  show (Op.equal xt (.slice p l c) (.slice none 0 0) >>= fun r => pure (Value.bool (r))).run P w = _
  rw [run_bind', he]
  rfl
theorem run_slice_eql_L {p : Option Addr} {l c : Nat} (hx : rho ge x = .slice none 0 0) (hy : rho ge y = .slice p l c) (ht : isSliceT P xt = true) (w : World) :
    (ex (.binOp .eql xt x y yt) ty (rho ge)).run P w = .ok (.value (.bool p.isNone)) w := by
  obtain ⟨d, hu⟩ := isSliceT_spec ht
  have he : (Op.equal xt (.slice none 0 0) (.slice p l c)).run P w = .ok p.isNone w := by
    show (Op.equalIn (9999 + 1) xt (.slice none 0 0) (.slice p l c)).run P w = _
    unfold Op.equalIn
    rw [run_bind', hu]
    cases p <;> rfl
  refine run_cmp (by rw [hx, hy]; rfl) ?_
  rw [hx, hy]
  show (Op.equal xt (.slice none 0 0) (.slice p l c) >>= fun r => pure (Value.bool (r))).run P w = _
  rw [run_bind', he]
  rfl
theorem run_slice_neq_R {p : Option Addr} {l c : Nat} (hx : rho ge x = .slice p l c) (hy : rho ge y = .slice none 0 0) (ht : isSliceT P xt = true) (w : World) :
    (ex (.binOp .neq xt x y yt) ty (rho ge)).run P w = .ok (.value (.bool (!p.isNone))) w := by
  obtain ⟨d, hu⟩ := isSliceT_spec ht
  have he : (Op.equal xt (.slice p l c) (.slice none 0 0)).run P w = .ok p.isNone w := by
    show (Op.equalIn (9999 + 1) xt (.slice p l c) (.slice none 0 0)).run P w = _
    unfold Op.equalIn
    rw [run_bind', hu]
    cases p <;> rfl
  refine run_cmp (by rw [hx, hy]; rfl) ?_
  rw [hx, hy]
  show (Op.equal xt (.slice p l c) (.slice none 0 0) >>= fun r => pure (Value.bool (!r))).run P w = _
  rw [run_bind', he]
  rfl
theorem run_slice_neq_L {p : Option Addr} {l c : Nat} (hx : rho ge x = .slice none 0 0) (hy : rho ge y = .slice p l c) (ht : isSliceT P xt = true) (w : World) :
    (ex (.binOp .neq xt x y yt) ty (rho ge)).run P w = .ok (.value (.bool (!p.isNone))) w := by
  obtain ⟨d, hu⟩ := isSliceT_spec ht
  have he : (Op.equal xt (.slice none 0 0) (.slice p l c)).run P w = .ok p.isNone w := by
    show (Op.equalIn (9999 + 1) xt (.slice none 0 0) (.slice p l c)).run P w = _
    unfold Op.equalIn
    rw [run_bind', hu]
    cases p <;> rfl
  refine run_cmp (by rw [hx, hy]; rfl) ?_
  rw [hx, hy]
  show (Op.equal xt (.slice none 0 0) (.slice p l c) >>= fun r => pure (Value.bool (!r))).run P w = _
  rw [run_bind', he]
  rfl
theorem run_map_eql_R {p : Option Nat} (hx : rho ge x = .map p) (hy : rho ge y = .map none) (ht : isMapT P xt = true) (w : World) :
    (ex (.binOp .eql xt x y yt) ty (rho ge)).run P w = .ok (.value (.bool p.isNone)) w := by
  obtain ⟨d, hu⟩ := isMapT_spec ht
  have he : (Op.equal xt (.map p) (.map none)).run P w = .ok p.isNone w := by
    show (Op.equalIn (9999 + 1) xt (.map p) (.map none)).run P w = _
    unfold Op.equalIn
    rw [run_bind', hu]
    cases p <;> rfl
  refine run_cmp (by rw [hx, hy]; rfl) ?_
  rw [hx, hy]
  show (Op.equal xt (.map p) (.map none) >>= fun r => pure (Value.bool (r))).run P w = _
  rw [run_bind', he]
  rfl
theorem run_map_eql_L {p : Option Nat} (hx : rho ge x = .map none) (hy : rho ge y = .map p) (ht : isMapT P xt = true) (w : World) :
    (ex (.binOp .eql xt x y yt) ty (rho ge)).run P w = .ok (.value (.bool p.isNone)) w := by
  obtain ⟨d, hu⟩ := isMapT_spec ht
  have he : (Op.equal xt (.map none) (.map p)).run P w = .ok p.isNone w := by
    show (Op.equalIn (9999 + 1) xt (.map none) (.map p)).run P w = _
    unfold Op.equalIn
    rw [run_bind', hu]
    cases p <;> rfl
  refine run_cmp (by rw [hx, hy]; rfl) ?_
  rw [hx, hy]
  show (Op.equal xt (.map none) (.map p) >>= fun r => pure (Value.bool (r))).run P w = _
  rw [run_bind', he]
  rfl
theorem run_map_neq_R {p : Option Nat} (hx : rho ge x = .map p) (hy : rho ge y = .map none) (ht : isMapT P xt = true) (w : World) :
    (ex (.binOp .neq xt x y yt) ty (rho ge)).run P w = .ok (.value (.bool (!p.isNone))) w := by
  obtain ⟨d, hu⟩ := isMapT_spec ht
  have he : (Op.equal xt (.map p) (.map none)).run P w = .ok p.isNone w := by
    show (Op.equalIn (9999 + 1) xt (.map p) (.map none)).run P w = _
    unfold Op.equalIn
    rw [run_bind', hu]
    cases p <;> rfl
  refine run_cmp (by rw [hx, hy]; rfl) ?_
  rw [hx, hy]
  show (Op.equal xt (.map p) (.map none) >>= fun r => pure (Value.bool (!r))).run P w = _
  rw [run_bind', he]
  rfl
theorem run_map_neq_L {p : Option Nat} (hx : rho ge x = .map none) (hy : rho ge y = .map p) (ht : isMapT P xt = true) (w : World) :
    (ex (.binOp .neq xt x y yt) ty (rho ge)).run P w = .ok (.value (.bool (!p.isNone))) w := by
  obtain ⟨d, hu⟩ := isMapT_spec ht
  have he : (Op.equal xt (.map none) (.map p)).run P w = .ok p.isNone w := by
    show (Op.equalIn (9999 + 1) xt (.map none) (.map p)).run P w = _
    unfold Op.equalIn
    rw [run_bind', hu]
    cases p <;> rfl
  refine run_cmp (by rw [hx, hy]; rfl) ?_
  rw [hx, hy]
  show (Op.equal xt (.map none) (.map p) >>= fun r => pure (Value.bool (!r))).run P w = _
  rw [run_bind', he]
  rfl

/-- Are two rows of one-cell fields equal? -/
def fieldsEq (P : Program) (xs ys : List Value) : List Field → Option Bool → Option (Option Bool)
  | [], acc => some acc
  | f :: fs, acc => bif f.name == "_" then none else
    match (match xs[f.offset]?, ys[f.offset]?, P.underlying f.type with
      | some (.int k a), some (.int k' b), some (.int _) => bif (match k, k' with
          | .i8, .i8 | .i16, .i16 | .i32, .i32 | .i64, .i64 | .u8, .u8 | .u16, .u16 | .u32, .u32 | .u64, .u64 => true
          | _, _ => false) then some (a == b) else none
      | some (.bool a), some (.bool b), some .bool => some (a == b)
      | some (.string a), some (.string b), some .string => some (a == b)
      | _, _, _ => none) with
    | none => none
    | some e => fieldsEq P xs ys fs (some (match acc with | none => e | some c => c && e))
end
end Go.Proofs.Ytmcpljflohlnaaa
