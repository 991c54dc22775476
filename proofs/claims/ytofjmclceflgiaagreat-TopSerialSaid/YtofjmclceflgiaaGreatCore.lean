/- The engine's core: frames known by some slots, and rules that step through Go code by small closed checks. -/
import Derived.WalkKit
import Derived.BigQuiet
import Derived.Deep.Quiet
import Derived.SizedLaws
import Derived.StillTail
import Derived.OrdersHeld
import Derived.Laws.BytesString
import Derived.Below
import Derived.Lib.Overlaps
import Derived.MapKept
import Derived.OrdersIn
import Derived.RangeFuncRecord
import Derived.WideKeyArr
import Derived.Lib.ConvBytes
namespace Go.Proofs.YtofjmclceflgiaaGreat
open Go
abbrev Vi (x:Int):Value:=Value.int .i64 x
abbrev Vp (x:Option Addr):Value:=Value.pointer x
abbrev Vo (x:Bool):Value:=Value.bool x
abbrev OA:=Option Addr
abbrev WP:=World → Prop
theorem K_ {p:Prop} (h:p:=by kernel_rfl):p:=h
theorem O_ {p:Prop} (h:p:=by omega):p:=h
theorem D_ {p:Prop} (h:p:=by decide):p:=h
set_option linter.unusedSimpArgs false
set_option linter.unusedVariables false
set_option linter.unusedSectionVars false

/-! ### Numbers: Go's operations on bits -/
def band (k:IntKind) (x y:Int):Int:=k.wrap (BitVec.ofInt k.bits x &&& BitVec.ofInt k.bits y).toNat
def bor (k:IntKind) (x y:Int):Int:=k.wrap (BitVec.ofInt k.bits x ||| BitVec.ofInt k.bits y).toNat
def bxor (k:IntKind) (x y:Int):Int:=k.wrap (BitVec.ofInt k.bits x ^^^ BitVec.ofInt k.bits y).toNat
def z1h (k:IntKind) (x y:Int):Int:=k.wrap (BitVec.ofInt k.bits x &&& ~~~ BitVec.ofInt k.bits y).toNat

/-! ### Frames known by some slots -/
abbrev Env:=List (Nat×Value)

def zrb (n:Nat) (t:Array Value) (l:Env):Prop:=t.size=n∧∀ p∈l,t.getD p.1 undef=p.2

/-- What kind of frame is walked: a round's (ro), with these deferred calls (ds), by the fenced rules (y); a return may end it so (esc). -/
class Rnd where
 ro:Option Nat
 ds:List Deferred
 y:Bool
 esc:Act→World→Prop
instance rnd0:Rnd:=⟨none,[],false,fun _ _=>False⟩
abbrev Rnd.F [r:Rnd]:Fence:={ Fence.wide with round:=r.ro }

section
variable [Rnd]
def CW (P:Program) (c:Code) (Q:Exit→Act→World→Prop) (a:Act) (w:World):Prop :=
 match (Rnd.y:Bool) with
 | true=>c.wpIn Rnd.F 0 P Q a w
 | false=>c.wp P Q a w
section
variable {P:Program} {Q Q':Exit→Act→World→Prop} {a:Act} {w:World} {c x y:Code} {id:Nat}
theorem z6f (h:CW P c Q a w) (hq:∀ e a w,Q e a w→Q' e a w):CW P c Q' a w:=by
 unfold CW at h ⊢
 split at h
 ·exact wpIn_mono h hq
 ·exact wp_mono h hq
theorem zso (h:Q .normal a w):CW P .skip Q a w:=by
 unfold CW; split
 ·exact wpIn_skip h
 ·exact wp_skip h
theorem zto (h:Q (.exit id) a w):CW P (.exit id) Q a w:=by
 unfold CW; split
 ·exact wpIn_exit h
 ·exact wp_exit h
theorem zJs (h:Q .ret a w):CW P .ret Q a w:=by
 unfold CW; split
 ·exact wpIn_ret h
 ·exact wp_ret h
theorem zKs (h:CW P x (Exit.then (CW P y Q) Q) a w):CW P (.seq x y) Q a w:=by
 unfold CW at h ⊢
 split at h
 ·rename_i hy
  refine wpIn_seq ?_
  simp only [hy] at h
  exact h
 ·rename_i hy
  refine wp_seq ?_
  simp only [hy] at h
  exact h
theorem z7m (h:CW P c (Exit.inBlock id Q) a w):CW P (.block id c) Q a w:=by
 unfold CW at h ⊢
 split at h
 ·exact wpIn_block h
 ·exact wp_block h
theorem z7f {o:Operand} {t:Bool} (hc:a.eval o= .bool t) (ht:t=true→CW P x Q a w) (hf:t=false→CW P y Q a w):CW P (.cond o x y) Q a w:=by
 unfold CW at ht hf ⊢
 split
 ·rename_i hy
  simp only [hy] at ht hf
  exact wpIn_cond_split hc ht hf
 ·rename_i hy
  simp only [hy] at ht hf
  exact wp_cond_split hc ht hf
theorem zuo (I:Act→World→Prop) (μ:Act→World→Nat) (h₀:I a w)
    (round:∀ a w,I a w→CW P c (Exit.then (fun a' w'=>I a' w'∧μ a' w'<μ a w) Q) a w):CW P (.loop c) Q a w:=by
 unfold CW at round ⊢
 split
 ·rename_i hy
  simp only [hy] at round
  exact wpIn_loop I μ h₀ round
 ·rename_i hy
  simp only [hy] at round
  exact wp_loop I μ h₀ round
/-- The operations of a region, one after another. -/
def OpsR (P:Program) (ops:Array Oper) (Q:Exit→Act→World→Prop) (l:List Nat) (a:Act) (w:World):Prop :=
 match (Rnd.y:Bool) with
 | true=>wpOpsIn Rnd.F 0 P ops Q l a w
 | false=>wpOps P ops Q l a w
theorem zzk {ops:Array Oper} (h:OpsR P ops Q (List.range ops.size) a w):CW P (.region id ops false) Q a w:=by
 unfold OpsR at h
 unfold CW
 split at h
 ·exact wpIn_region h
 ·exact wp_region h
end

def zjb (n:Nat) (Q:Exit→Env→World→Prop):Exit→Act→World→Prop :=
 fun e a w=>(a.defers=Rnd.ds∧∃ l,zrb n a.tmps l∧Q e l w)∨(e= .ret∧Rnd.esc a w)

def WpE (P:Program) (n:Nat) (c:Code) (Q:Exit→Env→World→Prop) (l:Env) (w:World):Prop :=
 ∀ t,zrb n t l→CW P c (zjb n Q) ⟨t,Rnd.ds⟩ w

theorem zjb.act {n:Nat} {Q:Exit→Env→World→Prop} {e:Exit} {a:Act} {w:World} (h:zjb n Q e a w) :
    (∃ t l,a=⟨t,Rnd.ds⟩∧zrb n t l∧Q e l w)∨(e= .ret∧Rnd.esc a w):=by
 rcases h with ⟨hd,l,h1,h2⟩ | h
 ·obtain⟨t,d⟩:=a
  simp only at hd
  subst hd
  exact .inl ⟨t,l,rfl,h1,h2⟩
 ·exact .inr h

theorem zjb.mk {n:Nat} {Q:Exit→Env→World→Prop} {e:Exit} {t:Array Value} {w:World} {l:Env} (h:zrb n t l) (hq:Q e l w) :
    zjb n Q e ⟨t,Rnd.ds⟩ w:= .inl ⟨rfl,l,h,hq⟩

def zSc:Env→Nat→Option Value
 | [],_=>none
 | (j,v)::r,i=>bif Nat.beq i j then some v else zSc r i

theorem znc:∀ {l:Env} {i:Nat} {v:Value},zSc l i=some v→(i,v)∈l
 | (j,u)::_,i,v,h=>by
  unfold zSc at h
  cases hb:Nat.beq i j with
  | true =>
   rw [hb] at h
   have:i=j:=Nat.eq_of_beq_eq_true hb
   subst this
   simp only [cond_true,Option.some.injEq] at h
   subst h
   exact List.mem_cons_self ..
  | false =>
   rw [hb] at h
   simp only [cond_false] at h
   exact List.mem_cons_of_mem _ (znc h)

/-- The check of a smaller environment. -/
def Sub (l l':Env):Prop:=l'.map (fun p=>zSc l p.1)=l'.map (fun p=>some p.2)

theorem Sub.mk {l l':Env} (h:l'.map (fun p=>zSc l p.1)=l'.map (fun p=>some p.2)):Sub l l':=h

theorem Sub.agrees {n:Nat} {t:Array Value} {l l':Env} (h:Sub l l') (ha:zrb n t l):zrb n t l':=by
 refine⟨ha.1,fun p hp=> ?_⟩
 have:zSc l p.1=some p.2:=by
  have:=List.map_inj_left.1 h p hp
  exact this
 exact ha.2 _ (znc this)

theorem zAk {P:Program} {n:Nat} {c:Code} {Q:Exit→Env→World→Prop} {l l':Env} {w:World} (hs:Sub l l')
    (h:WpE P n c Q l' w):WpE P n c Q l w:=fun t ha=>h t (hs.agrees ha)

theorem z8m {P:Program} {n:Nat} {c:Code} {Q Q':Exit→Env→World→Prop} {l:Env} {w:World} (hq:∀ e l w,Q e l w→Q' e l w)
    (h:WpE P n c Q l w):WpE P n c Q' l w:=fun t ha =>
 z6f (h t ha) fun _ _ _ he=>he.elim (fun⟨h0,l,h1,h2⟩=> .inl ⟨h0,l,h1,hq _ _ _ h2⟩) .inr

/-! ### Structure -/
def Code.l:Code→Code
 | .seq a _=>a | .block _ a=>a | .loop a=>a | .scope a=>a | .cond _ a _=>a | .rangeFunc _ _ a _=>a | _=> .skip
def Code.r:Code→Code
 | .seq _ b=>b | .cond _ _ b=>b | .rangeFunc _ _ _ b=>b | _=> .skip
def Code.ops:Code→Array Oper
 | .region _ o _=>o | _=>#[]

def seqQ (P:Program) (n:Nat) (y:Code) (Q:Exit→Env→World→Prop):Exit→Env→World→Prop
 | .normal,l,w=>WpE P n y Q l w
 | e,l,w=>Q e l w

theorem zf {P:Program} {n:Nat} {c x y:Code} {Q:Exit→Env→World→Prop} {l:Env} {w:World} (hc:c= .seq x y)
    (h:WpE P n x (seqQ P n y Q) l w):WpE P n c Q l w:=by
 subst hc
 intro t ha
 refine zKs (z6f (h t ha) fun e a w' he=> ?_)
 rcases he.act with ⟨t',l',rfl,h1,h2⟩ | ⟨rfl,h1⟩
 ·cases e with
  | normal=>exact h2 t' h1
  | _=>exact zjb.mk h1 h2
 ·exact .inr ⟨rfl,h1⟩

def cutQ (J:Env→World→Prop) (Q:Exit→Env→World→Prop):Exit→Env→World→Prop
 | .normal,l,w=>J l w
 | e,l,w=>Q e l w

theorem zmb {P:Program} {n:Nat} {c x y:Code} {Q:Exit→Env→World→Prop} {l:Env} {w:World} (hc:c= .seq x y)
    (J:Env→World→Prop) (h:WpE P n x (cutQ (fun l w=>∃ l',Sub l l'∧J l' w) Q) l w) (hy:∀ l w,J l w→WpE P n y Q l w):WpE P n c Q l w :=
 zf hc (z8m (fun e l w hq=>by
  cases e with
  | normal=>obtain⟨l',hs,h'⟩:=hq; exact zAk hs (hy _ _ h')
  | _=>exact hq) h)

theorem zS {P:Program} {n:Nat} {c:Code} {Q:Exit→Env→World→Prop} {l:Env} {w:World} (hc:c= .skip)
    (h:Q .normal l w):WpE P n c Q l w:=by
 subst hc; exact fun t ha=>zso (zjb.mk ha h)

theorem z7b {P:Program} {n id:Nat} {c:Code} {Q:Exit→Env→World→Prop} {l:Env} {w:World} (hc:c= .exit id)
    (h:Q (.exit id) l w):WpE P n c Q l w:=by
 subst hc; exact fun t ha=>zto (zjb.mk ha h)

theorem z2 {P:Program} {n:Nat} {c:Code} {Q:Exit→Env→World→Prop} {l:Env} {w:World} (hc:c= .ret)
    (h:Q .ret l w):WpE P n c Q l w:=by
 subst hc; exact fun t ha=>zJs (zjb.mk ha h)

def zYe (id:Nat) (Q:Exit→Env→World→Prop):Exit→Env→World→Prop
 | .exit id',l,w=>bif Nat.beq id' id then Q .normal l w else Q (.exit id') l w
 | e,l,w=>Q e l w

theorem zQ {P:Program} {n id:Nat} {c x:Code} {Q:Exit→Env→World→Prop} {l:Env} {w:World} (hc:c= .block id x)
    (h:WpE P n x (zYe id Q) l w):WpE P n c Q l w:=by
 subst hc
 intro t ha
 refine z7m (z6f (h t ha) fun e a w' he=> ?_)
 rcases he.act with ⟨t',l',rfl,h1,h2⟩ | ⟨rfl,h1⟩
 ·cases e with
  | exit id' =>
   simp only [Exit.inBlock]
   simp only [zYe] at h2
   by_cases hid:id'=id
   ·subst hid
    rw [if_pos rfl]
    rw [show Nat.beq id' id'=true from by simp] at h2
    exact zjb.mk h1 h2
   ·rw [if_neg hid]
    rw [show Nat.beq id' id=false from by
     cases hb:Nat.beq id' id with
     | true=>exact absurd (Nat.eq_of_beq_eq_true hb) hid
     | false=>rfl] at h2
    exact zjb.mk h1 h2
  | _=>exact zjb.mk h1 h2
 ·exact .inr ⟨rfl,h1⟩

def zvo (l:Env):Operand→Option Value
 | .tmp s=>zSc l s
 | .const v=>some v
 | .global g=>some (.pointer (some ⟨g,0,none⟩))
 | .func f=>some (.func (.func f) #[] #[])

theorem zWj {n:Nat} {t:Array Value} {l:Env} {ds:List Deferred} (ha:zrb n t l) {x:Operand} {v:Value} (h:zvo l x=some v):Act.eval ⟨t,ds⟩ x=v:=by
 cases x with
 | tmp s=>exact ha.2 (s,v) (znc h)
 | const u=>exact Option.some.inj h
 | global g=>exact Option.some.inj h
 | func f=>exact Option.some.inj h

theorem zG {P:Program} {n:Nat} {c x y:Code} {o:Operand} {b:Bool} {Q:Exit→Env→World→Prop} {l:Env} {w:World} (hc:c= .cond o x y)
    (hb:zvo l o=some (.bool b)) (ht:b=true→WpE P n x Q l w) (hf:b=false→WpE P n y Q l w):WpE P n c Q l w:=by
 subst hc
 exact fun t ha=>z7f (zWj ha hb) (fun h=>ht h t ha) (fun h=>hf h t ha)

/-- A loop: an invariant over environments, with a number that goes down. -/
def zBk (IE:Nat→Env→World→Prop) (m:Nat) (Q:Exit→Env→World→Prop):Exit→Env→World→Prop
 | .normal,l,w=>∃ m',m'<m∧∃ l',Sub l l'∧IE m' l' w
 | e,l,w=>Q e l w

theorem zDc {P:Program} {n:Nat} {c x:Code} {Q:Exit→Env→World→Prop} {l:Env} {w:World} (hc:c= .loop x)
    (IE:Nat→Env→World→Prop) {m:Nat} {l':Env} (hs:Sub l l') (h0:IE m l' w)
    (round:∀ m l w,IE m l w→WpE P n x (zBk IE m Q) l w):WpE P n c Q l w:=by
 subst hc
 intro t ha
 have ha':=hs.agrees ha
 -- the measure: the least number for which the invariant holds
 have key:∀(a:Act) (w:World),(∃ m l,a.defers=Rnd.ds∧zrb n a.tmps l∧IE m l w)→∃ m,(∃ l,a.defers=Rnd.ds∧zrb n a.tmps l∧IE m l w)∧∀ k,k<m→¬ ∃ l,a.defers=Rnd.ds∧zrb n a.tmps l∧IE k l w:=by
  intro a w hex
  classical
  obtain⟨m,hm⟩:=hex
  induction m using Nat.strongRecOn with
  | _ m ih =>
   by_cases h:∃ k,k<m∧∃ l,a.defers=Rnd.ds∧zrb n a.tmps l∧IE k l w
   ·obtain⟨k,hk,hl⟩:=h; exact ih k hk hl
   ·exact⟨m,hm,fun k hk hl=>h ⟨k,hk,hl⟩⟩
 classical
 let μ:Act→World→Nat:=fun a w=>if h:∃ m l,a.defers=Rnd.ds∧zrb n a.tmps l∧IE m l w then Classical.choose (key a w h) else 0
 refine zuo (fun a w=>∃ m l,a.defers=Rnd.ds∧zrb n a.tmps l∧IE m l w) μ ⟨m,l',rfl,ha',h0⟩ ?_
 intro a w hI
 have hspec:=Classical.choose_spec (key a w hI)
 have hμ:μ a w=Classical.choose (key a w hI):=dif_pos hI
 rw [←hμ] at hspec
 obtain⟨⟨l1,hd1,hag1,hIE1⟩,_⟩:=hspec
 obtain⟨t1,d1⟩:=a
 simp only at hd1
 subst hd1
 refine z6f (round _ l1 w hIE1 t1 hag1) fun e a' w' he=> ?_
 rcases he.act with ⟨t',l2,rfl,h1,h2⟩ | ⟨rfl,h1⟩
 rotate_left
 ·exact .inr ⟨rfl,h1⟩
 cases e with
 | normal =>
  obtain⟨m',hm',l3,hs3,hI3⟩:=h2
  have hex:∃ m l,(⟨t',Rnd.ds⟩:Act).defers=Rnd.ds∧zrb n (⟨t',Rnd.ds⟩:Act).tmps l∧IE m l w':=⟨m',l3,rfl,hs3.agrees h1,hI3⟩
  refine⟨hex,?_⟩
  have hspec2:=Classical.choose_spec (key ⟨t',Rnd.ds⟩ w' hex)
  have hμ2:μ ⟨t',Rnd.ds⟩ w'=Classical.choose (key ⟨t',Rnd.ds⟩ w' hex):=dif_pos hex
  rw [hμ2]
  refine Nat.lt_of_le_of_lt ?_ hm'
  rcases Nat.lt_or_ge m' (Classical.choose (key ⟨t',Rnd.ds⟩ w' hex)) with hlt | hge
  ·exact absurd ⟨l3,rfl,hs3.agrees h1,hI3⟩ (hspec2.2 m' hlt)
  ·exact hge
 | _=>exact zjb.mk h1 h2

theorem zM {P:Program} {n:Nat} {y:Code} {Q:Exit→Env→World→Prop} {l:Env} {w:World} (h:Q .ret l w):seqQ P n y Q .ret l w:=h
theorem zA {id:Nat} {Q:Exit→Env→World→Prop} {l:Env} {w:World} (h:Q .ret l w):zYe id Q .ret l w:=h
theorem zF {IE:Nat→Env→World→Prop} {m:Nat} {Q:Exit→Env→World→Prop} {l:Env} {w:World} (h:Q .ret l w):zBk IE m Q .ret l w:=h
theorem zN {J:Env→World→Prop} {Q:Exit→Env→World→Prop} {l:Env} {w:World} (h:Q .ret l w):cutQ J Q .ret l w:=h
theorem zjh {P:Program} {n:Nat} {y:Code} {Q:Exit→Env→World→Prop} {id:Nat} {l:Env} {w:World} (h:Q (.exit id) l w):seqQ P n y Q (.exit id) l w:=h
theorem zCf {IE:Nat→Env→World→Prop} {m:Nat} {Q:Exit→Env→World→Prop} {id:Nat} {l:Env} {w:World} (h:Q (.exit id) l w):zBk IE m Q (.exit id) l w:=h
theorem zkh {J:Env→World→Prop} {Q:Exit→Env→World→Prop} {id:Nat} {l:Env} {w:World} (h:Q (.exit id) l w):cutQ J Q (.exit id) l w:=h
theorem zDf {id:Nat} {Q:Exit→Env→World→Prop} {l:Env} {w:World} (h:Q .normal l w):zYe id Q (.exit id) l w:=by
 show bif Nat.beq id id then Q .normal l w else Q (.exit id) l w
 rw [show Nat.beq id id=true from by simp]
 exact h
theorem zZe {id id':Nat} {Q:Exit→Env→World→Prop} {l:Env} {w:World} (hn:Nat.beq id' id=false) (h:Q (.exit id') l w):zYe id Q (.exit id') l w:=by
 show bif Nat.beq id' id then Q .normal l w else Q (.exit id') l w
 rw [hn]
 exact h

/-! ### A function's call -/
def retQ (P:Program) (fn:Func) (R:Value→World→Prop):Exit→Env→World→Prop
 | .ret,l,w | .normal,l,w=>∀ t,(∃ n,zrb n t l)→∃ v,(results fn t).run P w= .ok v w∧R v w
 | _,_,_=>False

def z8f (args:List Value):Env:=args.zipIdx.map fun p=>(p.2,p.1)

end
theorem z4 {P:Program} {f:FuncId} {fn:Func} {c:Code} {args:List Value} {w:World} {R:Value→World→Prop}
    (hf:P.funcs[f]? =some fn) (hb:fn.body=some c) (n:Nat) (hn:fn.ntmps=n) (hsz:Nat.ble args.length n=true) (l:Env) (hl:z8f args=l)
    (h:WpE P n c (retQ P fn R) l w):Calls P f args.toArray w (fun e w'=>∃ v,e= .returned v∧R v w'):=by
 refine calls_of_wp hf hb ?_
 have hsz':args.length≤n:=Nat.le_of_ble_eq_true hsz
 have hag:zrb n (args.toArray++Array.replicate (fn.ntmps - args.toArray.size) undef) l:=by
  subst hl
  refine⟨by simp; omega,fun p hp=> ?_⟩
  simp only [z8f,List.mem_map] at hp
  obtain⟨⟨v,i⟩,hm,rfl⟩:=hp
  have hi:=List.mem_zipIdx_iff_getElem?.1 hm
  simp only at hi ⊢
  have hlt:i<args.length:=(List.getElem?_eq_some_iff.1 hi).1
  rw [Array.getD_eq_getD_getElem?,Array.getElem?_append_left (by simpa using hlt)]
  simp [hi]
 refine wp_mono (h _ hag) fun e a w' he=> ?_
 rcases he with ⟨hd,l',h1,h2⟩ | ⟨_,h1⟩
 rotate_left
 ·exact h1.elim
 obtain⟨t',d'⟩:=a
 have hd:d'=[]:=hd
 subst hd
 cases e with
 | normal=>obtain⟨v,hv,hR⟩:=h2 t' ⟨n,h1⟩; exact⟨rfl,v,hv,v,rfl,hR⟩
 | ret=>obtain⟨v,hv,hR⟩:=h2 t' ⟨n,h1⟩; exact⟨rfl,v,hv,v,rfl,hR⟩
 | exit id=>exact h2.elim
 | goto id=>exact h2.elim
 | panic ch=>exact h2.elim
 | outgrown=>exact h2.elim

section
variable [Rnd]
/-! ### Inside a region -/
abbrev Gd:=List (Nat×Bool)
abbrev GEnv:=List (Nat×Gd×Value)

def zV:GEnv→Nat→Option (Gd×Value)
 | [],_=>none
 | (j,x)::r,i=>bif Nat.beq i j then some x else zV r i

def Holds (t:Array Value) (φ:Gd):Prop:=∀ p∈φ,t.getD p.1 undef= .bool p.2

structure Inv (n:Nat) (t:Array Value) (ge:GEnv):Prop where
 size:t.size=n
 ok:∀ s φ v,zV ge s=some (φ,v)→(Holds t φ→t.getD s undef=v)∧(¬ Holds t φ→t.getD s undef=undef)

def RegG (P:Program) (n:Nat) (ops:Array Oper) (Q:Exit→Act→World→Prop) (i:Nat) (ge:GEnv) (w:World):Prop :=
 ∀ t,Inv n t ge→OpsR P ops Q (List.range' i (ops.size - i)) ⟨t,Rnd.ds⟩ w

def toG (l:Env):GEnv:=l.map fun p=>(p.1,[],p.2)

theorem zCk {l:Env} {s:Nat} {φ:Gd} {v:Value}:zV (toG l) s=some (φ,v)→φ=[]∧zSc l s=some v:=by
 induction l with
 | nil=>intro h; cases h
 | cons p l ih =>
  intro h
  simp only [toG,List.map_cons,zV] at h
  unfold zSc
  cases hb:Nat.beq s p.1 with
  | true =>
   rw [hb] at h
   simp only [cond_true,Option.some.injEq,Prod.mk.injEq] at h
   exact⟨h.1.symm,by rw [←h.2]; rfl⟩
  | false =>
   rw [hb] at h
   exact ih h

theorem zrb.inv {n:Nat} {t:Array Value} {l:Env} (ha:zrb n t l):Inv n t (toG l):=by
 refine⟨ha.1,fun s φ v h=> ?_⟩
 obtain⟨rfl,h2⟩:=zCk h
 have:=ha.2 (s,v) (znc h2)
 exact⟨fun _=>this,fun hn=>absurd (fun p hp=>by cases hp) hn⟩

theorem ze {P:Program} {n id:Nat} {c:Code} {ops:Array Oper} {Q:Exit→Env→World→Prop} {l:Env} {w:World} (hc:c= .region id ops false)
    (h:RegG P n ops (zjb n Q) 0 (toG l) w):WpE P n c Q l w:=by
 subst hc
 intro t ha
 refine zzk ?_
 have:=h t ha.inv
 rwa [List.range_eq_range']

/-- The region's end: what is known of its slots. -/
theorem zj {P:Program} {n i:Nat} {ops:Array Oper} {Q:Exit→Env→World→Prop} {ge:GEnv} {w:World} (l:Env) (hi:ops.size=i)
    (hl:l.map (fun p=>zV ge p.1)=l.map (fun p=>some ([],p.2))) (h:Q .normal l w):RegG P n ops (zjb n Q) i ge w:=by
 intro t hinv
 subst hi
 rw [Nat.sub_self]
 have:zjb n Q .normal ⟨t,Rnd.ds⟩ w:=zjb.mk ⟨hinv.size,fun p hp=>by
  have:=List.map_inj_left.1 hl p hp
  exact(hinv.ok _ _ _ this).1 (fun p hp=>by cases hp)⟩ h
 unfold OpsR
 split <;> exact this

/-! #### Operations that neither read nor write memory -/
def zOd (P:Program) {α:Type}:Sem α→Option α
 | .pure a=>some a
 | .program k=>zOd P (k P)
 | .mark _ k=>zOd P k
 | _=>none

theorem zlh {P:Program} {α:Type} (s:Sem α) {a:α} (h:zOd P s=some a) (w:World):s.run P w= .ok a w:=by
 induction s with
 | pure b=>simp only [zOd,Option.some.injEq] at h; subst h; rfl
 | program k ih=>exact ih P h
 | mark m k ih=>exact ih h
 | _=>cases h

def zqe (ge:GEnv) (φ:Gd):Operand→Bool
 | .tmp s=>match zV ge s with
  | some (ψ,_)=>ψ.all fun p=>φ.any fun q=>Nat.beq p.1 q.1&&(p.2==q.2)
  | none=>false
 | _=>true

def rho (ge:GEnv):Operand→Value
 | .tmp s=>match zV ge s with
  | some (_,v)=>v
  | none=>undef
 | .const v=>v
 | .global g=> .pointer (some ⟨g,0,none⟩)
 | .func f=> .func (.func f) #[] #[]

theorem zEb {n:Nat} {t:Array Value} {ge:GEnv} {φ:Gd} (hinv:Inv n t ge) (hφ:Holds t φ) {x:Operand} (h:zqe ge φ x=true) :
    Act.eval ⟨t,Rnd.ds⟩ x=rho ge x:=by
 cases x with
 | tmp s =>
  simp only [zqe] at h
  simp only [rho,Act.eval]
  cases hg:zV ge s with
  | none=>rw [hg] at h; cases h
  | some pv =>
   obtain⟨ψ,v⟩:=pv
   rw [hg] at h
   refine(hinv.ok s ψ v hg).1 fun p hp=> ?_
   have:=List.all_eq_true.1 h p hp
   obtain⟨q,hq,he⟩:=List.any_eq_true.1 this
   simp only [Bool.and_eq_true,beq_iff_eq] at he
   have h1:p.1=q.1:=Nat.eq_of_beq_eq_true he.1
   have h2:=he.2
   have:=hφ q hq
   rw [h1,h2]; exact this
 | const u=>rfl
 | global g=>rfl
 | func f=>rfl

def zoc:Op→Bool
 | .select .. =>false
 | .defer .. =>false
 | _=>true

theorem znf {o:Oper} (h:zoc o.op=true):∀ cs b,o.op≠ .select cs b:=by
 intro cs b he
 rw [he] at h
 cases h
theorem z0e {o:Oper} (h:zoc o.op=true):∀ c,o.op≠ .defer c:=by
 intro cs he
 rw [he] at h
 cases h
theorem z2h {P:Program} {o:Oper} {ρ:Operand→Value} {w w':World} {v:Value} (h:(execOp ρ o).run P w= .ok (.value v) w'):∀ c,o.op≠ .defer c:=by
 intro c he
 unfold execOp at h
 rw [he] at h
 simp only [Sem.run_bind] at h
 cases hr:(resolve ρ c o.type).run P w with
 | ok d w1=>rw [hr] at h; simp [Result.andThen,Sem.run_pure] at h
 | halt x w1=>rw [hr] at h; simp [Result.andThen] at h

def zEf (ge:GEnv) (d:Nat):Bool:=ge.all fun e=>e.2.1.all fun p=> !Nat.beq p.1 d

theorem z3h {ge:GEnv} {d:Nat} (h:zEf ge d=true) {s:Nat} {φ:Gd} {v:Value} (hg:zV ge s=some (φ,v)):∀ p∈φ,p.1≠d:=by
 induction ge with
 | nil=>cases hg
 | cons e ge ih =>
  simp only [zEf,List.all_cons,Bool.and_eq_true] at h
  obtain⟨j,x⟩:=e
  simp only [zV] at hg
  cases hb:Nat.beq s j with
  | true =>
   rw [hb] at hg
   simp only [cond_true,Option.some.injEq] at hg
   intro p hp hpd
   have h1:=h.1
   simp only [hg] at h1
   have:=List.all_eq_true.1 h1 p hp
   subst hpd
   simp at this
  | false =>
   rw [hb] at hg
   exact ih h.2 hg

theorem Holds.put {t:Array Value} {φ:Gd} {d:Nat} {v:Value} (hd:∀ p∈φ,p.1≠d):Holds (t.setIfInBounds d v) φ↔Holds t φ:=by
 have:∀ p∈φ,(t.setIfInBounds d v).getD p.1 undef=t.getD p.1 undef:=fun p hp=>by
  rw [Array.getD_eq_getD_getElem?,Array.getD_eq_getD_getElem?,Array.getElem?_setIfInBounds_ne (fun h=>hd p hp h.symm)]
 exact⟨fun h p hp=>(this p hp) ▸ h p hp,fun h p hp=>(this p hp).trans (h p hp)⟩

/-- One slot is written: its value is known under the guards φ, and is 'undef' where they fail. -/
theorem Inv.put {n:Nat} {t:Array Value} {ge:GEnv} {d:Nat} {φ:Gd} {v u:Value} (hinv:Inv n t ge) (hd:Nat.blt d n=true) (hf:zEf ge d=true)
    (hφd:∀ p∈φ,p.1≠d) (h1:Holds t φ→u=v) (h2:¬ Holds t φ→u=undef):Inv n (t.setIfInBounds d u) ((d,φ,v)::ge):=by
 have hlt:d<t.size:=by rw [hinv.size]; simpa [Nat.blt_eq] using hd
 refine⟨by simpa using hinv.size,fun s ψ x hg=> ?_⟩
 simp only [zV] at hg
 cases hb:Nat.beq s d with
 | true =>
  rw [hb] at hg
  have:s=d:=Nat.eq_of_beq_eq_true hb
  subst this
  simp only [cond_true,Option.some.injEq,Prod.mk.injEq] at hg
  obtain⟨rfl,rfl⟩:=hg
  have e:(t.setIfInBounds s u).getD s undef=u:=by
   rw [Array.getD_eq_getD_getElem?,Array.getElem?_setIfInBounds_self_of_lt hlt]; rfl
  rw [e,Holds.put hφd]
  exact⟨h1,h2⟩
 | false =>
  rw [hb] at hg
  simp only [cond_false] at hg
  have hne:s≠d:=fun h=>by rw [h] at hb; simp at hb
  have e:(t.setIfInBounds d u).getD s undef=t.getD s undef:=by
   rw [Array.getD_eq_getD_getElem?,Array.getD_eq_getD_getElem?,Array.getElem?_setIfInBounds_ne (fun h=>hne h.symm)]
  rw [e,Holds.put (z3h hf hg)]
  exact hinv.ok _ _ _ hg

def zXj (a b:Operand) (va vb:Value):Value→Option Value
 | .bool x=>match a,b with
  | .const (.bool true),_=>match vb with
   | .bool y=>some (.bool (x||y))
   | _=>none
  | _,.const (.bool false)=>match va with
   | .bool y=>some (.bool (x&&y))
   | _=>none
  | _,_=>none
 | _=>none

/-- The guards of an operation: those of the slot that it names, and that one. -/
def ogd (ops:Array Oper) (ge:GEnv) (o:Oper):Option Gd :=
 match o.guard with
 | none=>some []
 | some (j,want)=>match (ops[j]?).bind (·.dst) with
  | none=>none
  | some s=>match zV ge s with
   | none=>none
   | some (ψ,_)=>some ((s,want)::ψ)

def isB (want:Bool):Value→Bool
 | .bool c=>c==want
 | _=>false

def isNo (want:Bool):Value→Bool
 | .bool c=>c== !want
 | .tuple _=>true
 | _=>false

/-- Is the guard of an operation known to say 'want' or not? -/
def z4h (ops:Array Oper) (ge:GEnv) (o:Oper) (yes:Bool):Bool :=
 match o.guard with
 | none=>yes
 | some (j,want)=>match (ops[j]?).bind (·.dst) with
  | none=>false
  | some s=>match zV ge s with
   | some ([],v)=>bif yes then isB want v else isNo want v
   | some _=>false
   | none=>false

def ogd2 (ops:Array Oper) (ge:GEnv) (o:Oper):Option Gd:=bif z4h ops ge o true then some [] else none

def z4d (P:Program) (ge:GEnv) (o:Oper):Option Value :=
 match zOd P (execOp (rho ge) o) with
 | some (.value v)=>some v
 | _=>none

inductive Mode where
 | plain | pick | sure | skip | spick

def z5h (P:Program) (n:Nat) (ops:Array Oper) (m:Mode) (i:Nat) (ge:GEnv):Option GEnv :=
 match ops[i]? with
 | none=>none
 | some o=>match o.dst with
  | none=>none
  | some d=>bif Nat.blt d n&&zEf ge d then
      match m with
      | .skip=>bif z4h ops ge o false then some ((d,[],undef)::ge) else none
      | .sure=>bif z4h ops ge o true&&zoc o.op&&o.op.operands.toList.all (zqe ge []) then
          match z4d P ge o with
          | some v=>some ((d,[],v)::ge)
          | none=>none
       else none
      | .plain=>match ogd ops ge o with
       | none=>none
       | some φ=>bif φ.all (fun p=> !Nat.beq p.1 d)&&zoc o.op&&o.op.operands.toList.all (zqe ge φ) then
           match z4d P ge o with
           | some v=>some ((d,φ,v)::ge)
           | none=>none
        else none
      | .pick=>match o.op with
       | .pick (.tmp s) a b=>match ogd ops ge o with
        | none=>none
        | some φ=>bif φ.all (fun p=> !Nat.beq p.1 d)&&zqe ge φ (.tmp s)&&zqe ge ((s,true)::φ) a&&zqe ge ((s,false)::φ) b then
            match zXj a b (rho ge a) (rho ge b) (rho ge (.tmp s)) with
            | some v=>some ((d,φ,v)::ge)
            | none=>none
         else none
       | _=>none
      | .spick=>match o.op with
       | .pick (.tmp s) a b=>match ogd2 ops ge o with
        | none=>none
        | some φ=>bif φ.all (fun p=> !Nat.beq p.1 d)&&zqe ge φ (.tmp s)&&zqe ge ((s,true)::φ) a&&zqe ge ((s,false)::φ) b then
            match zXj a b (rho ge a) (rho ge b) (rho ge (.tmp s)) with
            | some v=>some ((d,φ,v)::ge)
            | none=>none
         else none
       | _=>none
   else none

def zOb (P:Program) (n:Nat) (ops:Array Oper):List Mode→Nat→GEnv→Option GEnv
 | [],_,ge=>some ge
 | m::ms,i,ge=>match z5h P n ops m i ge with
  | some ge'=>zOb P n ops ms (i+1) ge'
  | none=>none

theorem z5 {ops:Array Oper} {t:Array Value} {j s:Nat} (hs:(ops[j]?).bind (·.dst)=some s) (b:Bool) :
    yielded ops t j=some b↔t.getD s undef= .bool b:=by
 unfold yielded
 rw [hs]
 simp only [Option.bind_some,Array.getD_eq_getD_getElem?]
 cases h:t[s]? with
 | none=>simp [undef]
 | some v=>cases v <;> simp [undef]

theorem zFf {n:Nat} {ops:Array Oper} {t:Array Value} {ge:GEnv} (hinv:Inv n t ge) {o:Oper} {φ:Gd} (h:ogd ops ge o=some φ) :
    (Region.wanted o (yielded ops t)=true↔Holds t φ):=by
 unfold ogd at h
 unfold Region.wanted
 cases hg:o.guard with
 | none=>rw [hg] at h; simp only [Option.some.injEq] at h; subst h; simp [Holds]
 | some jw =>
  obtain⟨j,want⟩:=jw
  rw [hg] at h
  simp only at h ⊢
  cases hs:(ops[j]?).bind (·.dst) with
  | none=>rw [hs] at h; cases h
  | some s =>
   rw [hs] at h
   simp only at h
   cases hf:zV ge s with
   | none=>rw [hf] at h; cases h
   | some pv =>
    obtain⟨ψ,v⟩:=pv
    rw [hf] at h
    simp only [Option.some.injEq] at h
    subst h
    rw [beq_iff_eq,z5 hs]
    constructor
    ·intro hb p hp
     rcases List.mem_cons.1 hp with rfl | hp
     ·exact hb
     ·by_cases hh:Holds t ψ
      ·exact hh p hp
      ·have:=(hinv.ok s ψ v hf).2 hh
       rw [this] at hb
       cases hb
    ·intro hh
     exact hh (s,want) (List.mem_cons_self ..)

theorem z6 {n:Nat} {ops:Array Oper} {t:Array Value} {ge:GEnv} (hinv:Inv n t ge) {o:Oper} {yes:Bool} (h:z4h ops ge o yes=true) :
    Region.wanted o (yielded ops t)=yes:=by
 unfold z4h at h
 unfold Region.wanted
 cases hg:o.guard with
 | none=>rw [hg] at h; simp only at h ⊢; exact h.symm
 | some jw =>
  obtain⟨j,want⟩:=jw
  rw [hg] at h
  simp only at h ⊢
  cases hs:(ops[j]?).bind (·.dst) with
  | none=>rw [hs] at h; cases h
  | some s =>
   rw [hs] at h
   simp only at h
   cases hf:zV ge s with
   | none=>rw [hf] at h; cases h
   | some pv =>
    obtain⟨ψ,v⟩:=pv
    rw [hf] at h
    cases ψ with
    | cons a b=>simp only at h; cases h
    | nil =>
     simp only at h
     have hv:=(hinv.ok s [] v hf).1 (fun p hp=>by cases hp)
     cases yes with
     | true =>
      simp only [cond_true] at h
      cases v <;> simp only [isB] at h <;> try (cases h; done)
      rename_i c
      have hc:=beq_iff_eq.1 h
      subst hc
      have hy:=(z5 hs _).2 hv
      rw [hy]
      simp
     | false =>
      simp only [cond_false] at h
      cases v <;> simp only [isNo] at h <;> try (cases h; done)
      ·rename_i c
       have hc:=beq_iff_eq.1 h
       subst hc
       have hy:=(z5 hs _).2 hv
       rw [hy]
       cases want <;> rfl
      ·rename_i vs
       have hy:yielded ops t j≠some want:=fun hy=>by
        have:=(z5 hs _).1 hy
        rw [hv] at this
        cases this
       simpa using hy

theorem z6h {n:Nat} {ops:Array Oper} {t:Array Value} {ge:GEnv} (hinv:Inv n t ge) {o:Oper} {φ:Gd} (h:ogd2 ops ge o=some φ) :
    (Region.wanted o (yielded ops t)=true↔Holds t φ):=by
 unfold ogd2 at h
 cases hg:z4h ops ge o true with
 | true =>
  rw [hg] at h
  simp only [cond_true,Option.some.injEq] at h
  subst h
  exact⟨fun _ p hp=>(by cases hp),fun _=>z6 hinv hg⟩
 | false=>rw [hg] at h; cases h

theorem zwd {i k:Nat} (h:i<k):List.range' i (k - i)=i::List.range' (i+1) (k - (i+1)):=by
 have:k - i=(k - (i+1))+1:=O_
 rw [this,List.range'_succ]

theorem getElem?_lt {ops:Array Oper} {i:Nat} {o:Oper} (h:ops[i]? =some o):i<ops.size:=by
 rcases Nat.lt_or_ge i ops.size with h' | h'
 ·exact h'
 ·rw [Array.getElem?_eq_none h'] at h; cases h

theorem z7h {P:Program} {ops:Array Oper} {Q:Exit→Act→World→Prop} {i d:Nat} {o:Oper} {t:Array Value} {w w':World} {v:Value} (ho:ops[i]? =some o)
    (hd:o.dst=some d) (hw:Region.wanted o (yielded ops t)=true) (hr:(execOp (Act.eval ⟨t,Rnd.ds⟩) o).run P w= .ok (.value v) w')
    (h:OpsR P ops Q (List.range' (i+1) (ops.size - (i+1))) ⟨t.setIfInBounds d v,Rnd.ds⟩ w'):OpsR P ops Q (List.range' i (ops.size - i)) ⟨t,Rnd.ds⟩ w:=by
 rw [zwd (getElem?_lt ho)]
 unfold OpsR at h ⊢
 split at h
 ·simp only [wpOpsIn,ho]
  rw [if_pos hw]
  refine⟨fun _ _=>trivial,?_⟩
  rw [Oper.semAt_eq _ _ _ (z2h hr),hr]
  show wpOpsIn _ 0 P ops Q _ (Act.put ⟨t,Rnd.ds⟩ o.dst v) w'
  rw [hd]
  exact h
 ·simp only [wpOps,ho]
  rw [if_pos hw]
  refine .inl ?_
  unfold Oper.wp
  rw [hr]
  show wpOps P ops Q _ (Act.put ⟨t,Rnd.ds⟩ o.dst v) w'
  rw [hd]
  exact h

theorem z9f {P:Program} {ops:Array Oper} {Q:Exit→Act→World→Prop} {i d:Nat} {o:Oper} {t:Array Value} {w:World} (ho:ops[i]? =some o)
    (hd:o.dst=some d) (hw:Region.wanted o (yielded ops t)=false)
    (h:OpsR P ops Q (List.range' (i+1) (ops.size - (i+1))) ⟨t.setIfInBounds d undef,Rnd.ds⟩ w):OpsR P ops Q (List.range' i (ops.size - i)) ⟨t,Rnd.ds⟩ w:=by
 rw [zwd (getElem?_lt ho)]
 unfold OpsR at h ⊢
 split at h
 ·simp only [wpOpsIn,ho]
  rw [hw,if_neg D_]
  refine⟨fun _ _=>trivial,?_⟩
  show wpOpsIn _ 0 P ops Q _ (Act.put ⟨t,Rnd.ds⟩ o.dst undef) w
  rw [hd]
  exact h
 ·simp only [wpOps,ho]
  rw [hw,if_neg D_]
  show wpOps P ops Q _ (Act.put ⟨t,Rnd.ds⟩ o.dst undef) w
  rw [hd]
  exact h

theorem z1e {P:Program} {ge:GEnv} {o:Oper} {v:Value} (h:z4d P ge o=some v) (w:World):(execOp (rho ge) o).run P w= .ok (.value v) w:=by
 unfold z4d at h
 split at h
 ·rename_i u hu
  simp only [Option.some.injEq] at h
  subst h
  exact zlh _ hu w
 ·cases h

theorem zEc {n:Nat} {t:Array Value} {ge:GEnv} {φ:Gd} (hinv:Inv n t ge) (hφ:Holds t φ) {o:Oper} (hsel:zoc o.op=true)
    (hav:o.op.operands.toList.all (zqe ge φ)=true):execOp (Act.eval ⟨t,Rnd.ds⟩) o=execOp (rho ge) o :=
 execOp_congr o (znf hsel) fun x hx=>zEb hinv hφ (List.all_eq_true.1 hav x (by simpa using hx))

theorem zxb {c:Bool} {α:Type} {x:Option α} {y:α} (h:(bif c then x else none)=some y):c=true∧x=some y:=by
 cases c
 ·cases h
 ·exact⟨rfl,h⟩

/-- One step: a value is put into its slot, or the operation is passed over. -/
structure zag (P:Program) (ops:Array Oper) (i:Nat) (X X':Array Value→Prop) (D:Nat→Prop):Prop where
 value:∀ {d:Nat} {o:Oper} {t:Array Value} {v:Value},ops[i]? =some o→o.dst=some d→D d→Region.wanted o (yielded ops t)=true →
  (∀ w,(execOp (Act.eval ⟨t,Rnd.ds⟩) o).run P w= .ok (.value v) w)→X' (t.setIfInBounds d v)→X t
 skip:∀ {d:Nat} {o:Oper} {t:Array Value},ops[i]? =some o→o.dst=some d→D d→Region.wanted o (yielded ops t)=false →
  X' (t.setIfInBounds d undef)→X t

/-- What steps from operation to operation: a value is put into its slot, or the operation is passed over. -/
structure zxd (P:Program) (ops:Array Oper) (X:Nat→Array Value→Prop):Prop where
 value:∀ {i d:Nat} {o:Oper} {t:Array Value} {v:Value},ops[i]? =some o→o.dst=some d→Region.wanted o (yielded ops t)=true →
  (∀ w,(execOp (Act.eval ⟨t,Rnd.ds⟩) o).run P w= .ok (.value v) w)→X (i+1) (t.setIfInBounds d v)→X i t
 skip:∀ {i d:Nat} {o:Oper} {t:Array Value},ops[i]? =some o→o.dst=some d→Region.wanted o (yielded ops t)=false →
  X (i+1) (t.setIfInBounds d undef)→X i t

theorem zxd.at {P:Program} {ops:Array Oper} {X:Nat→Array Value→Prop} (h:zxd P ops X) (i:Nat) (D:Nat→Prop):zag P ops i (X i) (X (i+1)) D :=
 ⟨fun ho hd _ hw hr hx=>h.value ho hd hw hr hx,fun ho hd _ hw hx=>h.skip ho hd hw hx⟩

theorem lawG {P:Program} {ops:Array Oper} {Q:Exit→Act→World→Prop} {w:World} :
    zxd P ops (fun i t=>OpsR P ops Q (List.range' i (ops.size - i)) ⟨t,Rnd.ds⟩ w) :=
 ⟨fun ho hd hw hr h=>z7h ho hd hw (hr w) h,fun ho hd hw h=>z9f ho hd hw h⟩

def RegX (X:Nat→Array Value→Prop) (n i:Nat) (ge:GEnv):Prop:=∀ t,Inv n t ge→X i t

theorem zhe {P:Program} {n:Nat} {ops:Array Oper} {i:Nat} {X X':Array Value→Prop} (law:zag P ops i X X' (fun d=>d<n)) {m:Mode} {ge ge':GEnv}
    (h:z5h P n ops m i ge=some ge') (hn:∀ t,Inv n t ge'→X' t):∀ t,Inv n t ge→X t:=by
 intro t hinv
 unfold z5h at h
 cases ho:ops[i]? with
 | none=>rw [ho] at h; cases h
 | some o =>
  rw [ho] at h
  simp only at h
  cases hd:o.dst with
  | none=>rw [hd] at h; cases h
  | some d =>
   rw [hd] at h
   simp only at h
   obtain⟨hc,h⟩:=zxb h
   simp only [Bool.and_eq_true] at hc
   obtain⟨hdn,hfree⟩:=hc
   have hdl:d<n:=by simpa [Nat.blt_eq] using hdn
   cases m with
   | skip =>
    simp only at h
    obtain⟨hs,h⟩:=zxb h
    simp only [Option.some.injEq] at h
    subst h
    exact law.skip ho hd hdl (z6 hinv hs) (hn _ (hinv.put hdn hfree (fun p hp=>by cases hp) (fun _=>rfl) (fun hh=>absurd (fun p hp=>by cases hp) hh)))
   | sure =>
    simp only at h
    obtain⟨hs,h⟩:=zxb h
    simp only [Bool.and_eq_true] at hs
    cases hp:z4d P ge o with
    | none=>rw [hp] at h; cases h
    | some v =>
     rw [hp] at h
     simp only [Option.some.injEq] at h
     subst h
     have hH:Holds t []:=fun p hp=>by cases hp
     refine law.value (v:=v) ho hd hdl (z6 hinv hs.1.1) (fun w=> ?_) (hn _ (hinv.put (v:=v) (u:=v) hdn hfree (fun p hp=>by cases hp) (fun _=>rfl) (fun hh=>absurd hH hh)))
     rw [zEc hinv hH hs.1.2 hs.2]
     exact z1e hp w
   | plain =>
    simp only at h
    cases hφ:ogd ops ge o with
    | none=>rw [hφ] at h; cases h
    | some φ =>
     rw [hφ] at h
     simp only at h
     obtain⟨hs,h⟩:=zxb h
     simp only [Bool.and_eq_true] at hs
     cases hp:z4d P ge o with
     | none=>rw [hp] at h; cases h
     | some v =>
      rw [hp] at h
      simp only [Option.some.injEq] at h
      subst h
      have hφd:∀ p∈φ,p.1≠d:=fun p hp hpd=>by
       have:=List.all_eq_true.1 hs.1.1 p hp
       subst hpd
       simp at this
      have hw:=zFf (ops:=ops) hinv hφ
      by_cases hH:Holds t φ
      ·refine law.value (v:=v) ho hd hdl (hw.2 hH) (fun w=> ?_) (hn _ (hinv.put (v:=v) (u:=v) hdn hfree hφd (fun _=>rfl) (fun hh=>absurd hH hh)))
       rw [zEc hinv hH hs.1.2 hs.2]
       exact z1e hp w
      ·have hw':Region.wanted o (yielded ops t)=false:=by
         cases hb:Region.wanted o (yielded ops t) with
         | true=>exact absurd (hw.1 hb) hH
         | false=>rfl
       exact law.skip ho hd hdl hw' (hn _ (hinv.put hdn hfree hφd (fun hh=>absurd hh hH) (fun _=>rfl)))
   | pick =>
    simp only at h
    split at h
    ·rename_i s a b hop
     cases hφ:ogd ops ge o with
     | none=>rw [hφ] at h; cases h
     | some φ =>
      rw [hφ] at h
      simp only at h
      obtain⟨hs,h⟩:=zxb h
      simp only [Bool.and_eq_true] at hs
      cases hp:zXj a b (rho ge a) (rho ge b) (rho ge (.tmp s)) with
      | none=>rw [hp] at h; cases h
      | some v =>
       rw [hp] at h
       simp only [Option.some.injEq] at h
       subst h
       have hφd:∀ p∈φ,p.1≠d:=fun p hp hpd=>by
        have:=List.all_eq_true.1 hs.1.1.1 p hp
        subst hpd
        simp at this
       have hw:=zFf (ops:=ops) hinv hφ
       by_cases hH:Holds t φ
       ·refine law.value ho hd hdl (hw.2 hH) (v:=v) (fun w=> ?_) (hn _ (hinv.put (v:=v) (u:=v) hdn hfree hφd (fun _=>rfl) (fun hh=>absurd hH hh)))
        have hcv:=zEb hinv hH hs.1.1.2
        have hexec:execOp (Act.eval ⟨t,Rnd.ds⟩) o=(do pure (.value (if ←asBool (Act.eval ⟨t,Rnd.ds⟩ (.tmp s)) then Act.eval ⟨t,Rnd.ds⟩ a else Act.eval ⟨t,Rnd.ds⟩ b)):Sem Next):=by
         unfold execOp; rw [hop]
        rw [hexec,hcv]
        generalize hx:rho ge (.tmp s)=vc at hp hcv
        cases vc <;> simp only [zXj] at hp <;> try (cases hp; done)
        rename_i x
        have hev:Act.eval ⟨t,Rnd.ds⟩ (.tmp s)= .bool x:=hcv
        have hHs:Holds t ((s,x)::φ):=fun p hp=>by
         rcases List.mem_cons.1 hp with rfl | hp
         ·exact hev
         ·exact hH p hp
        have hA:x=true→Act.eval ⟨t,Rnd.ds⟩ a=rho ge a:=fun hxt=>by subst hxt; exact zEb hinv hHs hs.1.2
        have hB:x=false→Act.eval ⟨t,Rnd.ds⟩ b=rho ge b:=fun hxt=>by subst hxt; exact zEb hinv hHs hs.2
        have goal:(if x then Act.eval ⟨t,Rnd.ds⟩ a else Act.eval ⟨t,Rnd.ds⟩ b)=v:=by
         split at hp
         ·rename_i a' b'
          cases hvb:rho ge b with
          | bool y =>
           rw [hvb] at hp
           simp only [Option.some.injEq] at hp
           subst hp
           cases x with
           | true=>rfl
           | false=>simp only [Bool.false_eq_true,if_false,Bool.false_or]; rw [hB rfl,hvb]
          | _=>rw [hvb] at hp; cases hp
         ·cases hva:rho ge a with
          | bool y =>
           rw [hva] at hp
           simp only [Option.some.injEq] at hp
           subst hp
           cases x with
           | true=>simp only [if_true,Bool.true_and]; rw [hA rfl,hva]
           | false=>rfl
          | _=>rw [hva] at hp; cases hp
         ·cases hp
        rw [←goal]
        rfl
       ·have hw':Region.wanted o (yielded ops t)=false:=by
          cases hb:Region.wanted o (yielded ops t) with
          | true=>exact absurd (hw.1 hb) hH
          | false=>rfl
        exact law.skip ho hd hdl hw' (hn _ (hinv.put hdn hfree hφd (fun hh=>absurd hh hH) (fun _=>rfl)))
    ·cases h
   | spick =>
    simp only at h
    split at h
    ·rename_i s a b hop
     cases hφ:ogd2 ops ge o with
     | none=>rw [hφ] at h; cases h
     | some φ =>
      rw [hφ] at h
      simp only at h
      obtain⟨hs,h⟩:=zxb h
      simp only [Bool.and_eq_true] at hs
      cases hp:zXj a b (rho ge a) (rho ge b) (rho ge (.tmp s)) with
      | none=>rw [hp] at h; cases h
      | some v =>
       rw [hp] at h
       simp only [Option.some.injEq] at h
       subst h
       have hφd:∀ p∈φ,p.1≠d:=fun p hp hpd=>by
        have:=List.all_eq_true.1 hs.1.1.1 p hp
        subst hpd
        simp at this
       have hw:=z6h (ops:=ops) hinv hφ
       by_cases hH:Holds t φ
       ·refine law.value ho hd hdl (hw.2 hH) (v:=v) (fun w=> ?_) (hn _ (hinv.put (v:=v) (u:=v) hdn hfree hφd (fun _=>rfl) (fun hh=>absurd hH hh)))
        have hcv:=zEb hinv hH hs.1.1.2
        have hexec:execOp (Act.eval ⟨t,Rnd.ds⟩) o=(do pure (.value (if ←asBool (Act.eval ⟨t,Rnd.ds⟩ (.tmp s)) then Act.eval ⟨t,Rnd.ds⟩ a else Act.eval ⟨t,Rnd.ds⟩ b)):Sem Next):=by
         unfold execOp; rw [hop]
        rw [hexec,hcv]
        generalize hx:rho ge (.tmp s)=vc at hp hcv
        cases vc <;> simp only [zXj] at hp <;> try (cases hp; done)
        rename_i x
        have hev:Act.eval ⟨t,Rnd.ds⟩ (.tmp s)= .bool x:=hcv
        have hHs:Holds t ((s,x)::φ):=fun p hp=>by
         rcases List.mem_cons.1 hp with rfl | hp
         ·exact hev
         ·exact hH p hp
        have hA:x=true→Act.eval ⟨t,Rnd.ds⟩ a=rho ge a:=fun hxt=>by subst hxt; exact zEb hinv hHs hs.1.2
        have hB:x=false→Act.eval ⟨t,Rnd.ds⟩ b=rho ge b:=fun hxt=>by subst hxt; exact zEb hinv hHs hs.2
        have goal:(if x then Act.eval ⟨t,Rnd.ds⟩ a else Act.eval ⟨t,Rnd.ds⟩ b)=v:=by
         split at hp
         ·rename_i a' b'
          cases hvb:rho ge b with
          | bool y =>
           rw [hvb] at hp
           simp only [Option.some.injEq] at hp
           subst hp
           cases x with
           | true=>rfl
           | false=>simp only [Bool.false_eq_true,if_false,Bool.false_or]; rw [hB rfl,hvb]
          | _=>rw [hvb] at hp; cases hp
         ·cases hva:rho ge a with
          | bool y =>
           rw [hva] at hp
           simp only [Option.some.injEq] at hp
           subst hp
           cases x with
           | true=>simp only [if_true,Bool.true_and]; rw [hA rfl,hva]
           | false=>rfl
          | _=>rw [hva] at hp; cases hp
         ·cases hp
        rw [←goal]
        rfl
       ·have hw':Region.wanted o (yielded ops t)=false:=by
          cases hb:Region.wanted o (yielded ops t) with
          | true=>exact absurd (hw.1 hb) hH
          | false=>rfl
        exact law.skip ho hd hdl hw' (hn _ (hinv.put hdn hfree hφd (fun hh=>absurd hh hH) (fun _=>rfl)))
    ·cases h

theorem z8h {P:Program} {n:Nat} {ops:Array Oper} {X:Nat→Array Value→Prop} (law:zxd P ops X) {m:Mode} {i:Nat} {ge ge':GEnv}
    (h:z5h P n ops m i ge=some ge') (hn:RegX X n (i+1) ge'):RegX X n i ge:=zhe (law.at i _) h hn

theorem z8b {P:Program} {n:Nat} {ops:Array Oper} {X:Nat→Array Value→Prop} (law:zxd P ops X):∀(ms:List Mode) (i:Nat) (ge ge':GEnv),
    zOb P n ops ms i ge=some ge'→RegX X n (i+ms.length) ge'→RegX X n i ge
 | [],i,ge,ge',h,hn=>by simp only [zOb,Option.some.injEq] at h; subst h; exact hn
 | m::ms,i,ge,ge',h,hn=>by
  simp only [zOb] at h
  cases h1:z5h P n ops m i ge with
  | none=>rw [h1] at h; cases h
  | some g1 =>
   rw [h1] at h
   exact z8h law h1 (z8b law ms (i+1) g1 ge' h (by rw [List.length_cons] at hn; rwa [Nat.add_assoc,Nat.add_comm 1]))

theorem Inv.prune {n:Nat} {t:Array Value} {ge ge':GEnv} (hinv:Inv n t ge) (h:ge'.map (fun p=>zV ge p.1)=ge'.map (fun p=>some p.2)):Inv n t ge':=by
 refine⟨hinv.size,fun s φ v hg=> ?_⟩
 have hmem:∀ {g:GEnv} {s:Nat} {x:Gd×Value},zV g s=some x→(s,x)∈g:=by
  intro g
  induction g with
  | nil=>intro s x h; cases h
  | cons e g ih =>
   intro s x h
   obtain⟨j,y⟩:=e
   simp only [zV] at h
   cases hb:Nat.beq s j with
   | true =>
    rw [hb] at h
    have:s=j:=Nat.eq_of_beq_eq_true hb
    subst this
    simp only [cond_true,Option.some.injEq] at h
    subst h
    exact List.mem_cons_self ..
   | false=>rw [hb] at h; exact List.mem_cons_of_mem _ (ih h)
 have:=List.map_inj_left.1 h _ (hmem hg)
 exact hinv.ok _ _ _ this

theorem zfj {P:Program} {n:Nat} {ops:Array Oper} {X:Nat→Array Value→Prop} (law:zxd P ops X) {i:Nat} {ge:GEnv} (ms:List Mode) (j:Nat) (ge':GEnv)
    (hj:i+ms.length=j) (h:(zOb P n ops ms i ge).map (fun g=>ge'.map (fun p=>zV g p.1))=some (ge'.map (fun p=>some p.2)))
    (hn:RegX X n j ge'):RegX X n i ge:=by
 cases hs:zOb P n ops ms i ge with
 | none=>rw [hs] at h; cases h
 | some g =>
  rw [hs] at h
  simp only [Option.map_some,Option.some.injEq] at h
  subst hj
  exact z8b law ms i ge g hs fun t hinv=>hn t (hinv.prune h)

/-- THE RULE: run operations i, i+1, .. by kernel, keep what is wanted. -/
theorem zd {P:Program} {n:Nat} {ops:Array Oper} {Q:Exit→Act→World→Prop} {i:Nat} {ge:GEnv} {w:World} (ms:List Mode) (j:Nat) (ge':GEnv)
    (hj:i+ms.length=j) (h:(zOb P n ops ms i ge).map (fun g=>ge'.map (fun p=>zV g p.1))=some (ge'.map (fun p=>some p.2)))
    (hn:RegG P n ops Q j ge' w):RegG P n ops Q i ge w:=zfj lawG ms j ge' hj h hn

/-- A Bool in a slot becomes known: entries under its guards lose them, or are nothing. -/
def zbg (s:Nat) (c:Bool) (j:Nat) (x:Gd×Value):Gd×Value :=
 bif Nat.beq j s then([],.bool c)
 else bif x.1.any (fun p=>Nat.beq p.1 s&&(p.2 != c)) then([],undef)
 else(x.1.filter (fun p=> !Nat.beq p.1 s),x.2)

def resolve (s:Nat) (c:Bool) (ge:GEnv):GEnv:=ge.map fun e=>(e.1,zbg s c e.1 e.2)

theorem zPd (s:Nat) (c:Bool):∀(ge:GEnv) (j:Nat),zV (resolve s c ge) j=(zV ge j).map (zbg s c j)
 | [],_=>rfl
 | (k,x)::r,j=>by
  simp only [resolve,List.map_cons,zV]
  cases hb:Nat.beq j k with
  | true =>
   have:j=k:=Nat.eq_of_beq_eq_true hb
   subst this
   rfl
  | false=>exact zPd s c r j

theorem z2e {n:Nat} {t:Array Value} {ge:GEnv} {s:Nat} {c:Bool} (hinv:Inv n t ge) (hs:t.getD s undef= .bool c):Inv n t (resolve s c ge):=by
 refine⟨hinv.size,fun j φ v h=> ?_⟩
 rw [zPd] at h
 cases hg:zV ge j with
 | none=>rw [hg] at h; cases h
 | some x =>
  obtain⟨φ0,v0⟩:=x
  rw [hg] at h
  simp only [Option.map_some,Option.some.injEq,zbg] at h
  have h0:=hinv.ok j φ0 v0 hg
  cases h1:Nat.beq j s with
  | true =>
   have:j=s:=Nat.eq_of_beq_eq_true h1
   subst this
   rw [h1] at h
   simp only [cond_true,Prod.mk.injEq] at h
   obtain⟨rfl,rfl⟩:=h
   exact⟨fun _=>hs,fun hn=>absurd (fun p hp=>by cases hp) hn⟩
  | false =>
   rw [h1] at h
   simp only [cond_false] at h
   cases h2:φ0.any (fun p=>Nat.beq p.1 s&&(p.2 != c)) with
   | true =>
    rw [h2] at h
    simp only [cond_true,Prod.mk.injEq] at h
    obtain⟨rfl,rfl⟩:=h
    obtain⟨p,hp,he⟩:=List.any_eq_true.1 h2
    simp only [Bool.and_eq_true,bne_iff_ne] at he
    have hps:p.1=s:=Nat.eq_of_beq_eq_true he.1
    have hnot:¬ Holds t φ0:=fun hh=>by
     have:=hh p hp
     rw [hps,hs] at this
     simp only [Value.bool.injEq] at this
     exact he.2 this.symm
    exact⟨fun _=>h0.2 hnot,fun hn=>absurd (fun p hp=>by cases hp) hn⟩
   | false =>
    rw [h2] at h
    simp only [cond_false,Prod.mk.injEq] at h
    obtain⟨rfl,rfl⟩:=h
    have hiff:Holds t (φ0.filter (fun p=> !Nat.beq p.1 s))↔Holds t φ0:=by
     constructor
     ·intro hh p hp
      cases hb:Nat.beq p.1 s with
      | false=>exact hh p (List.mem_filter.2 ⟨hp,by simp [hb]⟩)
      | true =>
       have hps:p.1=s:=Nat.eq_of_beq_eq_true hb
       have hno:(Nat.beq p.1 s&&(p.2 != c))=false:=by
        cases hx:(Nat.beq p.1 s&&(p.2 != c)) with
        | false=>rfl
        | true =>
         have:φ0.any (fun p=>Nat.beq p.1 s&&(p.2 != c))=true:=List.any_eq_true.2 ⟨p,hp,hx⟩
         rw [h2] at this; cases this
       rw [hb] at hno
       simp only [Bool.true_and,bne_eq_false_iff_eq] at hno
       rw [hps,hs,hno]
     ·intro hh p hp
      exact hh p (List.mem_filter.1 hp).1
    rw [hiff]; exact h0

theorem z5d {X:Nat→Array Value→Prop} {n i:Nat} {ge:GEnv} (s:Nat) (b:Bool)
    (hs:zV ge s=some ([],.bool b)) (ht:b=true→RegX X n i (resolve s true ge)) (hf:b=false→RegX X n i (resolve s false ge)):RegX X n i ge:=by
 intro t hinv
 have hv:=(hinv.ok s _ _ hs).1 (fun p hp=>by cases hp)
 cases b with
 | true=>exact ht rfl t (z2e hinv hv)
 | false=>exact hf rfl t (z2e hinv hv)

/-- Part on a Bool in a slot. -/
theorem zDk {P:Program} {n:Nat} {ops:Array Oper} {Q:Exit→Act→World→Prop} {i:Nat} {ge:GEnv} {w:World} (s:Nat) (b:Bool)
    (hs:zV ge s=some ([],.bool b)) (ht:b=true→RegG P n ops Q i (resolve s true ge) w) (hf:b=false→RegG P n ops Q i (resolve s false ge) w) :
    RegG P n ops Q i ge w:=z5d (X:=fun i t=>OpsR P ops Q (List.range' i (ops.size - i)) ⟨t,Rnd.ds⟩ w) s b hs ht hf

/-! #### Operations that read or write memory, and calls -/
def ex (op:Op) (ty:TypeId) (ρ:Operand→Value):Sem Next:=execOp ρ ⟨none,op,ty,"",#[],none⟩

theorem ex_eq (ρ:Operand→Value) (o:Oper):execOp ρ o=ex o.op o.type ρ:=by
 obtain⟨d,op,ty,p,a,g⟩:=o
 unfold ex execOp
 cases op <;> rfl

def opAt (n:Nat) (ops:Array Oper) (ge:GEnv) (i:Nat):Option (Op×TypeId×Option Nat) :=
 match ops[i]? with
 | none=>none
 | some o=>bif z4h ops ge o true&&zoc o.op&&o.op.operands.toList.all (zqe ge [])&&(match o.dst with
     | none=>true
     | some d=>Nat.blt d n&&zEf ge d) then some (o.op,o.type,o.dst) else none

def putG (dst:Option Nat) (v:Value) (ge:GEnv):GEnv :=
 match dst with
 | some d=>(d,[],v)::ge
 | none=>ge

def OpS (P:Program) (op:Op) (ty:TypeId) (ρ:Operand→Value) (w:World) (K:Value→World→Prop):Prop :=
 match (ex op ty ρ).run P w with
 | .ok (.value v) w'=>K v w'
 | .ok .skip w'=>K undef w'
 | .ok (.enter f args) w'=>Calls P f args w' (fun e w''=>∃ v,e= .returned v∧K v w'')
 | _=>False

theorem zyb {P:Program} {n:Nat} {ops:Array Oper} {Q:Exit→Act→World→Prop} {i:Nat} {ge:GEnv} {w:World} {op:Op} {ty:TypeId} {dst:Option Nat}
    (ho:opAt n ops ge i=some (op,ty,dst)) (h:OpS P op ty (rho ge) w (fun v w'=>RegG P n ops Q (i+1) (putG dst v ge) w')):RegG P n ops Q i ge w:=by
 intro t hinv
 unfold opAt at ho
 cases hoi:ops[i]? with
 | none=>rw [hoi] at ho; cases ho
 | some o =>
  rw [hoi] at ho
  simp only at ho
  obtain⟨hc,ho⟩:=zxb ho
  simp only [Bool.and_eq_true] at hc
  obtain⟨⟨⟨hg,hsel⟩,hav⟩,hdst⟩:=hc
  simp only [Option.some.injEq,Prod.mk.injEq] at ho
  obtain⟨hop,hty,hds⟩:=ho
  have hH:Holds t []:=fun p hp=>by cases hp
  have hexec:=zEc hinv hH hsel hav
  have hw:=z6 (ops:=ops) hinv hg
  rw [zwd (getElem?_lt hoi)]
  have hput:∀ v w',RegG P n ops Q (i+1) (putG dst v ge) w'→OpsR P ops Q (List.range' (i+1) (ops.size - (i+1))) (Act.put ⟨t,Rnd.ds⟩ o.dst v) w':=by
   intro v w' hr
   rw [hds] at hdst ⊢
   cases dst with
   | none=>exact hr t hinv
   | some d =>
    simp only [Bool.and_eq_true] at hdst
    exact hr _ (hinv.put (v:=v) (u:=v) hdst.1 hdst.2 (fun p hp=>by cases hp) (fun _=>rfl) (fun hh=>absurd hH hh))
  unfold OpsR at hput ⊢
  split
  ·rename_i hy
   simp only [hy] at hput
   simp only [wpOpsIn,hoi]
   rw [if_pos hw]
   refine⟨fun _ _=>trivial,?_⟩
   rw [Oper.semAt_eq _ _ _ (z0e hsel),hexec,ex_eq,hop,hty]
   unfold OpS at h
   generalize (ex op ty (rho ge)).run P w=r at h ⊢
   cases r with
   | halt x w'=>exact h.elim
   | ok nx w' =>
    cases nx with
    | value v=>exact hput _ _ h
    | skip=>exact hput _ _ h
    | enter f args =>
     refine⟨fun h=>(by cases h),callsIn_wide.2 (Calls.mono h ?_)⟩
     rintro e w'' ⟨v,rfl,hr⟩
     exact hput _ _ hr
    | _=>exact h.elim
  ·rename_i hy
   simp only [hy] at hput
   simp only [wpOps,hoi]
   rw [if_pos hw]
   refine .inl ?_
   unfold Oper.wp
   rw [hexec,ex_eq,hop,hty]
   unfold OpS at h
   generalize (ex op ty (rho ge)).run P w=r at h ⊢
   cases r with
   | halt x w'=>exact h.elim
   | ok nx w' =>
    cases nx with
    | value v=>exact hput _ _ h
    | skip=>exact hput _ _ h
    | enter f args =>
     refine Calls.mono h ?_
     rintro e w'' ⟨v,rfl,hr⟩
     exact hput _ _ hr
    | _=>exact h.elim

/-- An operation that the kernel runs by itself, the world a variable: new blocks, constants. -/
theorem zFc {P:Program} {n:Nat} {ops:Array Oper} {Q:Exit→Act→World→Prop} {i:Nat} {ge:GEnv} {w:World} {op:Op} {ty:TypeId} {dst:Option Nat}
    (v:Value) (w':World) (ho:opAt n ops ge i=some (op,ty,dst)) (hr:(ex op ty (rho ge)).run P w= .ok (.value v) w')
    (h:RegG P n ops Q (i+1) (putG dst v ge) w'):RegG P n ops Q i ge w :=
 zyb ho (by unfold OpS; rw [hr]; exact h)

theorem zW {P:Program} {n:Nat} {ops:Array Oper} {Q:Exit→Act→World→Prop} {i:Nat} {ge:GEnv} {w:World} {op:Op} {ty:TypeId} {dst:Option Nat}
    (f:FuncId) (args:Array Value) (ho:opAt n ops ge i=some (op,ty,dst)) (hr:∀ ww,(ex op ty (rho ge)).run P ww= .ok (.enter f args) ww)
    (h:Calls P f args w (fun e w'=>∃ v,e= .returned v∧RegG P n ops Q (i+1) (putG dst v ge) w')):RegG P n ops Q i ge w :=
 zyb ho (by unfold OpS; rw [hr]; exact h)

theorem zw {P:Program} {n:Nat} {ops:Array Oper} {Q:Exit→Act→World→Prop} {i:Nat} {ge:GEnv} {w:World} {op:Op} {ty:TypeId} {dst:Option Nat}
    (v:Value) (ho:opAt n ops ge i=some (op,ty,dst)) (hr:∀ ww,(ex op ty (rho ge)).run P ww= .ok (.value v) ww)
    (h:RegG P n ops Q (i+1) (putG dst v ge) w):RegG P n ops Q i ge w :=
 zFc v w ho (hr w) h

/-- An operation that makes one new block. -/
theorem zQb {P:Program} {n:Nat} {ops:Array Oper} {Q:Exit→Act→World→Prop} {i:Nat} {ge:GEnv} {w:World} {op:Op} {ty:TypeId} {dst:Option Nat}
    (f:Nat→Value) (o:Obj) (ho:opAt n ops ge i=some (op,ty,dst)) (hr:(ex op ty (rho ge)).run P w= .ok (.value (f w.heap.size)) { w with heap:=w.heap.push o })
    (h:∀ b w',b=w.heap.size→w'=w.alloc o→RegG P n ops Q (i+1) (putG dst (f b) ge) w'):RegG P n ops Q i ge w :=
 zFc _ _ ho hr (h _ _ rfl rfl)

theorem zH {P:Program} {n:Nat} {ops:Array Oper} {Q:Exit→Act→World→Prop} {i:Nat} {ge:GEnv} {w:World} (ge':GEnv) (he:ge=ge')
    (h:RegG P n ops Q i ge' w):RegG P n ops Q i ge w:=he ▸ h

end
section
variable [Rnd]

/-! #### Memory: what a program reads and writes -/
structure Slc where
 ptr:Option Addr
 len:Nat
 cap:Nat
abbrev Vs (s:Slc):Value:=Value.slice s.ptr s.len s.cap


def pblk (p:Option Addr):Nat:=(p.getD ⟨0,0,none⟩).block
def poff (p:Option Addr):Nat:=(p.getD ⟨0,0,none⟩).off
/-- It leads to a cell. -/
abbrev IsAt (p:Option Addr):Prop:=p=some ⟨pblk p,poff p,none⟩

def zc (w:World) (b:Nat):Nat→List Value→Prop
 | _,[]=>True
 | o,v::r=>w.cell? ⟨b,o,none⟩=some v∧zc w b (o+1) r

def zb (w:World) (b o k:Nat):Prop:=∀ i,i<k→(∃ v,w.cell? ⟨b,o+i,none⟩=some v)∧w.frozen? ⟨b,o+i,none⟩=false

def World.puts (b:Nat):Nat→List Value→World→World
 | _,[],w=>w
 | o,v::r,w=>World.puts b (o+1) r (w.setCell ⟨b,o,none⟩ v)

def zRb (P:Program) (t:TypeId):Bool :=
 match P.underlying t with
 | some (.struct _) | some (.array ..) | none=>false
 | _=>true

def aggT (P:Program) (t:TypeId):Bool :=
 match P.underlying t with
 | some (.struct _) | some (.array ..)=>true
 | _=>false

def zT (P:Program) (t:TypeId):Option Nat:=(P.info? t).map (·.size)

def oneCell:Value→Bool
 | .agg _ | .tuple _=>false
 | _=>true

def zI (vs:List Value):Bool:=vs.all oneCell

theorem zi {P:Program} {t:TypeId} {d:TypeDesc} (h:P.underlying t=some d) (w:World):(underlying t).run P w= .ok d w:=by
 simp [underlying,program,Sem.run,bind,Sem.bind,h,pure]

theorem zO {P:Program} {t:TypeId} {k:Nat} (h:zT P t=some k) (w:World):(sizeOf t).run P w= .ok k w:=by
 unfold zT at h
 cases hi:P.info? t with
 | none=>rw [hi] at h; cases h
 | some i =>
  rw [hi] at h
  simp only [Option.map_some,Option.some.injEq] at h
  simp [sizeOf,typeInfo,program,Sem.run,bind,Sem.bind,hi,pure,h]

theorem zzb {P:Program} {t:TypeId} (h:zRb P t=true) (w:World):(isAgg t).run P w= .ok false w:=by
 unfold zRb at h
 cases hu:P.underlying t with
 | none=>rw [hu] at h; cases h
 | some d =>
  rw [hu] at h
  cases d <;> first | (cases h; done) | simp [isAgg,underlying,program,Sem.run,bind,Sem.bind,hu,pure]

theorem zmd {P:Program} {t:TypeId} (h:aggT P t=true) (w:World):(isAgg t).run P w= .ok true w:=by
 unfold aggT at h
 cases hu:P.underlying t with
 | none=>rw [hu] at h; cases h
 | some d =>
  rw [hu] at h
  cases d <;> first | (cases h; done) | simp [isAgg,underlying,program,Sem.run,bind,Sem.bind,hu,pure]

theorem run_map {P:Program} {α β:Type} (f:α→β) (s:Sem α) (w:World):(Functor.map f s).run P w=match s.run P w with
      | .ok a w'=> .ok (f a) w'
      | .halt h w'=> .halt h w':=by
 show(s >>= fun a=>pure (f a)).run P w=_
 rw [Sem.run_bind]
 cases s.run P w <;> rfl

theorem run_bind' {P:Program} {α β:Type} (s:Sem α) (f:α→Sem β) (w:World) :
    (s >>= f).run P w=match s.run P w with
     | .ok a w'=>(f a).run P w'
     | .halt h w'=> .halt h w':=by
 rw [Sem.run_bind]; rfl

theorem addr_add (b o k:Nat):Addr.add ⟨b,o,none⟩ k=⟨b,o+k,none⟩:=by
 unfold Addr.add
 split
 ·rename_i h; subst h; rfl
 ·rfl

theorem zpc {P:Program} {w:World} {b o:Nat}:∀(vs:List Value) (i:Nat) (acc:Array Value),zc w b (o+i) vs →
    (loadCellsFrom ⟨b,o,none⟩ i vs.length acc).run P w= .ok (acc++vs.toArray) w
 | [],i,acc,_=>by simp [loadCellsFrom,pure,Sem.run]
 | v::vs,i,acc,h=>by
  rw [List.length_cons,loadCellsFrom,run_bind']
  have h1:(load (Addr.add ⟨b,o,none⟩ i)).run P w= .ok v w:=by
   rw [addr_add]
   simp [load,Sem.run,h.1]
  rw [h1]
  simp only
  rw [zpc vs (i+1) _ (by have:=h.2; rwa [Nat.add_assoc] at this)]
  simp

theorem zGc {P:Program} {w:World} {b o:Nat} {vs:List Value} (h:zc w b o vs) {k:Nat} (hk:vs.length=k) :
    (loadCells ⟨b,o,none⟩ k).run P w= .ok vs.toArray w:=by
 subst hk
 unfold loadCells
 rw [zpc vs 0 _ (by simpa using h)]
 simp

theorem cell?_setCell_ne {w:World} {b o o':Nat} {v:Value} (h:o≠o'):(w.setCell ⟨b,o,none⟩ v).cell? ⟨b,o',none⟩=w.cell? ⟨b,o',none⟩:=by
 unfold World.setCell World.cell?
 simp only [Array.getElem?_modify]
 simp only [if_true]
 cases w.heap[b]? with
 | none=>rfl
 | some ob=>cases ob <;> simp [Array.getElem?_setIfInBounds_ne h]

theorem frozen?_setCell {w:World} {b o:Nat} {v:Value} (a:Addr):(w.setCell ⟨b,o,none⟩ v).frozen? a=w.frozen? a:=by
 unfold World.setCell World.frozen?
 simp only [Array.getElem?_modify]
 by_cases hb:b=a.block
 ·subst hb
  simp only [if_true]
  cases w.heap[a.block]? with
  | none=>rfl
  | some ob=>cases ob <;> rfl
 ·rw [if_neg hb]

theorem zb.tail {w:World} {b o k:Nat} {v:Value} (h:zb w b o (k+1)):zb (w.setCell ⟨b,o,none⟩ v) b (o+1) k:=by
 intro i hi
 have:=h (i+1) O_
 rw [show o+(i+1)=o+1+i from by omega] at this
 rw [cell?_setCell_ne O_,frozen?_setCell]
 exact this

theorem zkb {P:Program} {b o:Nat}:∀(vs:List Value) (i:Nat) (w:World),zb w b (o+i) vs.length→zI vs=true →
    (storeCells ⟨b,o,none⟩ vs i).run P w= .ok () (World.puts b (o+i) vs w)
 | [],i,w,_,_=>by simp [storeCells,pure,Sem.run,World.puts]
 | v::vs,i,w,h,h1=>by
  simp only [zI,List.all_cons,Bool.and_eq_true] at h1
  rw [storeCells,run_bind',addr_add]
  have hw:=h 0 (by simp)
  rw [Nat.add_zero] at hw
  obtain⟨⟨u,hu⟩,hf⟩:=hw
  have hs:(store ⟨b,o+i,none⟩ v).run P w= .ok () (w.setCell ⟨b,o+i,none⟩ v):=by
   unfold store
   have hone:=h1.1
   cases v <;> first | (cases hone; done) | simp [Sem.run,hu,hf]
  rw [hs]
  simp only [World.puts]
  have:=zkb (P:=P) (b:=b) (o:=o) vs (i+1) (w.setCell ⟨b,o+i,none⟩ v) (by rw [←Nat.add_assoc]; exact zb.tail (by simpa using h)) h1.2
  rw [this,←Nat.add_assoc]

section
variable {P:Program} {n:Nat} {ops:Array Oper} {Q:Exit→Act→World→Prop} {i:Nat} {ge:GEnv} {w:World} {ty:TypeId} {dst:Option Nat}

theorem z3e {t:TypeId} {a:Operand} {b o:Nat} {v:Value} (ha:rho ge a= .pointer (some ⟨b,o,none⟩))
    (ht:zRb P t=true) (hc:w.cell? ⟨b,o,none⟩=some v):(ex (.load t a) ty (rho ge)).run P w= .ok (.value v) w:=by
 unfold ex execOp Instr.loadAt
 simp only [ha]
 simp [run_bind',Instr.sureAddr,loadVar,zzb ht,load,Sem.run,hc,pure]

theorem zB {t:TypeId} {a:Operand} {b o:Nat} {v:Value} (ho:opAt n ops ge i=some (.load t a,ty,dst)) (ha:rho ge a= .pointer (some ⟨b,o,none⟩))
    (ht:zRb P t=true) (hc:w.cell? ⟨b,o,none⟩=some v) (h:RegG P n ops Q (i+1) (putG dst v ge) w):RegG P n ops Q i ge w :=
 zyb ho (by
  unfold OpS; rw [z3e ha ht hc]; exact h)

theorem z4e {t:TypeId} {a:Operand} {b o k:Nat} {vs:List Value} (ha:rho ge a= .pointer (some ⟨b,o,none⟩))
    (ht:aggT P t=true) (hs:zT P t=some k) (hk:vs.length=k) (hc:zc w b o vs):(ex (.load t a) ty (rho ge)).run P w= .ok (.value (.agg vs.toArray)) w:=by
 subst hk
 unfold ex execOp Instr.loadAt
 simp only [ha]
 simp [run_bind',Instr.sureAddr,loadVar,zmd ht,zO hs,zGc hc rfl,Sem.run,pure]

theorem zqc {t:TypeId} {a:Operand} {b o k:Nat} (vs:List Value) (ho:opAt n ops ge i=some (.load t a,ty,dst)) (ha:rho ge a= .pointer (some ⟨b,o,none⟩))
    (ht:aggT P t=true) (hs:zT P t=some k) (hk:vs.length=k) (hc:zc w b o vs) (h:RegG P n ops Q (i+1) (putG dst (.agg vs.toArray) ge) w):RegG P n ops Q i ge w :=
 zyb ho (by
  unfold OpS; rw [z4e ha ht hs hk hc]; exact h)

theorem zmh {K:Value→World→Prop} {t:TypeId} {a x:Operand} {b o k:Nat} {vs:List Value} (ha:rho ge a= .pointer (some ⟨b,o,none⟩))
    (hx:(rho ge x).cells=vs.toArray) (hs:zT P t=some k) (hk:vs.length=k) (h1:zI vs=true) (hw:zb w b o k)
    (h:∀ w',w'=World.puts b o vs w→K undef w'):OpS P (.store t a x) ty (rho ge) w K:=by
    subst hk
    have hx:(rho ge x).cells.toList=vs:=by rw [hx]
    replace h:=h _ rfl
    have hr:(ex (.store t a x) ty (rho ge)).run P w= .ok .skip (World.puts b o vs w):=by
     unfold ex execOp Instr.storeAt
     simp only [ha]
     have hlen:(rho ge x).cells.size=vs.length:=by rw [←hx]; simp
     simp only [run_bind',Instr.sureAddr,storeVar,zO hs,Sem.run,pure,hlen,ne_eq,not_true_eq_false,if_false]
     rw [hx,zkb vs 0 w (by simpa using hw) h1]
     simp
    unfold OpS; rw [hr]; exact h
theorem zab {t:TypeId} {a x:Operand} {b o k:Nat} (vs:List Value) (ho:opAt n ops ge i=some (.store t a x,ty,dst)) (ha:rho ge a= .pointer (some ⟨b,o,none⟩))
    (hx:(rho ge x).cells=vs.toArray) (hs:zT P t=some k) (hk:vs.length=k) (h1:zI vs=true) (hw:zb w b o k)
    (h:∀ w',w'=World.puts b o vs w→RegG P n ops Q (i+1) (putG dst undef ge) w'):RegG P n ops Q i ge w :=
 zyb ho (zmh ha hx hs hk h1 hw h)

theorem z6d {t e:TypeId} {x ix:Operand} {b o l c sz:Nat} {k:IntKind} {j:Int}
    (hx:rho ge x= .slice (some ⟨b,o,none⟩) l c) (hi:rho ge ix= .int k j) (ht:P.underlying t=some (.slice e)) (hs:zT P e=some sz)
    (h0:0≤j) (h1:j<l):(ex (.indexAddr t x ix) ty (rho ge)).run P w= .ok (.value (.pointer (some ⟨b,o+j.toNat*sz,none⟩))) w:=by
 unfold ex execOp Instr.indexAt
 simp only [hx,hi]
 simp only [run_bind',asIntOf,zi ht,Sem.run,pure]
 rw [if_pos ⟨h0,h1⟩]
 simp [run_bind',zO hs,Sem.run,pure,addr_add]

theorem zrc {t e:TypeId} {x ix:Operand} {b o l c sz:Nat} {k:IntKind} {j:Int} (ho:opAt n ops ge i=some (.indexAddr t x ix,ty,dst))
    (hx:rho ge x= .slice (some ⟨b,o,none⟩) l c) (hi:rho ge ix= .int k j) (ht:P.underlying t=some (.slice e)) (hs:zT P e=some sz)
    (h0:0≤j) (h1:j<l) (h:RegG P n ops Q (i+1) (putG dst (.pointer (some ⟨b,o+j.toNat*sz,none⟩)) ge) w):RegG P n ops Q i ge w :=
 zyb ho (by
  unfold OpS; rw [z6d hx hi ht hs h0 h1]; exact h)

theorem zHc {t e:TypeId} {x ix:Operand} {b o l c:Nat} {k:IntKind} {j:Int} (ho:opAt n ops ge i=some (.indexAddr t x ix,ty,dst))
    (hx:rho ge x= .slice (some ⟨b,o,none⟩) l c) (hi:rho ge ix= .int k j) (ht:P.underlying t=some (.slice e)) (hs:zT P e=some 1)
    (h0:0≤j) (h1:j<l) (h:RegG P n ops Q (i+1) (putG dst (.pointer (some ⟨b,o+j.toNat,none⟩)) ge) w):RegG P n ops Q i ge w :=
 zrc ho hx hi ht hs h0 h1 (by simpa using h)

theorem zGf {t e:TypeId} {x ix:Operand} {b o len sz:Nat} {k:IntKind} {j:Int}
    (hx:rho ge x= .pointer (some ⟨b,o,none⟩)) (hi:rho ge ix= .int k j) (ht:P.underlying t=some (.array len e)) (hs:zT P e=some sz)
    (h0:0≤j) (h1:j<len):(ex (.indexAddr t x ix) ty (rho ge)).run P w= .ok (.value (.pointer (some ⟨b,o+j.toNat*sz,none⟩))) w:=by
 unfold ex execOp Instr.indexAt
 simp only [hx,hi]
 simp only [run_bind',asIntOf,zi ht,Sem.run,pure,Instr.sureAddr]
 rw [if_pos ⟨h0,h1⟩]
 simp [run_bind',zO hs,Sem.run,pure,addr_add]

theorem zYj {t e:TypeId} {x ix:Operand} {b o len sz:Nat} {k:IntKind} {j:Int} (ho:opAt n ops ge i=some (.indexAddr t x ix,ty,dst))
    (hx:rho ge x= .pointer (some ⟨b,o,none⟩)) (hi:rho ge ix= .int k j) (ht:P.underlying t=some (.array len e)) (hs:zT P e=some sz)
    (h0:0≤j) (h1:j<len) (h:RegG P n ops Q (i+1) (putG dst (.pointer (some ⟨b,o+j.toNat*sz,none⟩)) ge) w):RegG P n ops Q i ge w :=
 zyb ho (by
  unfold OpS; rw [zGf hx hi ht hs h0 h1]; exact h)

theorem zdb {t e:TypeId} {x ix:Operand} {b o len:Nat} {k:IntKind} {j:Int} (ho:opAt n ops ge i=some (.indexAddr t x ix,ty,dst))
    (hx:rho ge x= .pointer (some ⟨b,o,none⟩)) (hi:rho ge ix= .int k j) (ht:P.underlying t=some (.array len e)) (hs:zT P e=some 1)
    (h0:0≤j) (h1:j<len) (h:RegG P n ops Q (i+1) (putG dst (.pointer (some ⟨b,o+j.toNat,none⟩)) ge) w):RegG P n ops Q i ge w :=
 zYj ho hx hi ht hs h0 h1 (by simpa using h)

/-- Byte i of a string, as a number. -/
def zie (s:ByteArray) (i:Int):Int:=((s.data.toList.getD i.toNat 0).toNat:Int)

theorem znh {t:TypeId} {x ix:Operand} {s:ByteArray} {k:IntKind} {j:Int}
    (hx:rho ge x= .string s) (hi:rho ge ix= .int k j) (ht:P.underlying t=some .string) (h0:0≤j) (h1:j<s.size) :
    (ex (.index t x ix) ty (rho ge)).run P w= .ok (.value (.int .u8 (zie s j))) w:=by
 unfold ex execOp Instr.index
 simp only [hx,hi]
 have hlt:j.toNat<s.size:=O_
 have hget:(if 0≤j then s[j.toNat]? else none)=some (s[j.toNat]'hlt):=by rw [if_pos h0]; exact getElem?_pos s _ hlt
 have hb:zie s j=((s[j.toNat]'hlt).toNat:Int):=by
  unfold zie
  rw [List.getD_eq_getElem?_getD,List.getElem?_eq_getElem (by simpa using hlt)]
  rfl
 simp only [run_bind',asIntOf,zi ht,Sem.run,pure,hget,hb]

theorem zoh {t:TypeId} {x ix:Operand} {s:ByteArray} {k:IntKind} {j:Int} (ho:opAt n ops ge i=some (.index t x ix,ty,dst))
    (hx:rho ge x= .string s) (hi:rho ge ix= .int k j) (ht:P.underlying t=some .string) (h0:0≤j) (h1:j<s.size)
    (h:RegG P n ops Q (i+1) (putG dst (.int .u8 (zie s j)) ge) w):RegG P n ops Q i ge w :=
 zyb ho (by unfold OpS; rw [znh hx hi ht h0 h1]; exact h)

/-- s[:h] -/
theorem zIc {t e:TypeId} {x hi:Operand} {p:Option Addr} {l c sz:Nat} {k:IntKind} {j:Int} (ho:opAt n ops ge i=some (.slice t x none (some hi) none,ty,dst))
    (hx:rho ge x= .slice p l c) (hh:rho ge hi= .int k j) (ht:P.underlying t=some (.slice e)) (hs:zT P e=some sz)
    (h0:0≤j) (h1:j≤c) (h:RegG P n ops Q (i+1) (putG dst (.slice p j.toNat c) ge) w):RegG P n ops Q i ge w :=
 zyb ho (by
  have hr:(ex (.slice t x none (some hi) none) ty (rho ge)).run P w= .ok (.value (.slice p j.toNat c)) w:=by
   unfold ex execOp Instr.sliceAt
   simp only [hx,Option.map_none,Option.map_some]
   simp only [run_bind',zi ht,Sem.run,pure,Instr.slice,Instr.sliceBounds,Instr.sliceBound,hh,asIntOf]
   rw [if_pos ⟨h0,h1⟩]
   simp only [run_bind',Sem.run,pure,zO hs,Nat.zero_mul,Nat.sub_zero]
   have hadd:p.map (fun a=>a.add 0)=p:=by cases p <;> simp [Addr.add]
   split <;> simp_all
  unfold OpS; rw [hr]; exact h)

end

/-! ### What a call hands back -/
def zph (P:Program) (l:Env) (w:World):List ResultVar→List Value→Prop
 | [],[]=>True
 | .tmp s::r,v::vs=>zSc l s=some v∧zph P l w r vs
 | .cell a t::r,v::vs=>∃ b o cs,zSc l a=some (.pointer (some ⟨b,o,none⟩))∧zc w b o cs∧zT P t=some cs.length ∧
     ((aggT P t=true∧v= .agg cs.toArray)∨(zRb P t=true∧cs=[v]))∧zph P l w r vs
 | _,_=>False

theorem zq {P:Program} {t:TypeId} {k:Nat} {cs:List Value} (h:zT P t=some k) (hk:cs.length=k):zT P t=some cs.length:=by rw [hk]; exact h

def zHf (t:Array Value):ResultVar→Sem Value
 | .tmp s=>pure (t.getD s undef)
 | .cell a ty=>do loadVar ty (←asAddr (t.getD a undef))

theorem z5e {P:Program} {l:Env} {w:World} {n:Nat} {t:Array Value} (ha:zrb n t l):∀(rs:List ResultVar) (vs:List Value),zph P l w rs vs →
    (rs.mapM (zHf t)).run P w= .ok vs w
 | [],[],_=>by simp [pure,Sem.run]
 | [],_::_,h=>h.elim
 | .tmp s::r,[],h=>h.elim
 | .cell a ty::r,[],h=>h.elim
 | .tmp s::r,v::vs,h=>by
  have h1:t.getD s undef=v:=ha.2 (s,v) (znc h.1)
  have hv:(zHf t (.tmp s)).run P w= .ok v w:=by simp only [zHf,h1]; rfl
  rw [List.mapM_cons,run_bind',hv]
  simp only
  rw [run_bind',z5e ha r vs h.2]
  rfl
 | .cell a ty::r,v::vs,h=>by
  obtain⟨b,o,cs,h1,h2,h3,h4,h5⟩:=h
  have h1:t.getD a undef= .pointer (some ⟨b,o,none⟩):=ha.2 (a,_) (znc h1)
  have hl:(loadVar ty ⟨b,o,none⟩).run P w= .ok v w:=by
   unfold loadVar
   rcases h4 with ⟨ht,rfl⟩ | ⟨ht,rfl⟩
   ·simp [run_bind',zmd ht,zO h3,zGc h2 rfl,pure,Sem.run]
   ·rw [run_bind',zzb ht]
    simp [load,Sem.run,h2.1]
  have hv:(zHf t (.cell a ty)).run P w= .ok v w:=by
   simp only [zHf,h1,run_bind',asAddr,pure,Sem.run,hl]
  rw [List.mapM_cons,run_bind',hv]
  simp only
  rw [run_bind',z5e ha r vs h5]
  rfl

theorem z6e {P:Program} {l:Env} {w:World} {n:Nat} {t:Array Value} {fn:Func} {vs:List Value} (ha:zrb n t l) (h:zph P l w fn.results.toList vs) :
    (results fn t).run P w= .ok (if h:vs.toArray.size=1 then vs.toArray[0] else .tuple vs.toArray) w:=by
 have e:results fn t=(fn.results.mapM (zHf t) >>= fun vs=>pure (if h:vs.size=1 then vs[0] else .tuple vs)):=rfl
 rw [e,run_bind',←Array.toArray_toList (xs:=fn.results),List.mapM_toArray,run_map,z5e ha fn.results.toList vs h]
 rfl

theorem retS {P:Program} {fn:Func} {R:Value→World→Prop} {l:Env} {w:World} {rs:List ResultVar} {v:Value} (hr:fn.results.toList=rs) (h:zph P l w rs [v])
    (hR:R v w):retQ P fn R .ret l w:=by
 intro t ⟨n,ha⟩
 subst hr
 exact⟨v,z6e ha h,hR⟩

theorem z7e {P:Program} {fn:Func} {R:Value→World→Prop} {l:Env} {w:World} (h:retQ P fn R .ret l w):retQ P fn R .normal l w:=h
theorem retT {P:Program} {fn:Func} {R:Value→World→Prop} {l:Env} {w:World} {rs:List ResultVar} {vs:List Value} (hr:fn.results.toList=rs) (h:zph P l w rs vs)
    (h1:Nat.beq vs.length 1=false) (hR:R (.tuple vs.toArray) w):retQ P fn R .ret l w:=by
 intro t ⟨n,ha⟩
 subst hr
 refine⟨.tuple vs.toArray,?_,hR⟩
 rw [z6e ha h,dif_neg]
 intro hh
 have:vs.length=1:=by simpa using hh
 rw [this] at h1
 cases h1
end

/-! ### A region that draws its order: the walk in the text's order serves every order -/
theorem zwo {w:World} {b o:Nat} {v:Value} (h:w.cell? ⟨b,o,none⟩=some v):b<w.heap.size:=by
 rcases Nat.lt_or_ge b w.heap.size with h' | h'
 ·exact h'
 ·unfold World.cell? at h; rw [Array.getElem?_eq_none h'] at h; cases h
/-- Nothing that was there has turned. -/
abbrev Ext (w w':World):Prop:=RowKit.Below w.heap.size w w'
theorem Ext.refl (w:World):Ext w w:=RowKit.Below.refl _ w
theorem Ext.trans {a b c:World} (h:Ext a b) (k:Ext b c):Ext a c:=RowKit.Below.trans h (k.mono h.size)
theorem Ext.cell {w w':World} (h:Ext w w') {b o:Nat} {v:Value} (hc:w.cell? ⟨b,o,none⟩=some v):w'.cell? ⟨b,o,none⟩=some v:=by
 have:=RowKit.Below.cell h (p:=⟨b,o,none⟩) (zwo hc)
 rw [this]; exact hc
theorem Ext.cells {w w':World} (h:Ext w w') {b:Nat}:∀ {o:Nat} {vs:List Value},zc w b o vs→zc w' b o vs
 | _,[],_=>trivial
 | _,_::_,hc=>⟨h.cell hc.1,h.cells hc.2⟩

def RegQ (P:Program) (n:Nat) (ops:Array Oper) (m:Nat) (C:World→Prop) (Q:Act→Prop) (i:Nat) (ge:GEnv) (w:World):Prop :=
 (∀ w',C w'→Ext w w')→∀ t,Inv n t ge→i≤m∧wpQuiet P ops C Q ((ops.toList.take m).drop i) ⟨t,[]⟩

theorem z8e {ops:Array Oper} {i m:Nat} {o:Oper} (h:ops[i]? =some o) (hm:i+1≤m):(ops.toList.take m).drop i=o::(ops.toList.take m).drop (i+1):=by
 have hlt:=getElem?_lt h
 have h1:(ops.toList.take m)[i]? =some o:=by rw [List.getElem?_take,if_pos O_,Array.getElem?_toList]; exact h
 obtain⟨h2,h3⟩:=List.getElem?_eq_some_iff.1 h1
 rw [List.drop_eq_getElem_cons h2,h3]

theorem lawQ {P:Program} {ops:Array Oper} {m:Nat} {C:World→Prop} {Q:Act→Prop} :
    zxd P ops (fun i t=>i≤m∧wpQuiet P ops C Q ((ops.toList.take m).drop i) ⟨t,[]⟩):=by
 constructor
 ·intro i d o t v ho hd hw hr h
  refine⟨Nat.le_of_succ_le h.1,?_⟩
  show wpQuiet P ops C Q _ ⟨t,[]⟩
  rw [z8e ho h.1]
  unfold wpQuiet
  rw [if_pos hw]
  refine⟨v,fun w _=> ?_,?_⟩
  ·have hr:∀ w,(execOp (Act.eval ⟨t,[]⟩) o).run P w= .ok (.value v) w:=hr
   unfold Oper.quietAt; rw [hr w]; exact⟨rfl,rfl⟩
  ·rw [hd]; exact h.2
 ·intro i d o t ho hd hw h
  refine⟨Nat.le_of_succ_le h.1,?_⟩
  show wpQuiet P ops C Q _ ⟨t,[]⟩
  rw [z8e ho h.1]
  unfold wpQuiet
  rw [hw,if_neg D_,hd]
  exact h.2

theorem zv {P:Program} {n id:Nat} {c:Code} {ops:Array Oper} {Q:Exit→Env→World→Prop} {l:Env} {w:World} (hc:c= .region id ops true)
    (hm:P.follows .mixedOrders=true) (hB:Region.lexB .any ops=true)
    (h:RegQ P n ops ops.size (Ext w) (fun a=>∀ w',Ext w w'→zjb n Q .normal a w') 0 (toG l) w):WpE P n c Q l w:=by
 subst hc
 intro t ha
 refine wp_region_quiet (C:=Ext w) hm hB ((RowKit.Below.refl _ w).drew) ?_
 have:=(h (fun _ h=>h) t ha.inv).2
 rw [List.drop_zero,List.take_of_length_le (by simp)] at this
 exact this

theorem zdc {P:Program} {ops:Array Oper} {w:World} {Q:Act→Prop}:∀(l:List Oper) (a:Act),wpQuiet P ops (fun w'=>w'=w) Q l a→wpStill P ops w Q l a
 | [],_,h=>h
 | o::l,a,h=>by
  unfold wpQuiet at h
  unfold wpStill
  by_cases hw:Region.wanted o (yielded ops a.tmps)=true
  ·rw [if_pos hw] at h ⊢
   obtain⟨v,h1,h2⟩:=h
   have h1:=h1 w rfl
   have h2:=zdc l _ h2
   unfold Oper.quietAt at h1
   unfold Oper.still
   generalize (execOp a.eval o).run P w=r at *
   cases r with
   | ok n w' =>
    cases n <;> simp only [Oper.quietUpon] at h1 <;> simp only [Oper.stillUpon]
    case value u=>obtain⟨e1,e2⟩:=h1; subst e2; exact⟨e1,h2⟩
    case skip=>obtain⟨e1,e2⟩:=h1; subst e2; exact⟨e1,h2⟩
    case enter f args=>obtain⟨e1,e2⟩:=h1; exact⟨e1,v,e2,h2⟩
   | halt x w'=>simp only [Oper.quietUpon] at h1
  ·rw [if_neg hw] at h ⊢
   exact zdc l _ h

/-- A region that draws, and writes in its tail, from number m on. -/
theorem zn {P:Program} {n id:Nat} {c:Code} {ops:Array Oper} {Q:Exit→Env→World→Prop} {l:Env} {w:World} (hc:c= .region id ops true)
    (m:Nat) (hm:P.follows .mixedOrders=true) (hB:Region.lexTailB .any ops m=true)
    (h:∀ w1,(∃ k,w1=w.drewN k)→RegQ P n ops m (fun w'=>w'=w1) (fun a=>wpOps P ops (zjb n Q) (List.range' m (ops.size - m)) a w1) 0 (toG l) w1):WpE P n c Q l w:=by
 subst hc
 intro t ha
 have h:=(h w.drew ⟨1,rfl⟩ (fun w' hw=>hw ▸ Ext.refl _) t ha.inv).2
 rw [List.drop_zero] at h
 refine wp_region_still_tail (l:=ops.toList) m hm hB ?_
 have e:List.range' m (ops.size - m)=List.range' m (ops.toList.drop m).length:=by simp
 rw [e] at h
 have e2:=wpOps_eq_wpList (P:=P) (ops:=ops) (Q:=zjb n Q) (ops.toList.drop m) m (fun j=>by simp [List.getElem?_drop])
 rw [e2] at h
 exact zdc _ _ h

section
variable {P:Program} {n:Nat} {ops:Array Oper} {m:Nat} {C:World→Prop} {Q:Act→Prop} {i:Nat} {ge:GEnv} {w:World}
theorem zh (ms:List Mode) (j:Nat) (ge':GEnv)
    (hj:i+ms.length=j) (h:(zOb P n ops ms i ge).map (fun g=>ge'.map (fun p=>zV g p.1))=some (ge'.map (fun p=>some p.2)))
    (hn:RegQ P n ops m C Q j ge' w):RegQ P n ops m C Q i ge w:=fun hC=>zfj lawQ ms j ge' hj h (hn hC)

theorem zIf (s:Nat) (b:Bool)
    (hs:zV ge s=some ([],.bool b)) (ht:b=true→RegQ P n ops m C Q i (resolve s true ge) w) (hf:b=false→RegQ P n ops m C Q i (resolve s false ge) w) :
    RegQ P n ops m C Q i ge w:=fun hC=>z5d (X:=fun i t=>i≤m∧wpQuiet P ops C Q ((ops.toList.take m).drop i) ⟨t,[]⟩) s b hs (fun h=>ht h hC) (fun h=>hf h hC)

theorem zX (ge':GEnv) (he:ge=ge')
    (h:RegQ P n ops m C Q i ge' w):RegQ P n ops m C Q i ge w:=he ▸ h

/-- From the reading head to the writing tail. -/
theorem zD {Q:Exit→Env→World→Prop} (hi:i=m) (h:RegG P n ops (zjb n Q) i ge w) :
    RegQ P n ops m (fun w'=>w'=w) (fun a=>wpOps P ops (zjb n Q) (List.range' m (ops.size - m)) a w) i ge w:=by
 subst hi
 intro _ t hinv
 refine⟨Nat.le_refl _,?_⟩
 rw [List.drop_of_length_le (by simp; omega)]
 exact h t hinv
end

theorem zad {P:Program} {n i:Nat} {ops:Array Oper} {Q:Exit→Env→World→Prop} {ge:GEnv} {w:World} (l:Env) (hi:ops.size=i)
    (hl:l.map (fun p=>zV ge p.1)=l.map (fun p=>some ([],p.2))) (h:∀ w',Ext w w'→Q .normal l w') :
    RegQ P n ops ops.size (Ext w) (fun a=>∀ w',Ext w w'→zjb n Q .normal a w') i ge w:=by
 intro _ t hinv
 refine⟨O_,?_⟩
 rw [List.drop_of_length_le (by simp; omega)]
 intro w' hw'
 refine zjb.mk ⟨hinv.size,fun p hp=> ?_⟩ (h w' hw')
 have:=List.map_inj_left.1 hl p hp
 exact(hinv.ok _ _ _ this).1 (fun p hp=>by cases hp)

theorem zgj {P:Program} {n:Nat} {ops:Array Oper} {m:Nat} {C:World→Prop} {Q:Act→Prop} {i:Nat} {ge:GEnv} {w:World} {op:Op} {ty:TypeId} {dst:Option Nat} (v:Value)
    (ho:opAt n ops ge i=some (op,ty,dst)) (hr:∀ w',C w'→Ext w w'→Oper.quietUpon P C w' v ((ex op ty (rho ge)).run P w'))
    (h:RegQ P n ops m C Q (i+1) (putG dst v ge) w):RegQ P n ops m C Q i ge w:=by
 intro hC t hinv
 unfold opAt at ho
 cases hoi:ops[i]? with
 | none=>rw [hoi] at ho; cases ho
 | some o =>
  rw [hoi] at ho
  simp only at ho
  obtain⟨hc,ho⟩:=zxb ho
  simp only [Bool.and_eq_true] at hc
  obtain⟨⟨⟨hg,hsel⟩,hav⟩,hdst⟩:=hc
  simp only [Option.some.injEq,Prod.mk.injEq] at ho
  obtain⟨hop,hty,hds⟩:=ho
  have hH:Holds t []:=fun p hp=>by cases hp
  have hexec:execOp (Act.eval ⟨t,[]⟩) o=execOp (rho ge) o:=zEc hinv hH hsel hav
  have hw:=z6 (ops:=ops) hinv hg
  have key:i+1≤m∧wpQuiet P ops C Q ((ops.toList.take m).drop (i+1)) (Act.put ⟨t,[]⟩ o.dst v):=by
   rw [hds] at hdst ⊢
   cases dst with
   | none=>exact h hC t hinv
   | some d =>
    simp only [Bool.and_eq_true] at hdst
    exact h hC _ (hinv.put (v:=v) (u:=v) hdst.1 hdst.2 (fun p hp=>by cases hp) (fun _=>rfl) (fun hh=>absurd hH hh))
  refine⟨Nat.le_of_succ_le key.1,?_⟩
  rw [z8e hoi key.1]
  unfold wpQuiet
  rw [if_pos hw]
  refine⟨v,fun w' hw'=> ?_,key.2⟩
  unfold Oper.quietAt
  rw [hexec,ex_eq,hop,hty]
  exact hr w' hw' (hC w' hw')

/-- An operation that reads: its run in every world of the class. -/
theorem zVc {P:Program} {n:Nat} {ops:Array Oper} {m:Nat} {C:World→Prop} {Q:Act→Prop} {i:Nat} {ge:GEnv} {w:World} {op:Op} {ty:TypeId} {dst:Option Nat} (v:Value)
    (ho:opAt n ops ge i=some (op,ty,dst)) (hr:∀ w',Ext w w'→(ex op ty (rho ge)).run P w'= .ok (.value v) w')
    (h:RegQ P n ops m C Q (i+1) (putG dst v ge) w):RegQ P n ops m C Q i ge w :=
 zgj v ho (fun w' _ he=>by rw [hr w' he]; exact⟨rfl,rfl⟩) h

/-- A call that leaves old memory as it was: one value in every such world. -/
theorem zZj {P:Program} {n:Nat} {ops:Array Oper} {m:Nat} {Q:Act→Prop} {i:Nat} {ge:GEnv} {w:World} {op:Op} {ty:TypeId} {dst:Option Nat} (f:FuncId) (args:Array Value) (v:Value)
    (ho:opAt n ops ge i=some (op,ty,dst)) (hx:∀ ww,(ex op ty (rho ge)).run P ww= .ok (.enter f args) ww)
    (hcall:∀ w',Ext w w'→Calls P f args w' (fun e w''=>e= .returned v∧Ext w' w''))
    (h:RegQ P n ops m (Ext w) Q (i+1) (putG dst v ge) w):RegQ P n ops m (Ext w) Q i ge w :=
 zgj v ho (fun w' hw he=>by
  rw [hx w']
  exact⟨rfl,(hcall w' he).mono fun e w'' hh=>⟨hh.1,he.trans hh.2⟩⟩) h

section
variable {P:Program} {n:Nat} {ops:Array Oper} {m:Nat} {C:World→Prop} {Q:Act→Prop} {i:Nat} {ge:GEnv} {w:World} {ty:TypeId} {dst:Option Nat}

theorem zbd {op:Op} (v:Value) (ho:opAt n ops ge i=some (op,ty,dst)) (hr:∀ ww,(ex op ty (rho ge)).run P ww= .ok (.value v) ww)
    (h:RegQ P n ops m C Q (i+1) (putG dst v ge) w):RegQ P n ops m C Q i ge w:=zVc v ho (fun _ _=>hr _) h

theorem zx {t:TypeId} {a:Operand} {b o:Nat} {v:Value} (ho:opAt n ops ge i=some (.load t a,ty,dst)) (ha:rho ge a= .pointer (some ⟨b,o,none⟩))
    (ht:zRb P t=true) (hc:w.cell? ⟨b,o,none⟩=some v) (h:RegQ P n ops m C Q (i+1) (putG dst v ge) w):RegQ P n ops m C Q i ge w :=
 zVc v ho (fun _ he=>z3e ha ht (he.cell hc)) h

theorem zc.drewN {w:World} {b k:Nat}:∀ {vs:List Value} {o:Nat},zc w b o vs→zc (w.drewN k) b o vs
 | [],_,_=>trivial
 | _::_,_,h=>⟨h.1,zc.drewN h.2⟩

theorem zcd {t:TypeId} {a:Operand} {b o k:Nat} (vs:List Value) (ho:opAt n ops ge i=some (.load t a,ty,dst)) (ha:rho ge a= .pointer (some ⟨b,o,none⟩))
    (ht:aggT P t=true) (hs:zT P t=some k) (hk:vs.length=k) (hc:zc w b o vs) (h:RegQ P n ops m C Q (i+1) (putG dst (.agg vs.toArray) ge) w):RegQ P n ops m C Q i ge w :=
 zVc _ ho (fun _ he=>z4e ha ht hs hk (he.cells hc)) h

theorem z9e {t e:TypeId} {x ix:Operand} {b o l c sz:Nat} {k:IntKind} {j:Int} (ho:opAt n ops ge i=some (.indexAddr t x ix,ty,dst))
    (hx:rho ge x= .slice (some ⟨b,o,none⟩) l c) (hi:rho ge ix= .int k j) (ht:P.underlying t=some (.slice e)) (hs:zT P e=some sz)
    (h0:0≤j) (h1:j<l) (h:RegQ P n ops m C Q (i+1) (putG dst (.pointer (some ⟨b,o+j.toNat*sz,none⟩)) ge) w):RegQ P n ops m C Q i ge w :=
 zVc _ ho (fun _ _=>z6d hx hi ht hs h0 h1) h

theorem zqh {t e:TypeId} {x ix:Operand} {b o l c:Nat} {k:IntKind} {j:Int} (ho:opAt n ops ge i=some (.indexAddr t x ix,ty,dst))
    (hx:rho ge x= .slice (some ⟨b,o,none⟩) l c) (hi:rho ge ix= .int k j) (ht:P.underlying t=some (.slice e)) (hs:zT P e=some 1)
    (h0:0≤j) (h1:j<l) (h:RegQ P n ops m C Q (i+1) (putG dst (.pointer (some ⟨b,o+j.toNat,none⟩)) ge) w):RegQ P n ops m C Q i ge w :=
 z9e ho hx hi ht hs h0 h1 (by simpa using h)

theorem z9h {t e:TypeId} {x ix:Operand} {b o len sz:Nat} {k:IntKind} {j:Int} (ho:opAt n ops ge i=some (.indexAddr t x ix,ty,dst))
    (hx:rho ge x= .pointer (some ⟨b,o,none⟩)) (hi:rho ge ix= .int k j) (ht:P.underlying t=some (.array len e)) (hs:zT P e=some sz)
    (h0:0≤j) (h1:j<len) (h:RegQ P n ops m C Q (i+1) (putG dst (.pointer (some ⟨b,o+j.toNat*sz,none⟩)) ge) w):RegQ P n ops m C Q i ge w :=
 zVc _ ho (fun _ _=>zGf hx hi ht hs h0 h1) h

theorem zeb {t e:TypeId} {x ix:Operand} {b o len:Nat} {k:IntKind} {j:Int} (ho:opAt n ops ge i=some (.indexAddr t x ix,ty,dst))
    (hx:rho ge x= .pointer (some ⟨b,o,none⟩)) (hi:rho ge ix= .int k j) (ht:P.underlying t=some (.array len e)) (hs:zT P e=some 1)
    (h0:0≤j) (h1:j<len) (h:RegQ P n ops m C Q (i+1) (putG dst (.pointer (some ⟨b,o+j.toNat,none⟩)) ge) w):RegQ P n ops m C Q i ge w :=
 z9h ho hx hi ht hs h0 h1 (by simpa using h)

end
section
variable [Rnd]

/-! ### Single operations -/
section
variable {P:Program} {ge:GEnv} {ty xt yt:TypeId} {x y:Operand}

theorem zEk {k k':IntKind} {a b:Int} {m:Nat} (hx:rho ge x= .int k a) (hy:rho ge y= .int k' b) (hk:k.bits=m) (h0:0≤b) (w:World) :
    (ex (.binOp .shl xt x y yt) ty (rho ge)).run P w= .ok (.value (.int k (k.wrap (a*2 ^ (min b.toNat m))))) w:=by
 subst hk
 unfold ex execOp
 simp only [hx,hy]
 simp only [run_bind',eqGuard,binOp,Op.shift]
 have hb:¬ b<0:=O_
 simp [Sem.run,pure,hb]

theorem zxo {k k':IntKind} {a b:Int} {m:Nat} (hx:rho ge x= .int k a) (hy:rho ge y= .int k' b) (hk:k.bits=m) (h0:0≤b) (w:World) :
    (ex (.binOp .shr xt x y yt) ty (rho ge)).run P w= .ok (.value (.int k (Int.fdiv a (2 ^ (min b.toNat m))))) w:=by
 subst hk
 unfold ex execOp
 simp only [hx,hy]
 simp only [run_bind',eqGuard,binOp,Op.shift]
 have hb:¬ b<0:=O_
 simp [Sem.run,pure,hb]

theorem zcg {k:IntKind} {a b:Int} (hx:rho ge x= .int k a) (hy:rho ge y= .int k b) (h0:b≠0) (w:World) :
    (ex (.binOp .rem xt x y yt) ty (rho ge)).run P w= .ok (.value (.int k (Int.tmod a b))) w:=by
 unfold ex execOp
 simp only [hx,hy]
 simp only [run_bind',eqGuard,binOp,Op.intDiv]
 simp [Sem.run,pure,h0]

end
end
section
variable [Rnd]

/-! ### What came in -/
/-- What is said of a datum's sizes: each string, slice and map in it is within the form's reach. -/
def zWc {H:Type} (P:Program) (t:TypeId) (d:DataW H):Prop:=∀ n∈d.weights P t,n≤reachBytes

theorem zFk {H:Type} {P:Program} {ts:List TypeId} {ds:List (DataW H)} (h:(DataW.weightsEach P ts ds).all (·≤reachBytes)=true) {j:Nat} {t:TypeId} {d:DataW H}
    (ht:ts[j]? =some t) (hd:ds[j]? =some d):zWc P t d:=fun n hn=>by
 have:=List.all_eq_true.1 h n (DataW.weights_mem_each ht hd n hn)
 simpa using this

theorem zJ {H:Type} {P:Program} {t:TypeId} {fs:Array Field} {xs:List (DataW H×List MemPlace)} (hs:P.underlying t=some (.struct fs)) (h:zWc P t (.agg (xs.map (·.1)))) {i:Nat} {f:Field} {y:DataW H×List MemPlace}
    (hf:fs[i]? =some f) (hy:xs[i]? =some y):zWc P f.type y.1:=fun n hn=>by
 refine h n ?_
 simp only [DataW.weights,hs]
 refine DataW.weights_mem_each (ts:=fs.toList.map (·.type)) (j:=i) (t:=f.type) (d:=y.1) ?_ ?_ n hn
 ·rw [List.getElem?_map,Array.getElem?_toList,hf]; rfl
 ·rw [List.getElem?_map,hy]; rfl

theorem zec {H:Type} {P:Program} {e:TypeId}:∀ {l:List (DataW H)} {d:DataW H},d∈l→∀ n∈d.weights P e,n∈DataW.weightsAll P e l
 | x::l,d,hd,n,hn=>by
  simp only [DataW.weightsAll,List.mem_append]
  rcases List.mem_cons.1 hd with rfl | hd
  ·exact .inl hn
  ·exact .inr (zec hd n hn)

/-- A slice that came in: nil; or each element up to the capacity lies there; and it is within the form's reach. -/
def OkSl (w:World) (s:Slc) (sz by_:Nat) (E:List Value→Prop):Prop :=
 (s.ptr=none∧s.len=0∧s.cap=0) ∨
 (s.len≤s.cap∧s.cap≤9223372036854775807∧s.cap*by_≤140737488351232∧∃ a,s.ptr=some a∧∀ i,i<s.cap→∃ es,w.cells? 0 (a.add (i*sz)) sz=some es∧E es)

theorem zdg {H:Type} {enc:TypeId×Value→H} {P:Program} {w:World} {fuel:Nat} {t e:TypeId} {cs:List Value} {y:DataW H×List MemPlace} {sz by_:Nat} {E:List Value→Prop}
    (ht:P.underlying t=some (.slice e)) (hs:P.cellsOf e=sz) (hb:P.bytesOf e=by_) (h:DataW.trod enc P w 0 (fun _=>true) true fuel t cs=some y) (hl:zWc P t y.1)
    (hE:∀(n:Nat) (es:List Value) (z:DataW H×List MemPlace),DataW.trod enc P w 0 (fun _=>true) true n e es=some z→zWc P e z.1→E es) :
    ∃ s:Slc,cs=[.slice s.ptr s.len s.cap]∧OkSl w s sz by_ E:=by
 subst hs
 subst hb
 rcases DataW.trod_slice ht h with ⟨rfl,_⟩ | ⟨a,len,cap,elems,rest,n,_,rfl,hy,_,hlc,hm,hlen,hel,hsp,_⟩
 ·exact⟨⟨none,0,0⟩,rfl,.inl ⟨rfl,rfl,rfl⟩⟩
 ·obtain⟨hr,hj⟩:=hsp rfl
  subst hy
  have hwt:(elems.length+rest.length)*P.bytesOf e≤reachBytes:=by
   have:=hl ((elems.length+rest.length)*P.bytesOf e) (by simp [DataW.weights,ht])
   exact this
  have hall:∀ z∈elems++rest,zWc P e z.1:=by
   intro z hz k hk
   refine hl k ?_
   simp only [DataW.weights,ht,List.mem_cons,List.mem_append]
   rcases List.mem_append.1 hz with hz | hz
   ·exact .inr (.inl (zec (List.mem_map.2 ⟨z,hz,rfl⟩) k hk))
   ·exact .inr (.inr (zec (List.mem_map.2 ⟨z,hz,rfl⟩) k hk))
  refine⟨⟨some a,len,cap⟩,rfl,.inr ⟨hlc,hm,?_,a,rfl,fun i hi=> ?_⟩⟩
  ·have:elems.length+rest.length=cap:=O_
   rw [this] at hwt
   exact hwt
  have key:∀ {o:Option (DataW H×List MemPlace)},(w.cells? 0 (a.add (i*P.cellsOf e)) (P.cellsOf e)).bind (DataW.trod enc P w 0 (fun _=>true) true n e)=o→(∃ z,o=some z∧zWc P e z.1) →
      ∃ es,w.cells? 0 (a.add (i*P.cellsOf e)) (P.cellsOf e)=some es∧E es:=by
   intro o ho hs
   subst ho
   cases hc:w.cells? 0 (a.add (i*P.cellsOf e)) (P.cellsOf e) with
   | none=>rw [hc] at hs; obtain⟨z,hz,_⟩:=hs; cases hz
   | some es =>
    rw [hc] at hs
    simp only [Option.bind_some] at hs
    obtain⟨z,hz,hlz⟩:=hs
    exact⟨es,rfl,hE n es z hz hlz⟩
  rcases Nat.lt_or_ge i len with hlt | hge
  ·refine key (hel i hlt) ⟨elems[i]'O_,List.getElem?_eq_getElem O_,hall _ (List.mem_append_left _ (List.getElem_mem _))⟩
  ·have:=hj (i - len) (by simp only [Slc.cap] at hi; omega)
   rw [show len+(i - len)=i from by omega] at this
   refine key this ⟨rest[i - len]'(by simp only [Slc.cap] at hi; omega),List.getElem?_eq_getElem (by simp only [Slc.cap] at hi; omega),hall _ (List.mem_append_right _ (List.getElem_mem _))⟩

theorem zGk {k:IntKind} {n:Int} (h:(Lit.int k n).wf=true):(match k with
    | .i8=> -128≤n∧n≤127 | .i16=> -32768≤n∧n≤32767 | .i32=> -2147483648≤n∧n≤2147483647 | .i64=> -9223372036854775808≤n∧n≤9223372036854775807
    | .u8=>0≤n∧n≤255 | .u16=>0≤n∧n≤65535 | .u32=>0≤n∧n≤4294967295 | .u64=>0≤n∧n≤18446744073709551615):=by
 cases k <;> simp [Lit.wf,IntKind.min,IntKind.max,IntKind.bits,IntKind.signed] at h ⊢ <;> omega
end
section
variable [Rnd]

/-! ### Slices: making, cutting, appending, copying -/
def zu (k:Nat) (zs:List Value):Array Value:=(List.replicate k zs).flatten.toArray

theorem zJc (zs:List Value) (k:Nat):((Array.range (k*zs.length)).map (fun i=>zs.toArray[i % zs.toArray.size]!))=zu k zs:=by
 apply Array.ext'
 simp only [Array.toList_map,Array.toList_range,zu]
 induction k with
 | zero=>simp
 | succ k ih =>
  rw [List.replicate_succ',List.flatten_append,←ih,Nat.add_mul,Nat.one_mul,List.range_add,List.map_append]
  congr 1
  simp only [List.map_map,List.flatten_cons,List.flatten_nil,List.append_nil]
  apply List.ext_getElem
  ·simp
  ·intro i h1 h2
   simp only [List.length_map,List.length_range] at h1
   simp only [List.getElem_map,List.getElem_range,Function.comp,List.size_toArray]
   rw [Nat.add_comm,Nat.add_mul_mod_self_right,Nat.mod_eq_of_lt h1]
   simp [h1]

def zrh (P:Program) (t:TypeId):Option (List Value):=((P.info? t).bind (·.zero)).map (·.cells.toList)
def zje (P:Program) (t:TypeId):Option Nat:=(P.info? t).map (·.bytes)

theorem zSb {P:Program} {t:TypeId} {zs:List Value} (h:zrh P t=some zs) (w:World):∃ v,(zeroValue t).run P w= .ok v w∧v.cells=zs.toArray:=by
 unfold zrh at h
 cases hi:P.info? t with
 | none=>rw [hi] at h; cases h
 | some i =>
  rw [hi] at h
  simp only [Option.bind_some] at h
  cases hz:i.zero with
  | none=>rw [hz] at h; cases h
  | some v =>
   rw [hz] at h
   simp only [Option.map_some,Option.some.injEq] at h
   refine⟨v,?_,by rw [←h]⟩
   simp [zeroValue,typeInfo,program,Sem.run,bind,Sem.bind,hi,hz,pure]

theorem zsb {P:Program} {t:TypeId} {by_:Nat} (h:zje P t=some by_) (w:World):∃ i,(typeInfo t).run P w= .ok i w∧i.bytes=by_:=by
 unfold zje at h
 cases hi:P.info? t with
 | none=>rw [hi] at h; cases h
 | some i =>
  rw [hi] at h
  simp only [Option.map_some,Option.some.injEq] at h
  exact⟨i,by simp [typeInfo,program,Sem.run,bind,Sem.bind,hi,pure],h⟩

theorem run_askRoom (P:Program) (n:Nat) (w:World):(askRoom n).run P w= .ok () w:=by
 unfold askRoom mark
 split <;> rfl

section
variable {P:Program} {n:Nat} {ops:Array Oper} {Q:Exit→Act→World→Prop} {i:Nat} {ge:GEnv} {w:World} {ty:TypeId} {dst:Option Nat}

theorem zQd {t e:TypeId} {lo co:Operand} {l c:Int} {sz by_:Nat} {zs:List Value} (ho:opAt n ops ge i=some (.makeSlice t lo co,ty,dst))
    (hl:rho ge lo= .int .i64 l) (hc:rho ge co= .int .i64 c) (ht:P.underlying t=some (.slice e)) (hs:zT P e=some sz) (hb:zje P e=some by_) (hz:zrh P e=some zs)
    (hn:zs.length=sz) (hb1:Nat.ble 1 by_=true) (h0:0≤l) (h1:l≤c) (h2:(by_:Int)*c≤281474976710656)
    (h:∀ b w',b=w.heap.size→w'=w.alloc (Obj.cells (zu c.toNat zs) e (0,0))→RegG P n ops Q (i+1) (putG dst (.slice (some ⟨b,0,none⟩) l.toNat c.toNat) ge) w'):RegG P n ops Q i ge w:=by
 refine zyb ho ?_
 subst hn
 have hby:1≤by_:=Nat.le_of_ble_eq_true hb1
 have hcb:c≤281474976710656:=by
  have:1*c≤(by_:Int)*c:=Int.mul_le_mul_of_nonneg_right O_ O_
  omega
 have hwl:IntKind.i64.wrap l=l:=IntWalk.i64_in _ O_
 have hwc:IntKind.i64.wrap c=c:=IntWalk.i64_in _ O_
 obtain⟨v,hv,hvc⟩:=zSb hz w
 obtain⟨inf,hinf,hbe⟩:=zsb hb w
 have hr:(ex (.makeSlice t lo co) ty (rho ge)).run P w= .ok (.value (.slice (some ⟨w.heap.size,0,none⟩) l.toNat c.toNat)) (w.alloc (Obj.cells (zu c.toNat zs) e (0,0))):=by
  unfold ex execOp Instr.makeSlice
  simp only [hl,hc]
  simp only [run_bind',zi ht,asInt,asIntOf,pure,Sem.run,hinf,hbe,hwl,hwc]
  have k1:(decide (c<0)||decide ((by_:Int)*c>2 ^ 48))=false:=by
   simp only [Bool.or_eq_false_iff,decide_eq_false_iff_not]
   have:(2:Int) ^ 48=281474976710656:=D_
   rw [this]; omega
  have k2:¬ ((decide (c<0)||decide ((by_:Int)*c>2 ^ 48))=true∨l<0):=by
   rw [k1]; simp; omega
  simp only [k1,Bool.false_or,Bool.or_eq_true,decide_eq_true_eq]
  rw [if_neg O_]
  simp only [run_bind',run_askRoom,zO hs]
  by_cases hz0:c.toNat*zs.length=0
  ·rw [if_pos hz0]
   simp only [pure,Sem.run,newRow,newObj,run_bind']
   have e1:zu c.toNat zs=#[]:=by
    rw [←zJc,hz0]; simp
   have e2:∀ f:Nat→Value,Array.map f (Array.range 0)=#[]:=fun f=>by simp
   rw [hz0,e1,e2]
   rfl
  ·rw [if_neg hz0]
   simp only [run_bind',hv,pure,Sem.run,newRow,newObj,hvc]
   rw [zJc]
   rfl
 unfold OpS
 rw [hr]
 exact h _ _ rfl rfl

/-- x[lo:hi:max] -/
def Slc.cut (sz:Nat) (s:Slc) (lo hi mx:Int):Slc :=
 ⟨if mx.toNat=lo.toNat then s.ptr else s.ptr.map (·.add (lo.toNat*sz)),hi.toNat - lo.toNat,mx.toNat - lo.toNat⟩

theorem zof {P:Program} {k:IntKind} {j:Int} {y:Nat} {code:BoundsCode} (h0:0≤j) (h1:j≤y) (w:World):(Instr.sliceBound (.int k j) y code).run P w= .ok j.toNat w:=by
 unfold Instr.sliceBound
 simp only [run_bind',asIntOf,pure,Sem.run]
 rw [if_pos ⟨h0,h1⟩]
 rfl

theorem zsh {t e:TypeId} {x:Operand} {lo hi mx:Option Operand} {s:Slc} {sz:Nat} {l h m:Nat} (hx:rho ge x= .slice s.ptr s.len s.cap) (ht:P.underlying t=some (.slice e)) (hs:zT P e=some sz)
    (hb:(Instr.sliceBounds true s.len s.cap (lo.map (rho ge)) (hi.map (rho ge)) (mx.map (rho ge))).run P w= .ok (l,h,m) w) :
    (ex (.slice t x lo hi mx) ty (rho ge)).run P w= .ok (.value (.slice (if m=l then s.ptr else s.ptr.map (·.add (l*sz))) (h - l) (m - l))) w:=by
 unfold ex execOp Instr.sliceAt
 simp only [hx]
 simp only [run_bind',zi ht,Instr.slice]
 simp only [run_bind',zi ht,hb,zO hs,pure,Sem.run]

theorem zaf {t e:TypeId} {x lo:Operand} {s:Slc} {sz:Nat} {k:IntKind} {a:Int} (hx:rho ge x= .slice s.ptr s.len s.cap) (hl:rho ge lo= .int k a) (ht:P.underlying t=some (.slice e)) (hs:zT P e=some sz)
    (hc:0≤a∧a≤((s.len:Nat):Int)∧((s.len:Nat):Int)≤((s.cap:Nat):Int)∧((s.cap:Nat):Int)≤((s.cap:Nat):Int)) :
    (ex (.slice t x (some lo) none none) ty (rho ge)).run P w= .ok (.value (.slice (Slc.cut sz s a s.len s.cap).ptr (Slc.cut sz s a s.len s.cap).len (Slc.cut sz s a s.len s.cap).cap)) w:=by
 rw [zsh (l:=a.toNat) (h:=s.len) (m:=s.cap) hx ht hs]
 ·unfold Slc.cut; simp
 ·simp only [Instr.sliceBounds,Option.map_some,Option.map_none,hl,run_bind',pure,Sem.run,zof hc.1 hc.2.1]

theorem zAb {t e:TypeId} {x lo:Operand} {s:Slc} {sz:Nat} {k:IntKind} {a:Int} (ho:opAt n ops ge i=some (.slice t x (some lo) none none,ty,dst))
    (hx:rho ge x= .slice s.ptr s.len s.cap) (hl:rho ge lo= .int k a) (ht:P.underlying t=some (.slice e)) (hs:zT P e=some sz)
    (hc:0≤a∧a≤((s.len:Nat):Int)∧((s.len:Nat):Int)≤((s.cap:Nat):Int)∧((s.cap:Nat):Int)≤((s.cap:Nat):Int))
    (h:∀ r,r=Slc.cut sz s a s.len s.cap→RegG P n ops Q (i+1) (putG dst (.slice r.ptr r.len r.cap) ge) w):RegG P n ops Q i ge w :=
 zyb ho (by unfold OpS; rw [zaf hx hl ht hs hc]; exact h _ rfl)
/-! #### append, copy -/
/-- The first cells of a slice. -/
def zBb (w:World) (x:Slc) (k sz:Nat) (src:List Value):Prop :=
 src.length=k*sz∧(src=[]∨(IsAt x.ptr∧zc w (pblk x.ptr) (poff x.ptr) src))
def zr (w:World) (x:Slc) (sz:Nat) (src:List Value):Prop:=zBb w x x.len sz src

def srcT (P:Program) (t:TypeId):Bool:=match P.underlying t with | some (.slice _) | some .string=>true | _=>false

def zo (sz by_:Nat) (e:TypeId) (zs:List Value) (s:Slc) (src:List Value) (k:Nat) (w:World) (K:Slc→World→Prop):Prop :=
 (s.len+k≤s.cap→(src=[]∧K ⟨s.ptr,s.len+k,s.cap⟩ w) ∨
  (IsAt s.ptr∧zb w (pblk s.ptr) (poff s.ptr+s.len*sz) src.length∧zI src=true∧∀ w',w'=World.puts (pblk s.ptr) (poff s.ptr+s.len*sz) src w→K ⟨s.ptr,s.len+k,s.cap⟩ w')) ∧
 (s.cap<s.len+k→Builtin.nextslicecap (s.len+k) s.cap*by_≤281474976710656∧∃ old,zr w s sz old∧∀ cap b w',s.len+k≤cap→cap<9223372036854775808→b=w.heap.size →
  w'=(w.drew).alloc (Obj.cells (old++src++(zu (cap - (s.len+k)) zs).toList).toArray e (0,0))→K ⟨some ⟨b,0,none⟩,s.len+k,cap⟩ w')

theorem zo.mono {sz by_:Nat} {e:TypeId} {zs:List Value} {s:Slc} {src:List Value} {k:Nat} {w:World} {K K':Slc→World→Prop} (h:zo sz by_ e zs s src k w K)
    (hk:∀ r w',K r w'→K' r w'):zo sz by_ e zs s src k w K':=by
 refine⟨fun hc=> ?_,fun hc=> ?_⟩
 ·rcases h.1 hc with ⟨h1,h2⟩ | ⟨h1,h2,h3,h4⟩
  ·exact .inl ⟨h1,hk _ _ h2⟩
  ·exact .inr ⟨h1,h2,h3,fun w' hw=>hk _ _ (h4 w' hw)⟩
 ·obtain⟨h1,old,h2,h3⟩:=h.2 hc
  exact⟨h1,old,h2,fun cap b w' ha hb hc hd=>hk _ _ (h3 cap b w' ha hb hc hd)⟩

theorem zY {P:Program} {w:World} {x:Slc} {k sz:Nat} {src:List Value} (h:zBb w x k sz src):(Builtin.firstCells sz k (.slice x.ptr x.len x.cap)).run P w= .ok src.toArray w:=by
 obtain⟨hl,rfl | ⟨hp,hc⟩⟩:=h
 ·cases hp:x.ptr with
  | none=>simp [Builtin.firstCells,pure,Sem.run]
  | some a =>
   simp only [List.length_nil] at hl
   simp only [Builtin.firstCells,←hl]
   simp [loadCells,loadCellsFrom,pure,Sem.run]
 ·rw [hp]
  simp only [Builtin.firstCells]
  exact zGc hc hl

theorem zeroCells_eq (zs:List Value) (k:Nat):Builtin.zeroCells zs.toArray k=zu k zs:=by
 unfold Builtin.zeroCells
 rw [←zJc]
 simp

theorem zJf {t tx e:TypeId} {a x:Operand} {s:Slc} {sz by_ k:Nat} {zs src:List Value} {xv:Value} {K:Value→World→Prop}
    (hs:rho ge a= .slice s.ptr s.len s.cap) (hx:rho ge x=xv) (ht:P.underlying t=some (.slice e)) (hsz:zT P e=some sz) (hb:zje P e=some by_) (hz:zrh P e=some zs)
    (hb1:Nat.ble 1 by_=true) (hmk:srcT P tx=true)
    (hlen:∀ w,(Builtin.lenOf xv).run P w= .ok k w) (hsrc:(Builtin.firstCells sz k xv).run P w= .ok src.toArray w) (hsrc':(Builtin.firstCells sz k xv).run P (w.drew)= .ok src.toArray (w.drew))
    (h:zo sz by_ e zs s src k w (fun r w'=>K (.slice r.ptr r.len r.cap) w')) :
    OpS P (.call { callee:= .builtin .append,args:=#[a,x],argTypes:=#[t,tx] }) ty (rho ge) w K:=by
 have hby:1≤by_:=Nat.le_of_ble_eq_true hb1
 obtain⟨dx,hdx,hdx2⟩:∃ d,P.underlying tx=some d∧((∃ e',d= .slice e')∨d= .string):=by
  unfold srcT at hmk
  cases hu:P.underlying tx with
  | none=>rw [hu] at hmk; cases hmk
  | some d =>
   rw [hu] at hmk
   refine⟨d,rfl,?_⟩
   cases d <;> first | (cases hmk; done) | exact .inl ⟨_,rfl⟩ | exact .inr rfl
 unfold OpS
 have hex:ex (.call { callee:= .builtin .append,args:=#[a,x],argTypes:=#[t,tx] }) ty (rho ge) =
     (do pure (.value (←Builtin.append_ #[t,tx] ty #[.slice s.ptr s.len s.cap,xv])):Sem Next):=by
  unfold ex execOp
  simp [Go.resolve,Go.invoke,Go.builtin,hs,hx,bind,Sem.bind,pure]
 rw [hex,run_bind']
 unfold Builtin.append_
 simp only [List.getElem?_toArray,List.getElem?_cons_zero,List.getElem?_cons_succ]
 have hnint:∀(α:Type) (u v:α),(match dx with | TypeDesc.int _=>u | _=>v)=v:=by
  intro α u v
  rcases hdx2 with ⟨e',rfl⟩ | rfl <;> rfl
 rcases hdx2 with ⟨e',rfl⟩ | rfl
 all_goals
 simp only [run_bind',zi ht,zO hsz,zi hdx,pure,Sem.run,Bool.false_eq_true,if_false,hlen,Bool.not_false,if_true]
 by_cases hfit:s.len+k≤s.cap
 ·rw [if_pos hfit]
  simp only [run_bind',hsrc]
  rcases h.1 hfit with ⟨he,hK⟩ | ⟨hp,hw,h1,hK⟩
  ·subst he
   cases hp:s.ptr with
   | none=>rw [hp] at hK; simp only [pure,Sem.run]; exact hK
   | some a=>rw [hp] at hK; simp only [storeCells,pure,Sem.run,run_bind']; exact hK
  ·have hK:=hK _ rfl
   have hp':s.ptr=some ⟨pblk s.ptr,poff s.ptr,none⟩:=hp
   clear hp
   generalize pblk s.ptr=pb at *
   generalize poff s.ptr=po at *
   rw [hp'] at hK ⊢
   simp only [run_bind',addr_add]
   have:=zkb (P:=P) (b:=pb) (o:=po+s.len*sz) src 0 w (by simpa using hw) h1
   rw [this]
   simp only [pure,Sem.run]
   exact hK
 ·rw [if_neg hfit]
  obtain⟨hcap,old,hold,hK⟩:=h.2 O_
  obtain⟨inf,hinf,hbe⟩:=zsb hb w
  obtain⟨v,hv,hvc⟩:=zSb hz (w.drew)
  have hold':zBb (w.drew) s s.len sz old:=by
   obtain⟨h1,h2⟩:=hold
   exact⟨h1,h2.imp id (fun⟨h3,h4⟩=>⟨h3,(zc.drewN (k:=1) h4)⟩)⟩
  simp only [run_bind',hinf,hbe]
  have k1:¬ (((s.len+k:Nat):Int)>IntKind.i64.max∧(False∨by_=0)):=by
   intro hh
   rcases hh.2 with h3 | h3
   ·exact h3
   ·omega
  rw [if_neg k1]
  simp only [run_bind',pure,Sem.run]
  have k2:¬ (Builtin.nextslicecap (s.len+k) s.cap*by_>2 ^ 48):=by
   have:(2:Nat) ^ 48=281474976710656:=D_
   omega
  rw [hinf]
  simp only [hbe]
  rw [if_neg k2]
  simp only [choose,Sem.run,Question.forced,Bool.false_eq_true,if_false,run_bind']
  have hd:({ heap:=w.heap,tape:=w.tape,drawn:=w.drawn+1,os:=w.os,output:=w.output }:World)=w.drew:=rfl
  rw [hd]
  generalize hcv:Question.cut (.appendCap (s.len+k) s.cap e) (w.tape w.drawn (.appendCap (s.len+k) s.cap e))=cap
  have hc1:s.len+k≤cap∧cap<9223372036854775808∨9223372036854775808≤s.len+k:=by
   rw [←hcv]
   simp only [Question.cut]
   rcases Nat.lt_or_ge (s.len+k) 9223372036854775808 with h9 | h9
   ·left
    have:(2:Nat) ^ 63=9223372036854775808:=D_
    rw [this]
    have:=Nat.mod_lt (w.tape w.drawn (.appendCap (s.len+k) s.cap e)) (show 0<9223372036854775808 - (s.len+k) by omega)
    omega
   ·exact .inr h9
  obtain⟨inf2,hinf2,hbe2⟩:=zsb hb (w.drew)
  rw [hinf2]
  simp only [run_askRoom]
  rw [zY hold']
  simp only [hsrc',hv,hvc,zeroCells_eq,newRow,newObj,run_bind',pure,Sem.run]
  have hle:=le_nextslicecap (show s.cap<s.len+k by omega)
  have hnc:s.len+k<9223372036854775808:=by
   have:Builtin.nextslicecap (s.len+k) s.cap*1≤Builtin.nextslicecap (s.len+k) s.cap*by_:=Nat.mul_le_mul_left _ hby
   omega
  rcases hc1 with ⟨ha,hb'⟩ | hb'
  ·have:=hK cap w.heap.size _ ha hb' rfl rfl
   have e1:(w.drew).heap.size=w.heap.size:=rfl
   rw [e1]
   have e2:(old.toArray++src.toArray++zu (cap - (s.len+k)) zs)=(old++src++(zu (cap - (s.len+k)) zs).toList).toArray:=by
    apply Array.ext'; simp
   rw [e2]
   exact this
  ·omega

theorem zC {t tx e:TypeId} {a xo:Operand} {s x:Slc} {sz by_:Nat} {zs:List Value} (src:List Value)
    (ho:opAt n ops ge i=some (.call { callee:= .builtin .append,args:=#[a,xo],argTypes:=#[t,tx] },ty,dst))
    (hs:rho ge a= .slice s.ptr s.len s.cap) (hx:rho ge xo= .slice x.ptr x.len x.cap) (ht:P.underlying t=some (.slice e)) (hsz:zT P e=some sz) (hb:zje P e=some by_) (hz:zrh P e=some zs)
    (hb1:Nat.ble 1 by_=true) (hmk:srcT P tx=true)
    (hsrc:zr w x sz src) (h:zo sz by_ e zs s src x.len w (fun r w'=>RegG P n ops Q (i+1) (putG dst (.slice r.ptr r.len r.cap) ge) w')):RegG P n ops Q i ge w :=
 zyb ho (zJf hs hx ht hsz hb hz hb1 hmk (fun w=>rfl) (zY hsrc)
  (zY (w:=w.drew) ⟨hsrc.1,hsrc.2.imp id (fun⟨h3,h4⟩=>⟨h3,(zc.drewN (k:=1) h4)⟩)⟩) h)

def zhd (d:Slc) (src:List Value) (w:World) (K:World→Prop):Prop :=
 (src=[]∧K w)∨(IsAt d.ptr∧zb w (pblk d.ptr) (poff d.ptr) src.length∧zI src=true∧∀ w',w'=World.puts (pblk d.ptr) (poff d.ptr) src w→K w')
theorem zhd.mono {d:Slc} {src:List Value} {w:World} {K K':World→Prop} (h:zhd d src w K) (hk:∀ w',K w'→K' w'):zhd d src w K':=by
 rcases h with ⟨h1,h2⟩ | ⟨h1,h2,h3,h4⟩
 ·exact .inl ⟨h1,hk _ h2⟩
 ·exact .inr ⟨h1,h2,h3,fun w' hw=>hk _ (h4 w' hw)⟩

theorem zRd {t tx e:TypeId} {a xo:Operand} {d x:Slc} {sz:Nat} (src:List Value)
    (ho:opAt n ops ge i=some (.call { callee:= .builtin .copy,args:=#[a,xo],argTypes:=#[t,tx] },ty,dst))
    (hd:rho ge a= .slice d.ptr d.len d.cap) (hx:rho ge xo= .slice x.ptr x.len x.cap) (ht:P.underlying t=some (.slice e)) (hsz:zT P e=some sz)
    (hsrc:zBb w x (min x.len d.len) sz src) (h:zhd d src w (fun w'=>RegG P n ops Q (i+1) (putG dst (.int .i64 ((min x.len d.len:Nat):Int)) ge) w')):RegG P n ops Q i ge w:=by
 refine zyb ho ?_
 unfold OpS
 have hex:ex (.call { callee:= .builtin .copy,args:=#[a,xo],argTypes:=#[t,tx] }) ty (rho ge) =
     (do pure (.value (←Builtin.copy_ #[t,tx] ty #[.slice d.ptr d.len d.cap,.slice x.ptr x.len x.cap])):Sem Next):=by
  unfold ex execOp
  simp [Go.resolve,Go.invoke,Go.builtin,hd,hx,bind,Sem.bind,pure]
 rw [hex,run_bind']
 unfold Builtin.copy_
 simp only [List.getElem?_toArray,List.getElem?_cons_zero,List.getElem?_cons_succ]
 have hmin:Nat.min x.len d.len=min x.len d.len:=rfl
 simp only [run_bind',zi ht,zO hsz,pure,Sem.run,Builtin.lenOf,hmin,zY hsrc]
 rcases h with ⟨he,hK⟩ | ⟨hp,hw,h1,hK⟩
 ·subst he
  cases hp:d.ptr with
  | none=>simp only [Sem.run,goInt]; exact hK
  | some a=>simp only [storeCells,pure,Sem.run,run_bind',goInt]; exact hK
 ·have hK:=hK _ rfl
  have hp':d.ptr=some ⟨pblk d.ptr,poff d.ptr,none⟩:=hp
  clear hp
  generalize pblk d.ptr=pb at *
  generalize poff d.ptr=po at *
  rw [hp']
  have:=zkb (P:=P) (b:=pb) (o:=po) src 0 w (by simpa using hw) h1
  simp only [run_bind',this,Sem.run,goInt]
  exact hK

/-! #### Comparisons with nil, of structs; values of function type -/
def zhj (P:Program) (t:TypeId):Bool:=match P.underlying t with | some (.pointer _)=>true | _=>false
def zeg (P:Program) (t:TypeId):Bool:=match P.underlying t with | some (.slice _)=>true | _=>false
def zHk (P:Program) (t:TypeId):Bool:=match P.underlying t with | some (.map ..)=>true | _=>false
end

section
variable {P:Program} {ge:GEnv} {ty xt yt:TypeId} {x y:Operand}
theorem zXc {op:BinOp} {r:Value} {w:World} (h1:(eqGuard op xt x y (rho ge x) (rho ge y)).run P w= .ok () w) (h2:(binOp op xt (rho ge x) (rho ge y)).run P w= .ok r w) :
    (ex (.binOp op xt x y yt) ty (rho ge)).run P w= .ok (.value r) w:=by
 unfold ex execOp
 simp only [run_bind',h1,h2,pure,Sem.run]
theorem zbf (h:zhj P xt=true):∃ e,∀ w,(underlying xt).run P w= .ok (.pointer e) w:=by
 unfold zhj at h
 cases hu:P.underlying xt with
 | none=>rw [hu] at h; cases h
 | some d=>rw [hu] at h; cases d <;> first | (cases h; done) | exact⟨_,zi hu⟩
theorem zfg (h:zeg P xt=true):∃ e,∀ w,(underlying xt).run P w= .ok (.slice e) w:=by
 unfold zeg at h
 cases hu:P.underlying xt with
 | none=>rw [hu] at h; cases h
 | some d=>rw [hu] at h; cases d <;> first | (cases h; done) | exact⟨_,zi hu⟩
theorem zai (h:zHk P xt=true):∃ d:TypeId×TypeId,∀ w,(underlying xt).run P w= .ok (.map d.1 d.2) w:=by
 unfold zHk at h
 cases hu:P.underlying xt with
 | none=>rw [hu] at h; cases h
 | some d=>rw [hu] at h; cases d <;> first | (cases h; done) | exact⟨(_,_),zi hu⟩
theorem zy {p:Option Addr} (hx:rho ge x= .pointer p) (hy:rho ge y= .pointer none) (ht:zhj P xt=true) (w:World) :
    (ex (.binOp .eql xt x y yt) ty (rho ge)).run P w= .ok (.value (.bool p.isNone)) w:=by
 obtain⟨d,hu⟩:=zbf ht
 have he:(Op.equal xt (.pointer p) (.pointer none)).run P w= .ok p.isNone w:=by
  show(Op.equalIn (9999+1) xt (.pointer p) (.pointer none)).run P w=_
  unfold Op.equalIn
  rw [run_bind',hu]
  cases p <;> rfl
 refine zXc (by rw [hx,hy]; rfl) ?_
 rw [hx,hy]
 show(Op.equal xt (.pointer p) (.pointer none) >>= fun r=>pure (Value.bool (r))).run P w=_
 rw [run_bind',he]
 rfl
theorem zE {p:Option Addr} (hx:rho ge x= .pointer p) (hy:rho ge y= .pointer none) (ht:zhj P xt=true) (w:World) :
    (ex (.binOp .neq xt x y yt) ty (rho ge)).run P w= .ok (.value (.bool (!p.isNone))) w:=by
 obtain⟨d,hu⟩:=zbf ht
 have he:(Op.equal xt (.pointer p) (.pointer none)).run P w= .ok p.isNone w:=by
  show(Op.equalIn (9999+1) xt (.pointer p) (.pointer none)).run P w=_
  unfold Op.equalIn
  rw [run_bind',hu]
  cases p <;> rfl
 refine zXc (by rw [hx,hy]; rfl) ?_
 rw [hx,hy]
 show(Op.equal xt (.pointer p) (.pointer none) >>= fun r=>pure (Value.bool (!r))).run P w=_
 rw [run_bind',he]
 rfl
theorem zfb {p:Option Addr} {l c:Nat} (hx:rho ge x= .slice p l c) (hy:rho ge y= .slice none 0 0) (ht:zeg P xt=true) (w:World) :
    (ex (.binOp .eql xt x y yt) ty (rho ge)).run P w= .ok (.value (.bool p.isNone)) w:=by
 obtain⟨d,hu⟩:=zfg ht
 have he:(Op.equal xt (.slice p l c) (.slice none 0 0)).run P w= .ok p.isNone w:=by
  show(Op.equalIn (9999+1) xt (.slice p l c) (.slice none 0 0)).run P w=_
  unfold Op.equalIn
  rw [run_bind',hu]
  cases p <;> rfl
 refine zXc (by rw [hx,hy]; rfl) ?_
 rw [hx,hy]
 show(Op.equal xt (.slice p l c) (.slice none 0 0) >>= fun r=>pure (Value.bool (r))).run P w=_
 rw [run_bind',he]
 rfl
theorem zSd {p:Option Nat} (hx:rho ge x= .map p) (hy:rho ge y= .map none) (ht:zHk P xt=true) (w:World) :
    (ex (.binOp .eql xt x y yt) ty (rho ge)).run P w= .ok (.value (.bool p.isNone)) w:=by
 obtain⟨d,hu⟩:=zai ht
 have he:(Op.equal xt (.map p) (.map none)).run P w= .ok p.isNone w:=by
  show(Op.equalIn (9999+1) xt (.map p) (.map none)).run P w=_
  unfold Op.equalIn
  rw [run_bind',hu]
  cases p <;> rfl
 refine zXc (by rw [hx,hy]; rfl) ?_
 rw [hx,hy]
 show(Op.equal xt (.map p) (.map none) >>= fun r=>pure (Value.bool (r))).run P w=_
 rw [run_bind',he]
 rfl
end

/-! #### An element of an array value -/
section
variable {P:Program} {n:Nat} {ops:Array Oper} {i:Nat} {ge:GEnv} {w:World} {ty:TypeId} {dst:Option Nat}
theorem zth {α:Type} {t e:TypeId} {x ix:Operand} {k:IntKind} {j:Int} {len:Nat} {f:α→Value} {l:List α} {z:α}
    (hx:rho ge x= .agg (l.map f).toArray) (hi:rho ge ix= .int k j) (ht:P.underlying t=some (.array len e)) (hs:zT P e=some 1) (hp:zRb P e=true) (hl:l.length=len)
    (h0:0≤j) (h1:j<(len:Int)):(ex (.index t x ix) ty (rho ge)).run P w= .ok (.value (f (l.getD j.toNat z))) w:=by
 subst hl
 have hj:j.toNat<l.length:=O_
 unfold ex execOp Instr.index
 simp only [hx,hi]
 simp only [run_bind',asIntOf,zi ht,Sem.run,pure]
 rw [if_pos ⟨h0,h1⟩]
 simp only [run_bind',zO hs,part,zzb hp,Nat.mul_one,Sem.run,pure]
 simp [hj,Sem.run,pure]

end

/-! #### []byte("a constant"): the row's mark -/
section
variable {P:Program} {n:Nat} {ops:Array Oper} {i:Nat} {ge:GEnv} {w:World} {ty:TypeId} {dst:Option Nat}
end
end

/-! ### A region that draws its order and holds calls that write: the walk goes by ONE order; loads and reckoning may be moved -/
def zid (ops:Array Oper) (i j:Nat):Bool:=match ops[i]? with
 | some o=>o.after.any fun e=>Region.binds .any e&&Nat.beq e.on j
 | none=>false
def canB (ops:Array Oper) (L:List Nat) (i:Nat):Bool:=match ops[i]? with
 | some o=> !L.contains i&&o.after.all fun e=> !Region.binds .any e||L.contains e.on
 | none=>false
def zuh (ops:Array Oper) (L:List Nat) (e:Nat):Bool:=(List.range ops.size).all fun j=>Nat.beq j e|| !canB ops L j
def mixB (ops:Array Oper):Bool :=
 Region.noSelect ops&&(List.range ops.size).all fun i=>(match ops[i]? with
  | none=>true
  | some o=>(o.after.all fun e=> !Region.binds .any e||Nat.blt e.on i)&&(List.range ops.size).all fun j=>Nat.beq i j||(match (ops[j]?).bind (·.dst) with
   | none=>true
   | some d=>(o.dst != some d)&&(!(o.looksAt ops).contains d||zid ops i j||zid ops j i)))
def zYc (ops:Array Oper) (L:List Nat):List Nat→Bool
 | []=>true
 | i::r=>canB ops L i&&zYc ops (L++[i]) r
def zvh (ops:Array Oper) (π:List Nat):Bool:=zYc ops [] π
def zTd (ops:Array Oper) (e:Nat):List Nat→List Nat→Bool
 | _,[]=>true
 | seen,p::r=>(zid ops e p||seen.any fun q=>zid ops q p)&&zTd ops e (p::seen) r

abbrev Pds:=List (Nat×(World→Prop))
def zfc:Pds→World→Prop
 | [],_=>True
 | p::r,w=>p.2 w∧zfc r w
theorem zfc.mem {w:World}:∀ {l:Pds},zfc l w→∀ p∈l,p.2 w
 | _::_,h,p,hp=>by
  rcases List.mem_cons.1 hp with rfl | hp
  ·exact h.1
  ·exact zfc.mem h.2 p hp
def zsc (D:List Nat) (pd:Pds):Pds:=pd.filter fun p=> !D.contains p.1

theorem zwh {ops:Array Oper} (h:mixB ops=true) {i:Nat} {o:Oper} (hi:ops[i]? =some o):∀ e∈o.after,Region.binds .any e=true→e.on<i:=by
 simp only [mixB,Bool.and_eq_true] at h
 have h1:=List.all_eq_true.1 h.2 i (List.mem_range.2 (getElem?_lt hi))
 simp only [hi,Bool.and_eq_true] at h1
 intro e he hb
 have h2:=Array.all_eq_true_iff_forall_mem.1 h1.1 e he
 simpa [hb,Nat.blt_eq] using h2
theorem zUd {ops:Array Oper} (h:mixB ops=true) {i j d:Nat} {o:Oper} (hi:ops[i]? =some o) (hj:(ops[j]?).bind (·.dst)=some d) (hne:i≠j) :
    o.dst≠some d∧(d∈o.looksAt ops→zid ops i j=true∨zid ops j i=true):=by
 simp only [mixB,Bool.and_eq_true] at h
 have h1:=List.all_eq_true.1 h.2 i (List.mem_range.2 (getElem?_lt hi))
 simp only [hi,Bool.and_eq_true] at h1
 have hjl:j<ops.size:=by
  cases hj':ops[j]? with
  | none=>rw [hj'] at hj; cases hj
  | some x=>exact getElem?_lt hj'
 have h2:=List.all_eq_true.1 h1.2 j (List.mem_range.2 hjl)
 simp only [hj,Bool.or_eq_true] at h2
 have h2:=h2.resolve_left (by simpa using hne)
 simp only [Bool.and_eq_true,bne_iff_ne,Bool.or_eq_true,Bool.not_eq_true',ne_eq] at h2
 refine⟨h2.1,fun hd=> ?_⟩
 rcases h2.2 with (h3 | h3) | h3
 ·have:(o.looksAt ops).contains d=true:=by simpa using hd
  rw [this] at h3; cases h3
 ·exact .inl h3
 ·exact .inr h3
theorem zgb {ops:Array Oper} (h:mixB ops=true) {i j d:Nat} (hi:(ops[i]?).bind (·.dst)=some d) (hj:(ops[j]?).bind (·.dst)=some d):i=j:=by
 by_cases hne:i=j
 ·exact hne
 ·cases hi':ops[i]? with
  | none=>rw [hi'] at hi; cases hi
  | some o =>
   rw [hi'] at hi
   exact absurd hi (zUd h hi' hj hne).1
theorem zKf {ops:Array Oper} (h:mixB ops=true) {i:Nat} {o:Oper} (hi:ops[i]? =some o):∀ cs b,o.op≠ .select cs b:=by
 simp only [mixB,Bool.and_eq_true] at h
 exact fun cs b=>Region.noSelect_spec h.1 i o cs b hi

theorem zFb {ops:Array Oper} {i j:Nat} (h:zid ops i j=true):∃ o,ops[i]? =some o∧∃ e∈o.after,Region.binds .any e=true∧e.on=j:=by
 unfold zid at h
 split at h
 ·rename_i o ho
  obtain⟨e,he,hb⟩:=Array.any_eq_true'.1 h
  simp only [Bool.and_eq_true] at hb
  exact⟨o,ho,e,he,hb.1,Nat.eq_of_beq_eq_true hb.2⟩
 ·cases h
theorem zcf {ops:Array Oper} {L:List Nat} {i:Nat} (h:canB ops L i=true):i∉L∧∃ o,ops[i]? =some o∧∀ e∈o.after,Region.binds .any e=true→e.on∈L:=by
 unfold canB at h
 split at h
 ·rename_i o ho
  simp only [Bool.and_eq_true,Bool.not_eq_true'] at h
  refine⟨by simpa using h.1,o,ho,fun e he hb=> ?_⟩
  have:=Array.all_eq_true_iff_forall_mem.1 h.2 e he
  simpa [hb] using this
 ·cases h

theorem zdf {ops:Array Oper} {o:Oper} (hsel:∀ cs b,o.op≠ .select cs b) {t t':Array Value} (h:∀ s∈o.looksAt ops,t.getD s undef=t'.getD s undef) :
    execOp (Act.eval ⟨t,[]⟩) o=execOp (Act.eval ⟨t',[]⟩) o∧Region.wanted o (yielded ops t)=Region.wanted o (yielded ops t'):=by
 refine⟨execOp_congr o hsel fun x hx=> ?_,?_⟩
 ·cases x with
  | tmp s =>
   refine h s (List.mem_append_left _ (List.mem_filterMap.2 ⟨.tmp s,by simpa using hx,rfl⟩))
  | const u=>rfl
  | global g=>rfl
  | func f=>rfl
 ·unfold Region.wanted
  cases hg:o.guard with
  | none=>rfl
  | some jw =>
   obtain⟨j,want⟩:=jw
   simp only
   cases hs:(ops[j]?).bind (·.dst) with
   | none=>simp [yielded,hs]
   | some s =>
    have he:=h s (List.mem_append_right _ (by simp [hg,hs]))
    have:yielded ops t j=yielded ops t' j:=by
     cases h1:yielded ops t j with
     | some b=>exact((z5 hs b).2 (he ▸ (z5 hs b).1 h1)).symm
     | none =>
      cases h2:yielded ops t' j with
      | none=>rfl
      | some b=>rw [(z5 hs b).2 (he.trans ((z5 hs b).1 h2))] at h1; cases h1
    rw [this]

/-- Where a walk by one order stands, and what may be really done by then. -/
structure MSt (P:Program) (n:Nat) (ops:Array Oper) (L:List Nat) (pd:Pds) (t0 tv:Array Value) (listed:Array Bool) (t:Array Value):Prop where
 stat:mixB ops=true
 lclosed:∀ i∈L,∀ o,ops[i]? =some o→∀ e∈o.after,Region.binds .any e=true→e.on∈L
 same:∀ s,(∀ j∈L,(ops[j]?).bind (·.dst)≠some s)→tv.getD s undef=t0.getD s undef
 size:listed.size=ops.size
 sub:∀ i,listed.getD i false=true→i∈L
 closed:∀ j oj,ops[j]? =some oj→listed.getD j false=true→∀ e∈oj.after,Region.binds .any e=true→listed.getD e.on false=true
 tsize:t.size=n
 vsize:tv.size=n
 agree1:∀ s j,listed.getD j false=true→(ops[j]?).bind (·.dst)=some s→t.getD s undef=tv.getD s undef
 agree0:∀ s,(∀ j,listed.getD j false=true→(ops[j]?).bind (·.dst)≠some s)→t.getD s undef=t0.getD s undef
 pend:∀ i∈L,listed.getD i false=false→∃ o v tvi C,ops[i]? =some o∧((i,C)∈pd∨C=fun _=>True)∧YieldsIf P ops C o v ⟨tvi,[]⟩∧(∀ d,o.dst=some d→tv.getD d undef=v∧d<n) ∧
  ∀ s∈o.looksAt ops,(∀ j,zid ops i j=true→(ops[j]?).bind (·.dst)=some s→tvi.getD s undef=tv.getD s undef) ∧
   ((∀ j,zid ops i j=true→(ops[j]?).bind (·.dst)≠some s)→tvi.getD s undef=t0.getD s undef)

theorem zL {t:Array Value} {dst:Option Nat} {v:Value} {s:Nat} (h:dst≠some s):(Act.put ⟨t,[]⟩ dst v).tmps.getD s undef=t.getD s undef:=by
 cases dst with
 | none=>rfl
 | some d =>
  show(t.setIfInBounds d v).getD s undef=_
  rw [Array.getD_eq_getD_getElem?,Array.getD_eq_getD_getElem?,Array.getElem?_setIfInBounds_ne (fun e=>h (by rw [e]))]
theorem zKc {t:Array Value} {v:Value} {s:Nat} (h:s<t.size):(Act.put ⟨t,[]⟩ (some s) v).tmps.getD s undef=v:=by
 show(t.setIfInBounds s v).getD s undef=_
 rw [Array.getD_eq_getD_getElem?,Array.getElem?_setIfInBounds_self_of_lt h]; rfl
theorem zze {t:Array Value} {dst:Option Nat} {v:Value}:(Act.put ⟨t,[]⟩ dst v).tmps.size=t.size:=by
 cases dst with
 | none=>rfl
 | some d=>show(t.setIfInBounds d v).size=_; simp
theorem zsn {t:Array Value} {dst:Option Nat} {v:Value}:Act.put ⟨t,[]⟩ dst v=⟨(Act.put ⟨t,[]⟩ dst v).tmps,[]⟩:=by
 cases dst <;> rfl

def unl (ops:Array Oper) (listed:Array Bool):Nat:=((List.range ops.size).filter fun i=> !listed.getD i true).length
theorem zef {ops:Array Oper} {listed:Array Bool} {i:Nat} (hi:i<ops.size) (hl:listed.getD i true=false):unl ops (listed.setIfInBounds i true)<unl ops listed:=by
 unfold unl
 have hle:((List.range ops.size).filter fun k=> !(listed.setIfInBounds i true).getD k true)=((List.range ops.size).filter fun k=> !listed.getD k true).filter fun k=>k != i:=by
  rw [List.filter_filter]
  refine List.filter_congr fun k hk=> ?_
  by_cases hki:i=k
  ·subst hki
   have:(listed.setIfInBounds i true).getD i true=true:=by
    rw [Array.getD_eq_getD_getElem?]
    by_cases hs:i<listed.size
    ·rw [Array.getElem?_setIfInBounds_self_of_lt hs]; rfl
    ·rw [Array.getElem?_eq_none (by simp; omega)]; rfl
   rw [this]; simp
  ·rw [getD_set_ne true hki]
   have:(k != i)=true:=by simpa using fun h=>hki h.symm
   rw [this]; simp
 rw [hle,List.length_filter_lt_length_iff_exists]
 exact⟨i,List.mem_filter.2 ⟨List.mem_range.2 hi,by rw [hl]; rfl⟩,by simp⟩

theorem zke {ops:Array Oper} {listed:Array Bool} (hs:mixB ops=true) (hsz:listed.size=ops.size):∀ i,i<ops.size→listed.getD i false=false→Region.ready .any ops listed≠[]:=by
 intro i
 induction i using Nat.strongRecOn with
 | _ i ih =>
  intro hi hu hr
  have ho:ops[i]? =some ops[i]:=Array.getElem?_eq_getElem hi
  by_cases h:∃ e∈(ops[i]).after,Region.binds .any e=true∧listed.getD e.on false=false
  ·obtain⟨e,he,hb,hf⟩:=h
   have hlt:=zwh hs ho e he hb
   exact ih e.on hlt O_ hf hr
  ·have:i∈Region.ready .any ops listed:=mem_ready.2 ⟨getD_in O_ hu,_,ho,fun e he hb=>by
     cases hx:listed.getD e.on false with
     | true=>rfl
     | false=>exact absurd ⟨e,he,hb,hx⟩ h⟩
   rw [hr] at this; cases this

section
variable {P:Program} {n:Nat} {ops:Array Oper} {Q:Exit→Act→World→Prop}

/-- What really comes up next is one that the walk has passed. -/
theorem MSt.real {L:List Nat} {pd:Pds} {t0 tv:Array Value} {listed:Array Bool} {t:Array Value} {w:World} (m:MSt P n ops L pd t0 tv listed t) (hw:zfc pd w) {j:Nat}
    (hr:j∈Region.ready .any ops listed) (hj:j∈L) :
    ∃ t',(∀ K:Act→World→Prop,K ⟨t',[]⟩ w→wpOp P ops Q j K ⟨t,[]⟩ w)∧MSt P n ops L pd t0 tv (listed.setIfInBounds j true) t':=by
 obtain⟨hun,o',ho',hall⟩:=mem_ready.1 hr
 have hunf:=getD_both hun
 obtain⟨o,v,tvi,C,ho,hC,hy,hv,hl⟩:=m.pend j hj hunf
 obtain rfl:o'=o:=Option.some.inj (ho'.symm.trans ho)
 have hjl:=getElem?_lt ho
 have hds:(ops[j]?).bind (·.dst)=o'.dst:=by rw [ho]; rfl
 have hCw:C w:=by
  rcases hC with hC | rfl
  ·exact hw.mem _ hC
  ·trivial
 have hagree:∀ s∈o'.looksAt ops,t.getD s undef=tvi.getD s undef:=by
  intro s hs
  by_cases hex:∃ k,zid ops j k=true∧(ops[k]?).bind (·.dst)=some s
  ·obtain⟨k,hk,hkd⟩:=hex
   obtain⟨o2,ho2,e,he,hb,hon⟩:=zFb hk
   obtain rfl:o2=o':=Option.some.inj (ho2.symm.trans ho)
   have hlk:listed.getD k false=true:=hon ▸ hall e he hb
   rw [m.agree1 s k hlk hkd,(hl s hs).1 k hk hkd]
  ·rw [(hl s hs).2 fun k hk hkd=>hex ⟨k,hk,hkd⟩]
   refine m.agree0 s fun k hlk hkd=> ?_
   have hne:j≠k:=fun e=>by subst e; rw [hunf] at hlk; cases hlk
   rcases (zUd m.stat ho hkd hne).2 hs with h1 | h1
   ·exact hex ⟨k,h1,hkd⟩
   ·obtain⟨o2,ho2,e,he,hb,hon⟩:=zFb h1
    have:=m.closed k o2 ho2 hlk e he hb
    rw [hon,hunf] at this; cases this
 obtain⟨h1,h2⟩:=zdf (zKf m.stat ho) hagree
 have hy':YieldsIf P ops C o' v ⟨t,[]⟩:=hy.of_same h1 h2
 refine⟨(Act.put ⟨t,[]⟩ o'.dst v).tmps,fun K hK=>hy'.wpOp ho hCw (by rw [zsn]; exact hK),?_⟩
 refine⟨m.stat,m.lclosed,m.same,by simp [m.size],fun i hi=> ?_,fun i oi hoi hi e he hb=> ?_,by rw [zze]; exact m.tsize,m.vsize,fun s k hk hkd=> ?_,fun s hk=> ?_,fun i hi hil=> ?_⟩
 ·by_cases hij:j=i
  ·exact hij ▸ hj
  ·rw [getD_set_ne false hij] at hi; exact m.sub i hi
 ·by_cases hij:j=i
  ·subst hij
   obtain rfl:oi=o':=Option.some.inj (hoi.symm.trans ho)
   exact getD_set_true (hall e he hb)
  ·rw [getD_set_ne false hij] at hi
   exact getD_set_true (m.closed i oi hoi hi e he hb)
 ·by_cases hjk:j=k
  ·subst hjk
   rw [hds] at hkd
   rw [hkd,zKc (by rw [m.tsize]; exact(hv s hkd).2)]
   exact(hv s hkd).1.symm
  ·rw [getD_set_ne false hjk] at hk
   rw [zL (fun h=>hjk (zgb m.stat (hds.trans h) hkd))]
   exact m.agree1 s k hk hkd
 ·have hjs:o'.dst≠some s:=fun h=>hk j (by
    rw [Array.getD_eq_getD_getElem?,Array.getElem?_setIfInBounds_self_of_lt (by rw [m.size]; exact hjl)]; rfl) (hds.trans h)
  rw [zL hjs]
  refine m.agree0 s fun k hlk=>hk k (getD_set_true hlk)
 ·refine m.pend i hi ?_
  by_cases hij:j=i
  ·subst hij
   rw [Array.getD_eq_getD_getElem?,Array.getElem?_setIfInBounds_self_of_lt (by rw [m.size]; exact hjl)] at hil; cases hil
  ·rwa [getD_set_ne false hij] at hil

def MX (P:Program) (n:Nat) (ops:Array Oper) (Q:Exit→Act→World→Prop) (π:List Nat) (pd:Pds) (w:World) (i:Nat) (tv:Array Value):Prop :=
 i≤π.length∧(zvh ops π=true→∀ t0 listed t,MSt P n ops (π.take i) pd t0 tv listed t→zfc pd w→∀ fuel,unl ops listed≤fuel→wpAny P .any ops Q fuel listed ⟨t,[]⟩ w)
def RegM (P:Program) (n:Nat) (ops:Array Oper) (Q:Exit→Act→World→Prop) (π:List Nat) (pd:Pds) (i:Nat) (ge:GEnv) (w:World):Prop:=RegX (MX P n ops Q π pd w) n i ge

theorem zTb:∀ {r L:List Nat} {i:Nat} {x:Nat},zYc ops L r=true→r[i]? =some x→canB ops (L++r.take i) x=true
 | y::r,L,0,x,h,hx=>by
  simp only [zYc,Bool.and_eq_true] at h
  simp only [List.getElem?_cons_zero,Option.some.injEq] at hx
  subst hx
  simpa using h.1
 | y::r,L,i+1,x,h,hx=>by
  simp only [zYc,Bool.and_eq_true] at h
  simp only [List.getElem?_cons_succ] at hx
  have:=zTb h.2 hx
  simpa using this

/-- One operation is passed by the walk: it yields v wherever C holds. -/
theorem MX.pass {π:List Nat} {pd pd':Pds} {w:World} {k i:Nat} {tv:Array Value} {o:Oper} {v:Value} {C:World→Prop} (hk:π[k]? =some i) (ho:ops[i]? =some o)
    (hd:∀ d,o.dst=some d→d<n) (hpd:(i,C)∈pd'∨C=fun _=>True) (hsub:∀ p∈pd,p∈pd') (hpw:zfc pd w→zfc pd' w)
    (hy:tv.size=n→YieldsIf P ops C o v ⟨tv,[]⟩) (h:MX P n ops Q π pd' w (k+1) (Act.put ⟨tv,[]⟩ o.dst v).tmps):MX P n ops Q π pd w k tv:=by
 obtain⟨hle,h⟩:=h
 refine⟨Nat.le_of_succ_le hle,fun hord t0 listed t m hw fuel hf=> ?_⟩
 have htk:π.take (k+1)=π.take k++[i]:=by rw [List.take_add_one,hk]; rfl
 have hcan:=zTb hord hk
 rw [List.nil_append] at hcan
 obtain⟨hiL,o',ho',haft⟩:=zcf hcan
 obtain rfl:o'=o:=Option.some.inj (ho'.symm.trans ho)
 have hds:(ops[i]?).bind (·.dst)=o'.dst:=by rw [ho]; rfl
 refine h hord t0 listed t ?_ (hpw hw) fuel hf
 rw [htk]
 have hmem:∀ {x},x∈π.take k++[i]↔x∈π.take k∨x=i:=fun {x}=>by simp
 have hwi:∀ x,x∈π.take k→zid ops x i=true→False:=fun x hx hxw=>by
  obtain⟨o2,ho2,e,he,hb,hon⟩:=zFb hxw
  exact hiL (hon ▸ m.lclosed x hx o2 ho2 e he hb)
 have hself:zid ops i i=true→False:=fun hxw=>by
  obtain⟨o2,ho2,e,he,hb,hon⟩:=zFb hxw
  have:=zwh m.stat ho2 e he hb
  omega
 have hun:listed.getD i false=false:=by
  cases hx:listed.getD i false with
  | false=>rfl
  | true=>exact absurd (m.sub i hx) hiL
 refine⟨m.stat,fun x hx ox hox e he hb=> ?_,fun s hs=> ?_,m.size,fun x hx=>hmem.2 (.inl (m.sub x hx)),m.closed,m.tsize,by rw [zze]; exact m.vsize,fun s j hj hjd=> ?_,m.agree0,fun x hx hxl=> ?_⟩
 ·rcases hmem.1 hx with hx | rfl
  ·exact hmem.2 (.inl (m.lclosed x hx ox hox e he hb))
  ·obtain rfl:ox=o':=Option.some.inj (hox.symm.trans ho)
   exact hmem.2 (.inl (haft e he hb))
 ·rw [zL (fun h=>hs i (hmem.2 (.inr rfl)) (hds.trans h))]
  exact m.same s fun j hj=>hs j (hmem.2 (.inl hj))
 ·rw [zL (fun h=>by
    have:=zgb m.stat hjd (hds.trans h)
    subst this; rw [hun] at hj; cases hj)]
  exact m.agree1 s j hj hjd
 ·rcases hmem.1 hx with hxk | rfl
  ·obtain⟨ox,vx,tvx,Cx,hox,hCx,hyx,hvx,hlx⟩:=m.pend x hxk hxl
   have hxi:x≠i:=fun e=>hiL (e ▸ hxk)
   refine⟨ox,vx,tvx,Cx,hox,hCx.imp (fun h=>hsub _ h) id,hyx,fun d hdx=> ?_,fun s hs=>⟨fun j hj hjd=> ?_,(hlx s hs).2⟩⟩
   ·rw [zL (fun h=>hxi (zgb m.stat (by rw [hox]; exact hdx) (hds.trans h)))]
    exact hvx d hdx
   ·rw [zL (fun h=>by
      have:=zgb m.stat hjd (hds.trans h)
      subst this; exact hwi x hxk hj)]
    exact(hlx s hs).1 j hj hjd
  ·refine⟨o',v,tv,C,ho,hpd,hy m.vsize,fun d hdx=>⟨by rw [hdx,zKc (by rw [m.vsize]; exact hd d hdx)],hd d hdx⟩,fun s hs=>⟨fun j hj hjd=> ?_,fun hno=> ?_⟩⟩
   ·rw [zL (fun h=>by
      have:=zgb m.stat hjd (hds.trans h)
      subst this; exact hself hj)]
   ·refine m.same s fun j hj hjd=> ?_
    have hne:x≠j:=fun e=>hiL (e ▸ hj)
    rcases (zUd m.stat ho hjd hne).2 hs with h1 | h1
    ·exact hno j h1 hjd
    ·exact hwi j hj h1

/-- The region's end: all has been passed; what is not done yet comes up in some order. -/
theorem MX.done {π:List Nat} {pd:Pds} {w:World} {k:Nat} {tv:Array Value} (hk:k=π.length) (hall:((List.range ops.size).all fun j=>π.contains j)=true)
    (h:∀ t,t.size=n→(∀ s,t.getD s undef=tv.getD s undef)→Q .normal ⟨t,[]⟩ w):MX P n ops Q π pd w k tv:=by
 subst hk
 refine⟨Nat.le_refl _,fun _ t0 listed t m hw fuel hf=> ?_⟩
 rw [List.take_length] at m
 have hin:∀ j,j<ops.size→j∈π:=fun j hj=>by simpa using List.all_eq_true.1 hall j (List.mem_range.2 hj)
 induction fuel generalizing listed t with
 | zero =>
  have hz:unl ops listed=0:=Nat.le_zero.1 hf
  have hlist:∀ j,j<ops.size→listed.getD j true=true:=fun j hj=>by
   cases hx:listed.getD j true with
   | true=>rfl
   | false =>
    have:unl ops (listed.setIfInBounds j true)<unl ops listed:=zef hj hx
    omega
  have hre:Region.ready .any ops listed=[]:=by
   cases hr:Region.ready .any ops listed with
   | nil=>rfl
   | cons x xs =>
    obtain⟨hx,ox,hox,_⟩:=mem_ready.1 (show x∈Region.ready .any ops listed by rw [hr]; exact List.mem_cons_self ..)
    rw [hlist x (getElem?_lt hox)] at hx; cases hx
  refine⟨hre,h t m.tsize fun s=> ?_⟩
  by_cases hw:∃ j:Nat,(ops[j]?).bind (·.dst)=some s
  ·obtain⟨j,hj⟩:=hw
   have hjl:j<ops.size:=by
    cases hj':ops[j]? with
    | none=>rw [hj'] at hj; cases hj
    | some x=>exact getElem?_lt hj'
   refine m.agree1 s j ?_ hj
   have:=hlist j hjl
   rw [Array.getD_eq_getD_getElem?,Array.getElem?_eq_getElem (by rw [m.size]; exact hjl)] at this ⊢
   exact this
  ·rw [m.agree0 s fun j _ hj=>hw ⟨j,hj⟩,m.same s fun j _ hj=>hw ⟨j,hj⟩]
 | succ fuel ih =>
  refine⟨fun hre=> ?_,fun j hj=> ?_⟩
  ·have hlist:∀ j,j<ops.size→listed.getD j false=true:=fun j hj=>by
     cases hx:listed.getD j false with
     | true=>rfl
     | false=>exact absurd hre (zke m.stat m.size j hj hx)
   refine h t m.tsize fun s=> ?_
   by_cases hw:∃ j:Nat,(ops[j]?).bind (·.dst)=some s
   ·obtain⟨j,hj⟩:=hw
    have hjl:j<ops.size:=by
     cases hj':ops[j]? with
     | none=>rw [hj'] at hj; cases hj
     | some x=>exact getElem?_lt hj'
    exact m.agree1 s j (hlist j hjl) hj
   ·rw [m.agree0 s fun j _ hj=>hw ⟨j,hj⟩,m.same s fun j _ hj=>hw ⟨j,hj⟩]
  ·obtain⟨hun,oj,hoj,_⟩:=mem_ready.1 hj
   have hjl:=getElem?_lt hoj
   obtain⟨t',hK,m'⟩:=m.real (Q:=Q) hw hj (hin j hjl)
   exact hK _ (ih _ _ m' (by have:=zef hjl hun; omega))

theorem zle {listed:Array Bool} (hcl:∀ j oj,ops[j]? =some oj→listed.getD j false=true→∀ e∈oj.after,Region.binds .any e=true→listed.getD e.on false=true) {e:Nat}
    (he:∀ p,zid ops e p=true→listed.getD p false=true):∀ {D seen:List Nat},zTd ops e seen D=true→(∀ q∈seen,listed.getD q false=true)→∀ p∈D,listed.getD p false=true
 | x::D,seen,h,hs,p,hp=>by
  simp only [zTd,Bool.and_eq_true,Bool.or_eq_true] at h
  have hx:listed.getD x false=true:=by
   rcases h.1 with h1 | h1
   ·exact he x h1
   ·obtain⟨q,hq,hw⟩:=List.any_eq_true.1 h1
    obtain⟨o,ho,ed,hed,hb,hon⟩:=zFb hw
    exact hon ▸ hcl q o ho (hs q hq) ed hed hb
  rcases List.mem_cons.1 hp with rfl | hp
  ·exact hx
  ·exact zle hcl he h.2 (fun q hq=>by
     rcases List.mem_cons.1 hq with rfl | hq
     ·exact hx
     ·exact hs q hq) p hp

/-- What happens if operation e comes up, once the walk has passed L. -/
def zgg (P:Program) (n:Nat) (ops:Array Oper) (Q:Exit→Act→World→Prop) (L:List Nat) (pd:Pds) (ge:GEnv) (w:World) (e:Nat):Prop :=
 ∀ tv,Inv n tv ge→∀ t0 listed t,MSt P n ops L pd t0 tv listed t→zfc pd w→∀ fuel,unl ops listed≤fuel+1→e∈Region.ready .any ops listed →
  wpOp P ops Q e (wpAny P .any ops Q fuel (listed.setIfInBounds e true)) ⟨t,[]⟩ w

theorem zhg {π:List Nat} {pd:Pds} {k:Nat} {ge:GEnv} {w:World} {op:Op} {ty:TypeId} {dst:Option Nat} (j:Nat) (D:List Nat) (pd':Pds) {L:List Nat}
    (hord:zvh ops π=true) (hL:π.take k=L) (hk:π[k]? =some j) (hD:zTd ops j [] D=true) (hpd:zsc D pd=pd')
    (ho:opAt n ops ge j=some (op,ty,dst)) (h:OpS P op ty (rho ge) w (fun v w'=>zfc pd' w'∧RegM P n ops Q π pd' (k+1) (putG dst v ge) w')):zgg P n ops Q L pd ge w j:=by
 intro tv hinv t0 listed t m hw fuel hf hj
 subst hpd
 subst hL
 unfold opAt at ho
 cases hoi:ops[j]? with
 | none=>rw [hoi] at ho; cases ho
 | some oj =>
  rw [hoi] at ho
  simp only at ho
  obtain⟨hc,ho⟩:=zxb ho
  simp only [Bool.and_eq_true] at hc
  obtain⟨⟨⟨hg,hsel⟩,hav⟩,hdst⟩:=hc
  simp only [Option.some.injEq,Prod.mk.injEq] at ho
  obtain⟨hop,hty,hds⟩:=ho
  have hH:Holds tv []:=fun p hp=>by cases hp
  have hexec:execOp (Act.eval ⟨tv,[]⟩) oj=execOp (rho ge) oj:=zEc hinv hH hsel hav
  have hwt:=z6 (ops:=ops) hinv hg
  have hdb:(ops[j]?).bind (·.dst)=oj.dst:=by rw [hoi]; rfl
  have hcan:=zTb hord hk
  rw [List.nil_append] at hcan
  obtain⟨heL,o',ho',haft⟩:=zcf hcan
  obtain rfl:o'=oj:=Option.some.inj (ho'.symm.trans hoi)
  have htk:π.take (k+1)=π.take k++[j]:=by rw [List.take_add_one,hk]; rfl
  have hmem:∀ {x},x∈π.take k++[j]↔x∈π.take k∨x=j:=fun {x}=>by simp
  have hel:=getElem?_lt hoi
  have hwe:∀ x,x∈π.take k→zid ops x j=true→False:=fun x hx hxw=>by
   obtain⟨o2,ho2,ed,hed,hb,hon⟩:=zFb hxw
   exact heL (hon ▸ m.lclosed x hx o2 ho2 ed hed hb)
  obtain⟨hj1,oz,hoz,hall⟩:=mem_ready.1 hj
  obtain rfl:oz=o':=Option.some.inj (hoz.symm.trans hoi)
  have hwl:∀ p,zid ops j p=true→listed.getD p false=true:=fun p hp=>by
   obtain⟨o2,ho2,ed,hed,hb,hon⟩:=zFb hp
   obtain rfl:o2=oz:=Option.some.inj (ho2.symm.trans hoi)
   exact hon ▸ hall ed hed hb
  have hdrop:=zle m.closed hwl hD (fun q hq=>by cases hq)
  have hagree:∀ s∈oz.looksAt ops,t.getD s undef=tv.getD s undef:=by
   intro s hs
   by_cases hex:∃ x,listed.getD x false=true∧(ops[x]?).bind (·.dst)=some s
   ·obtain⟨x,hx,hxd⟩:=hex
    exact m.agree1 s x hx hxd
   ·rw [m.agree0 s fun x hx hxd=>hex ⟨x,hx,hxd⟩]
    refine(m.same s fun x hx hxd=> ?_).symm
    have hne:j≠x:=fun e=>heL (e ▸ hx)
    rcases (zUd m.stat hoi hxd hne).2 hs with h1 | h1
    ·exact hex ⟨x,hwl x h1,hxd⟩
    ·exact hwe x hx h1
  obtain⟨h1,h2⟩:=zdf (zKf m.stat hoi) hagree
  have hput:∀ v w',zfc (zsc D pd) w'∧RegM P n ops Q π (zsc D pd) (k+1) (putG dst v ge) w' →
      wpAny P .any ops Q fuel (listed.setIfInBounds j true) (Act.put ⟨t,[]⟩ oz.dst v) w':=by
   intro v w' ⟨hp',hr⟩
   have hdn:∀ d,oz.dst=some d→d<n∧zEf ge d=true:=fun d hd=>by
    rw [hd] at hdst
    simp only [Bool.and_eq_true,Nat.blt_eq] at hdst
    exact hdst
   have hinv':Inv n (Act.put ⟨tv,[]⟩ oz.dst v).tmps (putG dst v ge):=by
    rw [hds] at hdst ⊢
    cases dst with
    | none=>exact hinv
    | some d =>
     simp only [Bool.and_eq_true] at hdst
     exact hinv.put (v:=v) (u:=v) hdst.1 hdst.2 (fun p hp=>by cases hp) (fun _=>rfl) (fun hh=>absurd hH hh)
   rw [zsn]
   refine(hr _ hinv').2 hord t0 _ _ ?_ hp' fuel (by have:=zef hel hj1; omega)
   rw [htk]
   refine⟨m.stat,fun x hx ox hox ed hed hb=> ?_,fun s hs=> ?_,by simp [m.size],fun x hx=> ?_,fun x ox hox hx ed hed hb=> ?_,by rw [zze]; exact m.tsize,by rw [zze]; exact m.vsize,fun s x hx hxd=> ?_,fun s hs=> ?_,fun x hx hxl=> ?_⟩
   ·rcases hmem.1 hx with hx | rfl
    ·exact hmem.2 (.inl (m.lclosed x hx ox hox ed hed hb))
    ·obtain rfl:ox=oz:=Option.some.inj (hox.symm.trans hoi)
     exact hmem.2 (.inl (haft ed hed hb))
   ·rw [zL (fun h=>hs j (hmem.2 (.inr rfl)) (hdb.trans h))]
    exact m.same s fun x hx=>hs x (hmem.2 (.inl hx))
   ·by_cases hjx:j=x
    ·exact hmem.2 (.inr hjx.symm)
    ·rw [getD_set_ne false hjx] at hx; exact hmem.2 (.inl (m.sub x hx))
   ·by_cases hjx:j=x
    ·subst hjx
     obtain rfl:ox=oz:=Option.some.inj (hox.symm.trans hoi)
     exact getD_set_true (hall ed hed hb)
    ·rw [getD_set_ne false hjx] at hx
     exact getD_set_true (m.closed x ox hox hx ed hed hb)
   ·by_cases hjx:j=x
    ·subst hjx
     rw [hdb] at hxd
     rw [hxd,zKc (by rw [m.tsize]; exact(hdn s hxd).1),zKc (by rw [m.vsize]; exact(hdn s hxd).1)]
    ·rw [getD_set_ne false hjx] at hx
     have hne:oz.dst≠some s:=fun h=>hjx (zgb m.stat (hdb.trans h) hxd)
     rw [zL hne,zL hne]
     exact m.agree1 s x hx hxd
   ·have hjs:oz.dst≠some s:=fun h=>hs j (by
      rw [Array.getD_eq_getD_getElem?,Array.getElem?_setIfInBounds_self_of_lt (by rw [m.size]; exact hel)]; rfl) (hdb.trans h)
    rw [zL hjs]
    exact m.agree0 s fun x hx=>hs x (getD_set_true hx)
   ·have hjx:j≠x:=fun e=>by
      subst e
      rw [Array.getD_eq_getD_getElem?,Array.getElem?_setIfInBounds_self_of_lt (by rw [m.size]; exact hel)] at hxl; cases hxl
    rw [getD_set_ne false hjx] at hxl
    have hxL:x∈π.take k:=(hmem.1 hx).resolve_right fun e=>hjx e.symm
    obtain⟨ox,vx,tvx,Cx,hox,hCx,hyx,hvx,hlx⟩:=m.pend x hxL hxl
    have hxd:(ops[x]?).bind (·.dst)=ox.dst:=by rw [hox]; rfl
    refine⟨ox,vx,tvx,Cx,hox,hCx.imp (fun h=>List.mem_filter.2 ⟨h,?_⟩) id,hyx,fun d hdx=> ?_,fun s hs=>⟨fun y hy hyd=> ?_,(hlx s hs).2⟩⟩
    ·have:x∉D:=fun hxD=>by rw [hdrop x hxD] at hxl; cases hxl
     simpa using this
    ·rw [zL (fun h=>hjx (zgb m.stat (hdb.trans h) (hxd.trans hdx)))]
     exact hvx d hdx
    ·rw [zL (fun h=>by
       have:=zgb m.stat hyd (hdb.trans h)
       subst this; exact hwe x hxL hy)]
     exact(hlx s hs).1 y hy hyd
  unfold wpOp
  simp only [hoi]
  rw [if_pos (h2.trans hwt)]
  refine .inl ?_
  unfold Oper.wp
  rw [h1,hexec,ex_eq,hop,hty]
  unfold OpS at h
  generalize (ex op ty (rho ge)).run P w=r at h ⊢
  cases r with
  | halt x w'=>exact h.elim
  | ok nx w' =>
   cases nx with
   | value v=>exact hput _ _ h
   | skip=>exact hput _ _ h
   | enter f args =>
    refine Calls.mono h ?_
    rintro ev w'' ⟨v,rfl,hr⟩
    exact hput _ _ hr
   | _=>exact h.elim

/-- Whichever of some operations that turn the world comes up next. -/
theorem ztc {π:List Nat} {pd:Pds} {k:Nat} {ge:GEnv} {w:World} (e0:Nat) (es:List Nat) (hk:π[k]? =some e0) (hB:((List.range ops.size).all fun j=>es.contains j|| !canB ops (π.take k) j)=true)
    (h:∀ e∈es,zgg P n ops Q (π.take k) pd ge w e):RegM P n ops Q π pd k ge w:=by
 intro tv hinv
 have hkl:k+1≤π.length:=by
  have:=(List.getElem?_eq_some_iff.1 hk).1; omega
 refine⟨Nat.le_of_succ_le hkl,fun hord t0 listed t m hw fuel hf=> ?_⟩
 have hcan:=zTb hord hk
 rw [List.nil_append] at hcan
 obtain⟨heL,o',ho',haft⟩:=zcf hcan
 have hel:=getElem?_lt ho'
 have hun:∀ {l:Array Bool} {t:Array Value},MSt P n ops (π.take k) pd t0 tv l t→l.getD e0 false=false:=fun {l t} m=>by
  cases hx:l.getD e0 false with
  | false=>rfl
  | true=>exact absurd (m.sub e0 hx) heL
 induction fuel generalizing listed t with
 | zero =>
  have h1:=zef (listed:=listed) hel (getD_in (by rw [m.size]; exact hel) (hun m))
  omega
 | succ fuel ih =>
  refine⟨fun hre=>absurd hre (zke m.stat m.size e0 hel (hun m)),fun j hj=> ?_⟩
  by_cases hjL:j∈π.take k
  ·obtain⟨hj1,oj,hoj,_⟩:=mem_ready.1 hj
   obtain⟨t',hK,m'⟩:=m.real (Q:=Q) hw hj hjL
   exact hK _ (ih _ _ m' (by have:=zef (getElem?_lt hoj) hj1; omega))
  ·obtain⟨hj1,oj,hoj,hall⟩:=mem_ready.1 hj
   have hje:j∈es:=by
    have h1:=List.all_eq_true.1 hB j (List.mem_range.2 (getElem?_lt hoj))
    simp only [Bool.or_eq_true,Bool.not_eq_true'] at h1
    rcases h1 with h1 | h1
    ·simpa using h1
    ·exfalso
     have:canB ops (π.take k) j=true:=by
      unfold canB
      rw [hoj]
      simp only [Bool.and_eq_true,Bool.not_eq_true']
      refine⟨by simpa using hjL,Array.all_eq_true_iff_forall_mem.2 fun ed hed=> ?_⟩
      cases hb:Region.binds .any ed with
      | false=>simp
      | true=>simpa using m.sub _ (hall ed hed hb)
     rw [this] at h1; cases h1
   exact h j hje tv hinv t0 listed t m hw fuel hf hj

/-- One operation that turns the world (a call, a store, a new block): it comes up alone, beside what the walk has passed. -/
theorem z7d {π:List Nat} {pd:Pds} {k:Nat} {ge:GEnv} {w:World} {op:Op} {ty:TypeId} {dst:Option Nat} (e:Nat) (D:List Nat) (pd':Pds)
    (hk:π[k]? =some e) (hB:zuh ops (π.take k) e=true) (hD:zTd ops e [] D=true) (hpd:zsc D pd=pd')
    (ho:opAt n ops ge e=some (op,ty,dst)) (h:OpS P op ty (rho ge) w (fun v w'=>zfc pd' w'∧RegM P n ops Q π pd' (k+1) (putG dst v ge) w')):RegM P n ops Q π pd k ge w:=by
 intro tv hinv
 have hkl:k+1≤π.length:=by
  have:=(List.getElem?_eq_some_iff.1 hk).1; omega
 refine⟨Nat.le_of_succ_le hkl,fun hord t0 listed t m hw fuel hf=> ?_⟩
 refine(ztc (P:=P) (n:=n) (Q:=Q) (pd:=pd) (ge:=ge) (w:=w) e [e] hk ?_ (fun e' he'=> ?_) tv hinv).2 hord t0 listed t m hw fuel hf
 ·rw [List.all_eq_true] at *
  intro j hj
  have:=List.all_eq_true.1 hB j hj
  simp only [Bool.or_eq_true] at this ⊢
  rcases this with h1 | h1
  ·exact .inl (by have:=Nat.eq_of_beq_eq_true h1; simp [this])
  ·exact .inr h1
 ·obtain rfl:=List.mem_singleton.1 he'
  exact zhg e' D pd' hord rfl hk hD hpd ho h

theorem zm {id:Nat} {c:Code} {Q:Exit→Env→World→Prop} {l:Env} {w:World} (π:List Nat) (hc:c= .region id ops true)
    (hm:P.follows .mixedOrders=true) (hB:mixB ops=true) (hO:zvh ops π=true)
    (h:∀ w1,(∃ k,w1=w.drewN k)→RegM P n ops (zjb n Q) π [] 0 (toG l) w1):WpE P n c Q l w:=by
 subst hc
 intro t ha
 refine wp_region_any hm ?_
 have h:=(h w.drew ⟨1,rfl⟩ t ha.inv).2 hO t (Array.replicate ops.size false) t ?_ trivial ops.size ?_
 ·exact h
 ·refine⟨hB,fun i hi=>(by simp at hi),fun _ _=>rfl,by simp,fun i hi=> ?_,fun j oj _ hl=> ?_,ha.1,ha.1,fun s j hj=> ?_,fun _ _=>rfl,fun i hi=>(by simp at hi)⟩
  ·rw [getD_replicate_false] at hi; cases hi
  ·rw [getD_replicate_false] at hl; cases hl
  ·rw [getD_replicate_false] at hj; cases hj
 ·unfold unl
  exact Nat.le_trans (List.length_filter_le _ _) (by simp)

/-- The law of a step at one place. -/
theorem lawM {π:List Nat} {pd:Pds} {w:World} {k i:Nat} (hk:π[k]? =some i):zag P ops i (MX P n ops Q π pd w k) (MX P n ops Q π pd w (k+1)) (fun d=>d<n):=by
 constructor
 ·intro d o t v ho hd hdn hw hr h
  exact MX.pass (C:=fun _=>True) hk ho (fun d' hd'=>by rw [hd] at hd'; obtain rfl:=Option.some.inj hd'; exact hdn) (.inr rfl) (fun _ h=>h) (fun h=>h) (fun _=> .inl ⟨hw,fun w _=>hr w⟩) (by rw [hd]; exact h)
 ·intro d o t ho hd hdn hw h
  exact MX.pass (C:=fun _=>True) hk ho (fun d' hd'=>by rw [hd] at hd'; obtain rfl:=Option.some.inj hd'; exact hdn) (.inr rfl) (fun _ h=>h) (fun h=>h) (fun _=> .inr ⟨hw,rfl⟩) (by rw [hd]; exact h)

def znd (P:Program) (n:Nat) (ops:Array Oper) (π:List Nat):List Mode→Nat→GEnv→Option GEnv
 | [],_,ge=>some ge
 | m::ms,k,ge=>match π[k]? with
  | none=>none
  | some i=>match z5h P n ops m i ge with
   | some ge'=>znd P n ops π ms (k+1) ge'
   | none=>none

theorem zZc {π:List Nat} {pd:Pds} {w:World}:∀(ms:List Mode) (k:Nat) (ge ge':GEnv),
    znd P n ops π ms k ge=some ge'→RegM P n ops Q π pd (k+ms.length) ge' w→RegM P n ops Q π pd k ge w
 | [],k,ge,ge',h,hn=>by simp only [znd,Option.some.injEq] at h; subst h; exact hn
 | m::ms,k,ge,ge',h,hn=>by
  simp only [znd] at h
  cases hk:π[k]? with
  | none=>rw [hk] at h; cases h
  | some i =>
   rw [hk] at h
   simp only at h
   cases h1:z5h P n ops m i ge with
   | none=>rw [h1] at h; cases h
   | some g1 =>
    rw [h1] at h
    exact zhe (lawM hk) h1 (zZc ms (k+1) g1 ge' h (by rw [List.length_cons] at hn; rwa [Nat.add_assoc,Nat.add_comm 1]))

theorem zp {π:List Nat} {pd:Pds} {w:World} {k:Nat} {ge:GEnv} (ms:List Mode) (j:Nat) (ge':GEnv)
    (hj:k+ms.length=j) (h:(znd P n ops π ms k ge).map (fun g=>ge'.map (fun p=>zV g p.1))=some (ge'.map (fun p=>some p.2)))
    (hn:RegM P n ops Q π pd j ge' w):RegM P n ops Q π pd k ge w:=by
 cases hs:znd P n ops π ms k ge with
 | none=>rw [hs] at h; cases h
 | some g =>
  rw [hs] at h
  simp only [Option.map_some,Option.some.injEq] at h
  subst hj
  exact zZc ms k ge g hs fun t hinv=>hn t (hinv.prune h)

theorem zLf {π:List Nat} {pd:Pds} {w:World} {k:Nat} {ge:GEnv} (s:Nat) (b:Bool)
    (hs:zV ge s=some ([],.bool b)) (ht:b=true→RegM P n ops Q π pd k (resolve s true ge) w) (hf:b=false→RegM P n ops Q π pd k (resolve s false ge) w) :
    RegM P n ops Q π pd k ge w:=z5d s b hs ht hf

theorem zPb {π:List Nat} {pd:Pds} {w:World} {k:Nat} {ge:GEnv} (ge':GEnv) (he:ge=ge') (h:RegM P n ops Q π pd k ge' w):RegM P n ops Q π pd k ge w:=he ▸ h

theorem zdd {Q:Exit→Env→World→Prop} {π:List Nat} {pd:Pds} {w:World} {k:Nat} {ge:GEnv} (l:Env) (hk:k=π.length) (hall:((List.range ops.size).all fun j=>π.contains j)=true)
    (hl:l.map (fun p=>zV ge p.1)=l.map (fun p=>some ([],p.2))) (h:Q .normal l w):RegM P n ops (zjb n Q) π pd k ge w:=by
 intro tv hinv
 refine MX.done hk hall fun t hs ht=>zjb.mk ⟨hs,fun p hp=> ?_⟩ h
 have:=List.map_inj_left.1 hl p hp
 rw [ht]
 exact(hinv.ok _ _ _ this).1 (fun p hp=>by cases hp)

/-- An operation that reads: what it reads is said by C. -/
theorem zVd {π:List Nat} {pd:Pds} {w:World} {k i:Nat} {ge:GEnv} {op:Op} {ty:TypeId} {dst:Option Nat} (v:Value) (C:World→Prop) (hk:π[k]? =some i)
    (ho:opAt n ops ge i=some (op,ty,dst)) (hr:∀ w',C w'→(ex op ty (rho ge)).run P w'= .ok (.value v) w') (hC:C w)
    (h:RegM P n ops Q π ((i,C)::pd) (k+1) (putG dst v ge) w):RegM P n ops Q π pd k ge w:=by
 intro tv hinv
 unfold opAt at ho
 cases hoi:ops[i]? with
 | none=>rw [hoi] at ho; cases ho
 | some o =>
  rw [hoi] at ho
  simp only at ho
  obtain⟨hc,ho⟩:=zxb ho
  simp only [Bool.and_eq_true] at hc
  obtain⟨⟨⟨hg,hsel⟩,hav⟩,hdst⟩:=hc
  simp only [Option.some.injEq,Prod.mk.injEq] at ho
  obtain⟨hop,hty,hds⟩:=ho
  have hH:Holds tv []:=fun p hp=>by cases hp
  have hexec:execOp (Act.eval ⟨tv,[]⟩) o=execOp (rho ge) o:=zEc hinv hH hsel hav
  have hwt:=z6 (ops:=ops) hinv hg
  refine MX.pass (v:=v) (C:=C) hk hoi (fun d hd=> ?_) (.inl (List.mem_cons_self ..)) (fun _ h=>List.mem_cons_of_mem _ h) (fun h=>⟨hC,h⟩) (fun _=> .inl ⟨hwt,fun w' hw'=> ?_⟩) (h _ ?_)
  ·rw [hd] at hdst
   simp only [Bool.and_eq_true,Nat.blt_eq] at hdst
   exact hdst.1
  ·rw [hexec,ex_eq,hop,hty]; exact hr w' hw'
  ·rw [hds] at hdst ⊢
   cases dst with
   | none=>exact hinv
   | some d =>
    simp only [Bool.and_eq_true] at hdst
    exact hinv.put (v:=v) (u:=v) hdst.1 hdst.2 (fun p hp=>by cases hp) (fun _=>rfl) (fun hh=>absurd hH hh)

theorem zAe {π:List Nat} {pd:Pds} {w:World} {k i:Nat} {ge:GEnv} {op:Op} {ty:TypeId} {dst:Option Nat} (v:Value) (hk:π[k]? =some i)
    (ho:opAt n ops ge i=some (op,ty,dst)) (hr:∀ w',(ex op ty (rho ge)).run P w'= .ok (.value v) w')
    (h:RegM P n ops Q π pd (k+1) (putG dst v ge) w):RegM P n ops Q π pd k ge w:=by
 intro tv hinv
 unfold opAt at ho
 cases hoi:ops[i]? with
 | none=>rw [hoi] at ho; cases ho
 | some o =>
  rw [hoi] at ho
  simp only at ho
  obtain⟨hc,ho⟩:=zxb ho
  simp only [Bool.and_eq_true] at hc
  obtain⟨⟨⟨hg,hsel⟩,hav⟩,hdst⟩:=hc
  simp only [Option.some.injEq,Prod.mk.injEq] at ho
  obtain⟨hop,hty,hds⟩:=ho
  have hH:Holds tv []:=fun p hp=>by cases hp
  have hexec:execOp (Act.eval ⟨tv,[]⟩) o=execOp (rho ge) o:=zEc hinv hH hsel hav
  have hwt:=z6 (ops:=ops) hinv hg
  refine MX.pass (v:=v) (C:=fun _=>True) hk hoi (fun d hd=> ?_) (.inr rfl) (fun _ h=>h) (fun h=>h) (fun _=> .inl ⟨hwt,fun w' _=> ?_⟩) (h _ ?_)
  ·rw [hd] at hdst
   simp only [Bool.and_eq_true,Nat.blt_eq] at hdst
   exact hdst.1
  ·rw [hexec,ex_eq,hop,hty]; exact hr w'
  ·rw [hds] at hdst ⊢
   cases dst with
   | none=>exact hinv
   | some d =>
    simp only [Bool.and_eq_true] at hdst
    exact hinv.put (v:=v) (u:=v) hdst.1 hdst.2 (fun p hp=>by cases hp) (fun _=>rfl) (fun hh=>absurd hH hh)
end

section
variable {P:Program} {n:Nat} {ops:Array Oper} {Q:Exit→Act→World→Prop} {π:List Nat} {pd:Pds} {ps i:Nat} {ge:GEnv} {w:World} {ty:TypeId} {dst:Option Nat}

theorem z9m {op:Op} (hk:π[ps]? =some i) (v:Value) (ho:opAt n ops ge i=some (op,ty,dst)) (hr:∀ ww,(ex op ty (rho ge)).run P ww= .ok (.value v) ww)
    (h:RegM P n ops Q π pd (ps+1) (putG dst v ge) w):RegM P n ops Q π pd ps ge w:=zAe v hk ho hr h

theorem zU {t:TypeId} {a:Operand} {b o:Nat} {v:Value} (hk:π[ps]? =some i) (ho:opAt n ops ge i=some (.load t a,ty,dst)) (ha:rho ge a= .pointer (some ⟨b,o,none⟩))
    (ht:zRb P t=true) (hc:w.cell? ⟨b,o,none⟩=some v) (h:RegM P n ops Q π ((i,fun w'=>w'.cell? ⟨b,o,none⟩=some v)::pd) (ps+1) (putG dst v ge) w):RegM P n ops Q π pd ps ge w :=
 zVd v _ hk ho (fun _ hw=>z3e ha ht hw) hc h

theorem zMf {t:TypeId} {a:Operand} {b o k:Nat} (hk:π[ps]? =some i) (vs:List Value) (ho:opAt n ops ge i=some (.load t a,ty,dst)) (ha:rho ge a= .pointer (some ⟨b,o,none⟩))
    (ht:aggT P t=true) (hs:zT P t=some k) (hz:vs.length=k) (hc:zc w b o vs) (h:RegM P n ops Q π ((i,fun w'=>zc w' b o vs)::pd) (ps+1) (putG dst (.agg vs.toArray) ge) w):RegM P n ops Q π pd ps ge w :=
 zVd _ _ hk ho (fun _ hw=>z4e ha ht hs hz hw) hc h

theorem zff {t e:TypeId} {x ix:Operand} {b o l c sz:Nat} {k:IntKind} {j:Int} (hk:π[ps]? =some i) (ho:opAt n ops ge i=some (.indexAddr t x ix,ty,dst))
    (hx:rho ge x= .slice (some ⟨b,o,none⟩) l c) (hi:rho ge ix= .int k j) (ht:P.underlying t=some (.slice e)) (hs:zT P e=some sz)
    (h0:0≤j) (h1:j<l) (h:RegM P n ops Q π pd (ps+1) (putG dst (.pointer (some ⟨b,o+j.toNat*sz,none⟩)) ge) w):RegM P n ops Q π pd ps ge w :=
 zAe _ hk ho (fun _=>z6d hx hi ht hs h0 h1) h

theorem zxh {t e:TypeId} {x ix:Operand} {b o l c:Nat} {k:IntKind} {j:Int} (hk:π[ps]? =some i) (ho:opAt n ops ge i=some (.indexAddr t x ix,ty,dst))
    (hx:rho ge x= .slice (some ⟨b,o,none⟩) l c) (hi:rho ge ix= .int k j) (ht:P.underlying t=some (.slice e)) (hs:zT P e=some 1)
    (h0:0≤j) (h1:j<l) (h:RegM P n ops Q π pd (ps+1) (putG dst (.pointer (some ⟨b,o+j.toNat,none⟩)) ge) w):RegM P n ops Q π pd ps ge w :=
 zff hk ho hx hi ht hs h0 h1 (by simpa using h)

theorem zt {op:Op} (e:Nat) (D:List Nat) (pd':Pds) (f:FuncId) (args:Array Value) (hk:π[ps]? =some e) (hB:zuh ops (π.take ps) e=true) (hD:zTd ops e [] D=true) (hpd:zsc D pd=pd')
    (ho:opAt n ops ge e=some (op,ty,dst)) (hr:∀ ww,(ex op ty (rho ge)).run P ww= .ok (.enter f args) ww)
    (h:Calls P f args w (fun ev w'=>∃ v,ev= .returned v∧zfc pd' w'∧RegM P n ops Q π pd' (ps+1) (putG dst v ge) w')):RegM P n ops Q π pd ps ge w :=
 z7d e D pd' hk hB hD hpd ho (by unfold OpS; rw [hr]; exact h)

theorem z8d {t:TypeId} {a x:Operand} {b o k:Nat} (e:Nat) (D:List Nat) (pd':Pds) (vs:List Value) (hk:π[ps]? =some e) (hB:zuh ops (π.take ps) e=true) (hD:zTd ops e [] D=true) (hpd:zsc D pd=pd')
    (ho:opAt n ops ge e=some (.store t a x,ty,dst)) (ha:rho ge a= .pointer (some ⟨b,o,none⟩))
    (hx:(rho ge x).cells=vs.toArray) (hs:zT P t=some k) (hz:vs.length=k) (h1:zI vs=true) (hw:zb w b o k)
    (h:∀ w',w'=World.puts b o vs w→zfc pd' w'∧RegM P n ops Q π pd' (ps+1) (putG dst undef ge) w'):RegM P n ops Q π pd ps ge w :=
 z7d e D pd' hk hB hD hpd ho (zmh ha hx hs hz h1 hw h)

theorem z7 {op:Op} (e:Nat) (D:List Nat) (pd':Pds) (f:Nat→Value) (o:Obj) (hk:π[ps]? =some e) (hB:zuh ops (π.take ps) e=true) (hD:zTd ops e [] D=true) (hpd:zsc D pd=pd')
    (ho:opAt n ops ge e=some (op,ty,dst)) (hr:(ex op ty (rho ge)).run P w= .ok (.value (f w.heap.size)) { w with heap:=w.heap.push o })
    (h:∀ b w',b=w.heap.size→w'=w.alloc o→zfc pd' w'∧RegM P n ops Q π pd' (ps+1) (putG dst (f b) ge) w'):RegM P n ops Q π pd ps ge w :=
 z7d e D pd' hk hB hD hpd ho (by unfold OpS; rw [hr]; exact h _ _ rfl rfl)
end

section
variable {P:Program} {n:Nat} {ops:Array Oper} {Q:Exit→Act→World→Prop} {π:List Nat} {pd:Pds} {k:Nat} {ge:GEnv} {w:World} {ty:TypeId} {dst:Option Nat}
theorem z0c {op:Op} {L:List Nat} (e:Nat) (D:List Nat) (pd':Pds) (f:FuncId) (args:Array Value) (hord:zvh ops π=true) (hL:π.take k=L) (hk:π[k]? =some e) (hD:zTd ops e [] D=true) (hpd:zsc D pd=pd')
    (ho:opAt n ops ge e=some (op,ty,dst)) (hr:∀ ww,(ex op ty (rho ge)).run P ww= .ok (.enter f args) ww)
    (h:Calls P f args w (fun ev w'=>∃ v,ev= .returned v∧zfc pd' w'∧RegM P n ops Q π pd' (k+1) (putG dst v ge) w')):zgg P n ops Q L pd ge w e :=
 zhg e D pd' hord hL hk hD hpd ho (by unfold OpS; rw [hr]; exact h)
theorem zgf {op:Op} {L:List Nat} (e:Nat) (D:List Nat) (pd':Pds) (f:Nat→Value) (o:Obj) (hord:zvh ops π=true) (hL:π.take k=L) (hk:π[k]? =some e) (hD:zTd ops e [] D=true) (hpd:zsc D pd=pd')
    (ho:opAt n ops ge e=some (op,ty,dst)) (hr:(ex op ty (rho ge)).run P w= .ok (.value (f w.heap.size)) { w with heap:=w.heap.push o })
    (h:∀ b w',b=w.heap.size→w'=w.alloc o→zfc pd' w'∧RegM P n ops Q π pd' (k+1) (putG dst (f b) ge) w'):zgg P n ops Q L pd ge w e :=
 zhg e D pd' hord hL hk hD hpd ho (by unfold OpS; rw [hr]; exact h _ _ rfl rfl)
theorem zWd {C:Nat→Prop} {a b:Nat} (ha:C a) (hb:C b):∀ e∈[a,b],C e:=fun e he=>by
 rcases List.mem_cons.1 he with rfl | he
 ·exact ha
 ·rw [List.mem_singleton.1 he]; exact hb
end
section
variable [Rnd]


def intT (P:Program) (t:TypeId):Bool:=match P.underlying t with | some (.int _)=>true | _=>false
section
variable {P:Program} {n:Nat} {ops:Array Oper} {i:Nat} {ge:GEnv} {w:World} {ty e:TypeId} {dst:Option Nat}
theorem zbi {t tx e:TypeId} {a x:Operand} {s:Slc} {sz by_:Nat} {zs:List Value} {l:Int} {K:Value→World→Prop}
    (hs:rho ge a= .slice s.ptr s.len s.cap) (hx:rho ge x= .int .i64 l) (ht:P.underlying t=some (.slice e)) (hsz:zT P e=some sz) (hb:zje P e=some by_) (hz:zrh P e=some zs)
    (hb1:Nat.ble 1 by_=true) (hmk:intT P tx=true) (hzl:zs.length=sz) (h0:0≤l) (hlb:l*(by_:Int)≤281474976710656)
    (h:zo sz by_ e zs s (zu l.toNat zs).toList l.toNat w (fun r w'=>K (.slice r.ptr r.len r.cap) w')) :
    OpS P (.call { callee:= .builtin .append,args:=#[a,x],argTypes:=#[t,tx] }) ty (rho ge) w K:=by
 have hby:1≤by_:=Nat.le_of_ble_eq_true hb1
 obtain⟨ki,hdx⟩:∃ d,P.underlying tx=some (.int d):=by
  unfold intT at hmk
  cases hu:P.underlying tx with
  | none=>rw [hu] at hmk; cases hmk
  | some d =>
   rw [hu] at hmk
   cases d <;> first | (cases hmk; done) | exact⟨_,rfl⟩
 have hl48:l≤281474976710656:=by
  have:l*1≤l*(by_:Int):=Int.mul_le_mul_of_nonneg_left O_ h0
  omega
 have hwl:IntKind.i64.wrap l=l:=IntWalk.i64_in _ O_
 generalize hkd:l.toNat=k at *
 generalize hsd:(zu k zs).toList=src at *
 have hsrc:∀ w:World,((if k*sz=0 then Sem.pure #[] else(zeroValue e >>= fun v=>Sem.pure (Builtin.zeroCells v.cells k))):Sem (Array Value)).run P w= .ok src.toArray w:=by
  intro w
  obtain⟨v,hv,hvc⟩:=zSb hz w
  split
  ·rename_i hz0
   have:src=[]:=by
    rw [←hsd,←zJc,hzl,hz0]; simp
   rw [this]; rfl
  ·simp only [run_bind',hv,hvc,pure,Sem.run,zeroCells_eq]
   rw [←hsd]
 unfold OpS
 have hex:ex (.call { callee:= .builtin .append,args:=#[a,x],argTypes:=#[t,tx] }) ty (rho ge) =
     (do pure (.value (←Builtin.append_ #[t,tx] ty #[.slice s.ptr s.len s.cap,.int .i64 l])):Sem Next):=by
  unfold ex execOp
  simp [Go.resolve,Go.invoke,Go.builtin,hs,hx,bind,Sem.bind,pure]
 rw [hex,run_bind']
 unfold Builtin.append_
 simp only [List.getElem?_toArray,List.getElem?_cons_zero,List.getElem?_cons_succ]
 simp only [run_bind',zi ht,zO hsz,zi hdx,pure,Sem.run,asInt,asIntOf,if_true,hwl]
 obtain⟨inf0,hinf0,hbe0⟩:=zsb hb w
 rw [if_neg O_]
 simp only [run_bind',hinf0,hbe0]
 have k0:¬ (l*(by_:Int)>2 ^ 48):=by
  have:(2:Int) ^ 48=281474976710656:=D_
  omega
 rw [if_neg k0]
 simp only [run_bind',pure,Sem.run,hkd,Bool.not_true,Bool.false_eq_true,if_false,if_true]
 by_cases hfit:s.len+k≤s.cap
 ·rw [if_pos hfit]
  simp only [run_bind',hsrc w]
  rcases h.1 hfit with ⟨he,hK⟩ | ⟨hp,hw,h1,hK⟩
  ·subst he
   cases hp:s.ptr with
   | none=>rw [hp] at hK; simp only [pure,Sem.run]; exact hK
   | some a=>rw [hp] at hK; simp only [storeCells,pure,Sem.run,run_bind']; exact hK
  ·have hK:=hK _ rfl
   have hp':s.ptr=some ⟨pblk s.ptr,poff s.ptr,none⟩:=hp
   clear hp
   generalize pblk s.ptr=pb at *
   generalize poff s.ptr=po at *
   rw [hp'] at hK ⊢
   simp only [run_bind',addr_add]
   have:=zkb (P:=P) (b:=pb) (o:=po+s.len*sz) src 0 w (by simpa using hw) h1
   rw [this]
   simp only [pure,Sem.run]
   exact hK
 ·rw [if_neg hfit]
  obtain⟨hcap,old,hold,hK⟩:=h.2 O_
  obtain⟨inf,hinf,hbe⟩:=zsb hb w
  obtain⟨v,hv,hvc⟩:=zSb hz (w.drew)
  have hold':zBb (w.drew) s s.len sz old:=by
   obtain⟨h1,h2⟩:=hold
   exact⟨h1,h2.imp id (fun⟨h3,h4⟩=>⟨h3,(zc.drewN (k:=1) h4)⟩)⟩
  simp only [run_bind',hinf,hbe]
  have hle0:=le_nextslicecap (show s.cap<s.len+k by omega)
  have k1:¬ (((s.len+k:Nat):Int)>IntKind.i64.max∧(True∨by_=0)):=by
   intro hh
   have h4:Builtin.nextslicecap (s.len+k) s.cap*1≤Builtin.nextslicecap (s.len+k) s.cap*by_:=Nat.mul_le_mul_left _ hby
   have hm:IntKind.i64.max=9223372036854775807:=D_
   rw [hm] at hh
   omega
  rw [if_neg k1]
  simp only [run_bind',pure,Sem.run]
  have k2:¬ (Builtin.nextslicecap (s.len+k) s.cap*by_>2 ^ 48):=by
   have:(2:Nat) ^ 48=281474976710656:=D_
   omega
  rw [hinf]
  simp only [hbe]
  rw [if_neg k2]
  simp only [choose,Sem.run,Question.forced,Bool.false_eq_true,if_false,run_bind']
  have hd:({ heap:=w.heap,tape:=w.tape,drawn:=w.drawn+1,os:=w.os,output:=w.output }:World)=w.drew:=rfl
  rw [hd]
  generalize hcv:Question.cut (.appendCap (s.len+k) s.cap e) (w.tape w.drawn (.appendCap (s.len+k) s.cap e))=cap
  have hc1:s.len+k≤cap∧cap<9223372036854775808∨9223372036854775808≤s.len+k:=by
   rw [←hcv]
   simp only [Question.cut]
   rcases Nat.lt_or_ge (s.len+k) 9223372036854775808 with h9 | h9
   ·left
    have:(2:Nat) ^ 63=9223372036854775808:=D_
    rw [this]
    have:=Nat.mod_lt (w.tape w.drawn (.appendCap (s.len+k) s.cap e)) (show 0<9223372036854775808 - (s.len+k) by omega)
    omega
   ·exact .inr h9
  obtain⟨inf2,hinf2,hbe2⟩:=zsb hb (w.drew)
  rw [hinf2]
  simp only [run_askRoom]
  rw [zY hold']
  simp only [hsrc w.drew,hv,hvc,zeroCells_eq,newRow,newObj,run_bind',pure,Sem.run]
  have hle:=le_nextslicecap (show s.cap<s.len+k by omega)
  have hnc:s.len+k<9223372036854775808:=by
   have:Builtin.nextslicecap (s.len+k) s.cap*1≤Builtin.nextslicecap (s.len+k) s.cap*by_:=Nat.mul_le_mul_left _ hby
   omega
  rcases hc1 with ⟨ha,hb'⟩ | hb'
  ·have:=hK cap w.heap.size _ ha hb' rfl rfl
   have e1:(w.drew).heap.size=w.heap.size:=rfl
   rw [e1]
   have e2:(old.toArray++src.toArray++zu (cap - (s.len+k)) zs)=(old++src++(zu (cap - (s.len+k)) zs).toList).toArray:=by
    apply Array.ext'; simp
   rw [e2]
   exact this
  ·omega
end

/-! ### More operations in a mixed region; bytes as a text -/
section
variable {P:Program} {n:Nat} {ops:Array Oper} {Q:Exit→Act→World→Prop} {π:List Nat} {pd:Pds} {ps i:Nat} {ge:GEnv} {w:World} {ty:TypeId} {dst:Option Nat}

theorem zGb {t tx e:TypeId} {a xo:Operand} {s x:Slc} {sz by_:Nat} {zs:List Value} (oe:Nat) (D:List Nat) (pd':Pds) (src:List Value) (hk:π[ps]? =some oe) (hB:zuh ops (π.take ps) oe=true) (hD:zTd ops oe [] D=true) (hpd:zsc D pd=pd')
    (ho:opAt n ops ge oe=some (.call { callee:= .builtin .append,args:=#[a,xo],argTypes:=#[t,tx] },ty,dst))
    (hs:rho ge a= .slice s.ptr s.len s.cap) (hx:rho ge xo= .slice x.ptr x.len x.cap) (ht:P.underlying t=some (.slice e)) (hsz:zT P e=some sz) (hb:zje P e=some by_) (hz:zrh P e=some zs)
    (hb1:Nat.ble 1 by_=true) (hmk:srcT P tx=true)
    (hsrc:zr w x sz src) (h:zo sz by_ e zs s src x.len w (fun r w'=>zfc pd' w'∧RegM P n ops Q π pd' (ps+1) (putG dst (.slice r.ptr r.len r.cap) ge) w')):RegM P n ops Q π pd ps ge w :=
 z7d oe D pd' hk hB hD hpd ho (zJf hs hx ht hsz hb hz hb1 hmk (fun w=>rfl) (zY hsrc)
  (zY (w:=w.drew) ⟨hsrc.1,hsrc.2.imp id (fun⟨h3,h4⟩=>⟨h3,(zc.drewN (k:=1) h4)⟩)⟩) h)

theorem z0j {t e:TypeId} {x lo:Operand} {s:Slc} {sz:Nat} {k:IntKind} {a:Int} (hk:π[ps]? =some i) (ho:opAt n ops ge i=some (.slice t x (some lo) none none,ty,dst))
    (hx:rho ge x= .slice s.ptr s.len s.cap) (hl:rho ge lo= .int k a) (ht:P.underlying t=some (.slice e)) (hs:zT P e=some sz)
    (hc:0≤a∧a≤((s.len:Nat):Int)∧((s.len:Nat):Int)≤((s.cap:Nat):Int)∧((s.cap:Nat):Int)≤((s.cap:Nat):Int))
    (h:∀ r,r=Slc.cut sz s a s.len s.cap→RegM P n ops Q π pd (ps+1) (putG dst (.slice r.ptr r.len r.cap) ge) w):RegM P n ops Q π pd ps ge w :=
 zAe _ hk ho (fun _=>zaf hx hl ht hs hc) (h _ rfl)
theorem zXb {m:Nat} {C:World→Prop} {Q:Act→Prop} {t e:TypeId} {x lo:Operand} {s:Slc} {sz:Nat} {k:IntKind} {a:Int} (ho:opAt n ops ge i=some (.slice t x (some lo) none none,ty,dst))
    (hx:rho ge x= .slice s.ptr s.len s.cap) (hl:rho ge lo= .int k a) (ht:P.underlying t=some (.slice e)) (hs:zT P e=some sz)
    (hc:0≤a∧a≤((s.len:Nat):Int)∧((s.len:Nat):Int)≤((s.cap:Nat):Int)∧((s.cap:Nat):Int)≤((s.cap:Nat):Int))
    (h:∀ r,r=Slc.cut sz s a s.len s.cap→RegQ P n ops m C Q (i+1) (putG dst (.slice r.ptr r.len r.cap) ge) w):RegQ P n ops m C Q i ge w :=
 zVc _ ho (fun _ _=>zaf hx hl ht hs hc) (h _ rfl)
theorem zci {t tx e:TypeId} {a xo:Operand} {s:Slc} {sz by_:Nat} {zs:List Value} {l:Int} (ho:opAt n ops ge i=some (.call { callee:= .builtin .append,args:=#[a,xo],argTypes:=#[t,tx] },ty,dst))
    (hs:rho ge a= .slice s.ptr s.len s.cap) (hx:rho ge xo= .int .i64 l) (ht:P.underlying t=some (.slice e)) (hsz:zT P e=some sz) (hb:zje P e=some by_) (hz:zrh P e=some zs)
    (hb1:Nat.ble 1 by_=true) (hmk:intT P tx=true) (hzl:zs.length=sz) (h0:0≤l) (hlb:l*(by_:Int)≤281474976710656)
    (h:zo sz by_ e zs s (zu l.toNat zs).toList l.toNat w (fun r w'=>RegG P n ops Q (i+1) (putG dst (.slice r.ptr r.len r.cap) ge) w')):RegG P n ops Q i ge w :=
 zyb ho (zbi hs hx ht hsz hb hz hb1 hmk hzl h0 hlb h)
end

/-! ### A call of a function that is a value -/
def goFn (P:Program) (f:FuncId):Bool:=match P.funcs[f]? with
 | some fn=> !(fn.name== "runtime.NumGoroutine")&&fn.body.isSome
 | none=>false
theorem zyh {P:Program} {f:FuncId} {args:Array Value} {w:World} (h:goFn P f=true):(callFunc f args).run P w= .ok (.enter f args) w:=by
 unfold goFn at h
 cases hf:P.funcs[f]? with
 | none=>rw [hf] at h; cases h
 | some fn =>
  rw [hf] at h
  simp only [Bool.and_eq_true,Bool.not_eq_true'] at h
  have hb:fn.body.isNone=false:=by
   cases hx:fn.body with
   | none=>rw [hx] at h; simp at h
   | some c=>rfl
  unfold callFunc
  rw [run_bind']
  have hp:(program).run P w= .ok P w:=by simp [program,Sem.run]
  rw [hp]
  simp only [hf,h.1,hb,Bool.false_eq_true,if_false]
  rfl
def zbb {P:Program} (fv:Value) (args:Array Value) (w:World) (K:Ending→World→Prop):Prop :=
 ∃ f first captured,fv= .func (.func f) first captured∧goFn P f=true∧Calls P f (first++args++captured) w K
theorem zbb.mk {P:Program} {f:FuncId} {first captured args all:Array Value} {w:World} {K:Ending→World→Prop} (hg:goFn P f=true) (ha:first++args++captured=all) (h:Calls P f all w K) :
    zbb (P:=P) (.func (.func f) first captured) args w K:=⟨f,first,captured,rfl,hg,ha ▸ h⟩
theorem zbb.mono {P:Program} {fv:Value} {args:Array Value} {w:World} {K K':Ending→World→Prop} (h:zbb (P:=P) fv args w K) (hk:∀ e w',K e w'→K' e w'):zbb (P:=P) fv args w K':=by
 obtain⟨f,first,captured,h1,h2,h3⟩:=h
 exact⟨f,first,captured,h1,h2,Calls.mono h3 hk⟩
section
variable {P:Program} {n:Nat} {ops:Array Oper} {Q:Exit→Act→World→Prop} {i:Nat} {ge:GEnv} {w:World} {ty:TypeId} {dst:Option Nat}
theorem zNf {K:Value→World→Prop} {fo:Operand} {aa:Array Operand} {ts:Array TypeId} {fv:Value} {args:Array Value} (hf:rho ge fo=fv) (ha:aa.map (rho ge)=args)
    (h:zbb (P:=P) fv args w (fun e w'=>∃ v,e= .returned v∧K v w')):OpS P (.call { callee:= .value fo,args:=aa,argTypes:=ts }) ty (rho ge) w K:=by
 obtain⟨f,first,captured,h1,h2,h3⟩:=h
 have hr:(ex (.call { callee:= .value fo,args:=aa,argTypes:=ts }) ty (rho ge)).run P w= .ok (.enter f (first++args++captured)) w:=by
  have he:ex (.call { callee:= .value fo,args:=aa,argTypes:=ts }) ty (rho ge)=callFunc f (first++args++captured):=by
   unfold ex execOp
   simp [Go.resolve,Go.invoke,hf,ha,h1,bind,Sem.bind,pure,Deferred.ofValue]
  rw [he,zyh h2]
 unfold OpS
 rw [hr]
 exact h3
theorem zed {fo:Operand} {aa:Array Operand} {ts:Array TypeId} {fv:Value} (args:Array Value) (ho:opAt n ops ge i=some (.call { callee:= .value fo,args:=aa,argTypes:=ts },ty,dst)) (hf:rho ge fo=fv) (ha:aa.map (rho ge)=args)
    (h:zbb (P:=P) fv args w (fun e w'=>∃ v,e= .returned v∧RegG P n ops Q (i+1) (putG dst v ge) w')):RegG P n ops Q i ge w:=zyb ho (zNf hf ha h)
end
end
section
variable [Rnd]

/-! ### Structs compared -/
section
variable {P:Program}
def eq1 (d:TypeDesc) (a b:Value):Option Bool :=
 match d,a,b with
 | .bool,.bool x,.bool y=>some (x==y)
 | .int _,.int k x,.int k' y=>if k=k' then some (x==y) else none
 | .string,.string x,.string y=>some (x==y)
 | _,_,_=>none
def zij (P:Program) (xs ys:List Value) (f:Field):Option Bool :=
 if f.name= "_" then none else
 match P.underlying f.type,xs[f.offset]?,ys[f.offset]? with
 | some d,some a,some b=>if zRb P f.type then eq1 d a b else none
 | _,_,_=>none
def eqF (P:Program) (xs ys:List Value):Bool→List Field→Option Bool
 | acc,[]=>some acc
 | acc,f::fs=>match zij P xs ys f with | some r=>eqF P xs ys (acc&&r) fs | none=>none
def zBe (P:Program) (t:TypeId) (xs ys:List Value):Option Bool :=
 match P.underlying t with
 | some (.struct fs)=>match fs.toList with
  | []=>none
  | f::fs=>match zij P xs ys f with | some r=>eqF P xs ys r fs | none=>none
 | _=>none
theorem zIk {n:Nat} {t:TypeId} {d:TypeDesc} {a b:Value} {r:Bool} (hd:P.underlying t=some d) (h:eq1 d a b=some r) (w:World):(Op.equalIn (n+1) t a b).run P w= .ok r w:=by
 unfold Op.equalIn
 rw [run_bind',zi hd]
 unfold eq1 at h
 split at h
 ·cases h; rfl
 ·split at h
  ·rename_i hk
   cases h
   simp only [hk,if_true]; rfl
  ·cases h
 ·cases h; rfl
 ·cases h
theorem zCe {t:TypeId} {xs:List Value} {o:Nat} {v:Value} (ht:zRb P t=true) (hv:xs[o]? =some v) (w:World):(part t xs.toArray o).run P w= .ok v w:=by
 unfold part
 rw [run_bind',zzb ht]
 have:xs.toArray[o]? =some v:=by simpa using hv
 simp only [Bool.false_eq_true,if_false,this]
 rfl
theorem z1j {n:Nat} {xs ys:List Value} {f:Field} {r:Bool} (h:zij P xs ys f=some r) (w:World) :
    f.name≠ "_"∧(part f.type xs.toArray f.offset >>= fun a=>part f.type ys.toArray f.offset >>= fun b=>Op.equalIn (n+1) f.type a b).run P w= .ok r w:=by
 unfold zij at h
 split at h
 ·cases h
 ·rename_i hn
  refine⟨hn,?_⟩
  split at h
  ·rename_i d a b hd ha hb
   split at h
   ·rename_i hp
    rw [run_bind',zCe hp ha]
    show(part f.type ys.toArray f.offset >>= fun b=>Op.equalIn (n+1) f.type a b).run P w=_
    rw [run_bind',zCe hp hb]
    exact zIk hd h w
   ·cases h
  ·cases h
theorem zzh {xs ys:List Value}:∀ {fs:List Field} {r:Bool},eqF P xs ys false fs=some r→r=false
 | [],r,h=>by cases h; rfl
 | f::fs,r,h=>by
  unfold eqF at h
  split at h
  ·exact zzh (by simpa using h)
  ·cases h
theorem zjj {xs ys:List Value} {n:Nat} {w:World}:∀ {fs:List Field} {r:Bool},eqF P xs ys true fs=some r →
    (forIn (m:=Sem) fs ((none,()):Option Bool×Unit) fun f __s =>
        if f.name≠ "_" then do
         let __do_lift ←part f.type xs.toArray f.offset
         let __do_lift_1 ←part f.type ys.toArray f.offset
         let __do_lift ←Op.equalIn (n+1) f.type __do_lift __do_lift_1
         if(!__do_lift)=true then pure (ForInStep.done (some false,()))
          else pure (ForInStep.yield (none,()))
        else pure (ForInStep.yield (none,()))).run P w= .ok (if r=true then(none,()) else(some false,())) w
 | [],r,h=>by
  cases h
  rfl
 | f::fs,r,h=>by
  unfold eqF at h
  split at h
  ·rename_i r1 h1
   obtain⟨hn,hr⟩:=z1j (n:=n) h1 w
   have hbody:∀ {β:Type} (K:Bool→Sem β),(do
       let __do_lift ←part f.type xs.toArray f.offset
       let __do_lift_1 ←part f.type ys.toArray f.offset
       let __do_lift ←Op.equalIn (n+1) f.type __do_lift __do_lift_1
       K __do_lift).run P w=(K r1).run P w:=fun K=>by
    have e:(do
     let __do_lift ←part f.type xs.toArray f.offset
     let __do_lift_1 ←part f.type ys.toArray f.offset
     let __do_lift ←Op.equalIn (n+1) f.type __do_lift __do_lift_1
     K __do_lift).run P w=((part f.type xs.toArray f.offset >>= fun a=>part f.type ys.toArray f.offset >>= fun b=>Op.equalIn (n+1) f.type a b) >>= K).run P w:=by
     simp only [run_bind']
     cases (part f.type xs.toArray f.offset).run P w <;> try rfl
     rename_i a w1
     simp only
     cases (part f.type ys.toArray f.offset).run P w1 <;> rfl
    rw [e,run_bind',hr]
   rw [List.forIn_cons,run_bind',if_pos hn,hbody]
   cases r1 with
   | false =>
    have:=zzh (by simpa using h)
    subst this
    rfl
   | true =>
    show Sem.run P (forIn fs _ _) w=_
    exact zjj (by simpa using h)
  ·cases h
theorem zme {n:Nat} {t:TypeId} {xs ys:List Value} {r:Bool} (h:zBe P t xs ys=some r) (hs:P.stoodInHeld t=false) (w:World) :
    (Op.equalIn (n+2) t (.agg xs.toArray) (.agg ys.toArray)).run P w= .ok r w:=by
 unfold zBe at h
 split at h
 ·rename_i fs hu
  have hf:eqF P xs ys true fs.toList=some r:=by
   split at h
   ·cases h
   ·rename_i f fs' he
    rw [he]
    unfold eqF
    split at h
    ·rename_i r1 h1
     simpa using h
    ·cases h
  unfold Op.equalIn
  rw [run_bind',zi hu]
  dsimp only
  have hp:(program).run P w= .ok P w:=by simp [program,Sem.run]
  rw [run_bind',hp]
  dsimp only
  rw [if_neg (by rw [hs]; decide),←Array.forIn_toList,run_bind',zjj hf]
  cases r <;> rfl
 ·cases h
theorem zgc {op:BinOp} {t:TypeId} {x y:Operand} {xs ys:Array Value} (hg:P.eqGuardType P.depth t=false) (w:World):(eqGuard op t x y (.agg xs) (.agg ys)).run P w= .ok () w:=by
 have hp:(program).run P w= .ok P w:=by simp [program,Sem.run]
 have key : ∀ s, (do
     let p1 ←program
     let p2 ←program
     if(!p1.eqGuardType p2.depth t)=true then pure ()
      else do
       let g ←Op.eqGuardIn Op.maxDepth t (Value.agg xs) (Value.agg ys)
       if g=true then unsupported (.noEntry s) else pure ():Sem Unit).run P w= .ok () w:=by
  intro s
  rw [run_bind',hp]
  dsimp only
  rw [run_bind',hp]
  dsimp only
  rw [hg]
  rfl
 cases op <;> first | rfl | exact key _
end
section
variable {P:Program} {ge:GEnv} {ty xt yt:TypeId} {x y:Operand}
theorem zod {xs ys:List Value} {r:Bool} (hx:rho ge x= .agg xs.toArray) (hy:rho ge y= .agg ys.toArray) (h:zBe P xt xs ys=some r) (hs:P.stoodInHeld xt=false) (hg:P.eqGuardType P.depth xt=false) (w:World) :
    (ex (.binOp .eql xt x y yt) ty (rho ge)).run P w= .ok (.value (.bool r)) w:=by
 refine zXc (by rw [hx,hy]; exact zgc hg w) ?_
 rw [hx,hy]
 show(Op.equal xt _ _ >>= fun r=>pure (Value.bool (r))).run P w=_
 rw [run_bind',show Op.equal xt (.agg xs.toArray) (.agg ys.toArray)=Op.equalIn (9998+2) xt (.agg xs.toArray) (.agg ys.toArray) from rfl,zme h hs]
 rfl
theorem zpf {xs ys:List Value} {r:Bool} (hx:rho ge x= .agg xs.toArray) (hy:rho ge y= .agg ys.toArray) (h:zBe P xt xs ys=some r) (hs:P.stoodInHeld xt=false) (hg:P.eqGuardType P.depth xt=false) (w:World) :
    (ex (.binOp .neq xt x y yt) ty (rho ge)).run P w= .ok (.value (.bool (!r))) w:=by
 refine zXc (by rw [hx,hy]; exact zgc hg w) ?_
 rw [hx,hy]
 show(Op.equal xt _ _ >>= fun r=>pure (Value.bool (!r))).run P w=_
 rw [run_bind',show Op.equal xt (.agg xs.toArray) (.agg ys.toArray)=Op.equalIn (9998+2) xt (.agg xs.toArray) (.agg ys.toArray) from rfl,zme h hs]
 rfl
end
end
section
variable [Rnd]

/-! ### slices.overlaps: two rows in two blocks -/
def zig (w:World) (x y:Slc):Prop :=
 IsAt x.ptr∧IsAt y.ptr∧pblk x.ptr≠pblk y.ptr∧∃ TA kA TB kB,w.shape? (pblk x.ptr)=some (TA,kA)∧w.shape? (pblk y.ptr)=some (TB,kB)∧kB≠0∧∀ o,w.frozen? ⟨pblk x.ptr,o,none⟩=false
section
variable {P:Program} {n:Nat} {ops:Array Oper} {Q:Exit→Act→World→Prop} {i:Nat} {ge:GEnv} {w:World} {ty:TypeId} {dst:Option Nat}
theorem zjg {fo a b:Operand} {ts:Array TypeId} {f:FuncId} {fn:Func} {x y:Slc} {tS tR e:TypeId} {sz:Nat} (hfo:rho ge fo= .func (.func f) #[] #[]) (ha:rho ge a= .slice x.ptr x.len x.cap) (hb:rho ge b= .slice y.ptr y.len y.cap)
    (hf:P.funcs[f]? =some fn) (hname:(fn.name== "runtime.NumGoroutine")=false) (hbn:fn.body.isNone=true) (hn:Extern.findNext fn=none) (hex:Extern.find fn=some (Extern.SlicesOverlaps.overlaps #[tS,tS] #[tR]))
    (ht:P.underlying tS=some (.slice e)) (hz:zT P e=some sz) (h:zig w x y) :
    (ex (.call { callee:= .value fo,args:=#[a,b],argTypes:=ts }) ty (rho ge)).run P w= .ok (.value (.bool false)) w:=by
 obtain⟨h1,h2,h3,TA,kA,TB,kB,h4,h5,h6,h7⟩:=h
 have he:ex (.call { callee:= .value fo,args:=#[a,b],argTypes:=ts }) ty (rho ge)=callFunc f #[.slice x.ptr x.len x.cap,.slice y.ptr y.len y.cap]:=by
  unfold ex execOp
  simp [Go.resolve,Go.invoke,hfo,ha,hb,bind,Sem.bind,pure,Deferred.ofValue]
 have hx:x.ptr=some ⟨pblk x.ptr,poff x.ptr,none⟩:=h1
 have hy:y.ptr=some ⟨pblk y.ptr,poff y.ptr,none⟩:=h2
 rw [he,run_callFunc_extern hf hname hbn hn hex]
 generalize pblk x.ptr=pa at *
 generalize poff x.ptr=oa at *
 generalize pblk y.ptr=pb at *
 generalize poff y.ptr=ob at *
 rw [hx,hy,Lib.run_overlaps_apart w tS tR e ht sz (zO hz) ⟨pa,oa,none⟩ ⟨pb,ob,none⟩ x.len x.cap y.len y.cap h3 TA TB kA kB h4 h5 h6 (h7 _) (h7 _)]
 rfl
theorem zAh {fo a b:Operand} {ts:Array TypeId} (f:FuncId) {fn:Func} {x y:Slc} {tS tR e:TypeId} {sz:Nat} (ho:opAt n ops ge i=some (.call { callee:= .value fo,args:=#[a,b],argTypes:=ts },ty,dst))
    (hfo:rho ge fo= .func (.func f) #[] #[]) (ha:rho ge a= .slice x.ptr x.len x.cap) (hb:rho ge b= .slice y.ptr y.len y.cap)
    (hf:P.funcs[f]? =some fn) (hname:(fn.name== "runtime.NumGoroutine")=false) (hbn:fn.body.isNone=true) (hn:Extern.findNext fn=none) (hex:Extern.find fn=some (Extern.SlicesOverlaps.overlaps #[tS,tS] #[tR]))
    (ht:P.underlying tS=some (.slice e)) (hz:zT P e=some sz) (h:zig w x y) (h':RegG P n ops Q (i+1) (putG dst (.bool false) ge) w):RegG P n ops Q i ge w :=
 zyb ho (by unfold OpS; rw [zjg hfo ha hb hf hname hbn hn hex ht hz h]; exact h')
end
end
section
variable [Rnd]

/-! ### Interface values -/
def zhf:Value→Bool
 | .nilIface=>true
 | _=>false
def IfV (x:Value):Prop:=x= .nilIface∨∃ t v,x= .iface t v
def zLs (T:TypeId) (x:Value):Prop:=x= .nilIface∨∃ t v,x= .iface t v∧t≠T
def zan (P:Program) (t:TypeId):Bool:=match P.underlying t with | some (.interface _)=>true | _=>false
def zMs (P:Program) (t:TypeId):Bool:=match P.underlying t with | some (.interface _)=>false | some _=>true | none=>false
section
variable {P:Program} {ge:GEnv} {ty xt yt:TypeId} {x y:Operand}
theorem z2j (h:zan P xt=true):∃ e,∀ w,(underlying xt).run P w= .ok (.interface e) w:=by
 unfold zan at h
 cases hu:P.underlying xt with
 | none=>rw [hu] at h; cases h
 | some d=>rw [hu] at h; cases d <;> first | (cases h; done) | exact⟨_,zi hu⟩
theorem zJk {p:Value} (hi:IfV p) (ht:zan P xt=true) (w:World):(Op.equal xt p .nilIface).run P w= .ok (zhf p) w:=by
 obtain⟨d,hu⟩:=z2j ht
 show(Op.equalIn (9999+1) xt p .nilIface).run P w=_
 unfold Op.equalIn
 rw [run_bind',hu]
 rcases hi with rfl | ⟨t,v,rfl⟩ <;> rfl
theorem zBh {p:Value} (hx:rho ge x=p) (hi:IfV p) (ht:zan P xt=true) (w:World) :
    (ex (.binOp .eql xt x (.const .nilIface) yt) ty (rho ge)).run P w= .ok (.value (.bool (zhf p))) w:=by
 have he:=zJk (P:=P) hi ht w
 refine zXc ?_ ?_
 ·rw [hx]
  rcases hi with rfl | ⟨t,v,rfl⟩
  ·clear hx; cases x <;> rfl
  ·rfl
 rw [hx]
 have:(binOp .eql xt p .nilIface)=(Op.equal xt p .nilIface >>= fun r=>pure (Value.bool (r))):=by
  rcases hi with rfl | ⟨t,v,rfl⟩ <;> rfl
 show(binOp .eql xt p .nilIface).run P w=_
 rw [this,run_bind',he]
 rfl
theorem zCh {T:TypeId} {p z:Value} (hx:rho ge x=p) (hn:zLs T p) (ht:zMs P T=true) (hz:∀ w,(zeroValue T).run P w= .ok z w) (w:World) :
    (ex (.typeAssert x xt T true) ty (rho ge)).run P w= .ok (.value (.tuple #[z,.bool false])) w:=by
 unfold zMs at ht
 cases hu:P.underlying T with
 | none=>rw [hu] at ht; cases ht
 | some d =>
  rw [hu] at ht
  have hu':=fun w=>zi (P:=P) hu w
  unfold ex execOp
  show((Instr.typeAssert (rho ge x) xt T true) >>= fun v=>pure (Next.value v)).run P w=_
  rw [hx]
  have key:(Instr.typeAssert p xt T true).run P w= .ok (.tuple #[z,.bool false]) w:=by
   unfold Instr.typeAssert
   rw [run_bind',hu']
   rcases hn with rfl | ⟨t,v,rfl,hne⟩
   ·cases d <;> first | (cases ht; done) | (show((zeroValue T) >>= fun z=>pure (Value.tuple #[z,.bool false])).run P w=_; rw [run_bind',hz]; rfl)
   ·cases d <;> first | (cases ht; done) | (simp only [if_neg hne]; show((zeroValue T) >>= fun z=>pure (Value.tuple #[z,.bool false])).run P w=_; rw [run_bind',hz]; rfl)
  rw [run_bind',key]
  rfl
end
end
section
variable [Rnd]

/-! ### Maps of whole numbers to nothing -/
def ztb (es:Array MapEntry) (k:Int):Bool:=es.toList.any fun e=>match e.key with | .int .i64 j=>decide (j=k) | _=>false
def z1c (es:Array MapEntry):Prop:=∀ e∈es.toList,(∃ j,e.key= .int .i64 j)∧e.val= .agg #[]
def zHb (w:World) (m:Option Nat) (es:Array MapEntry):Prop:=(m=none∧es=#[])∨∃ r c,m=some r∧w.heap[r]? =some (.map es c)
theorem z9d {es:Array MapEntry} (h:z1c es) {k:Int}:ztb es k=true↔∃ e∈es.toList,e.key= .int .i64 k:=by
 unfold ztb
 rw [List.any_eq_true]
 constructor
 ·rintro⟨e,he,hk⟩
  obtain⟨⟨j,hj⟩,_⟩:=h e he
  rw [hj] at hk
  have:j=k:=by simpa using hk
  exact⟨e,he,by rw [hj,this]⟩
 ·rintro⟨e,he,hk⟩
  exact⟨e,he,by rw [hk]; simp⟩
section
variable {P:Program} {n:Nat} {ops:Array Oper} {i:Nat} {ge:GEnv} {w:World} {ty:TypeId} {dst:Option Nat} {t kt et:TypeId} {x k v:Operand}
theorem zdi {m:Option Nat} {es:Array MapEntry} {j:Int} (hx:rho ge x= .map m) (hk:rho ge k= .int .i64 j) (hu:P.underlying t=some (.map kt et)) (hkt:P.underlying kt=some (.int .i64)) (hz:∀ w,(zeroValue et).run P w= .ok (.agg #[]) w) (hm:zHb w m es) (hi:z1c es) :
    (ex (.lookup t x k true) ty (rho ge)).run P w= .ok (.value (.tuple #[.agg #[],.bool (ztb es j)])) w:=by
 have hc:∀ b,(Instr.checkKey b 10000 kt (.int .i64 j)).run P w= .ok () w:=fun b=>MapKept.run_checkKey hkt (by simp [MapKept.IsKey]) b 9999
 have hs:=MapKept.findNow_spec (d:= .int .i64) (k:= .int .i64 j) (by simp [MapKept.IsKey]) es.toList 0 (fun e he=>by obtain⟨⟨q,hq⟩,_⟩:=hi e he; rw [hq]; simp [MapKept.IsKey])
 have key:(Instr.lookup t (.map m) (.int .i64 j) true).run P w= .ok (.tuple #[.agg #[],.bool (ztb es j)]) w:=by
  rcases hs with ⟨h1,h2⟩ | ⟨q,e,h1,h2,h3⟩
  ·have hf:=MapKept.run_findKey (P:=P) (w:=w) hkt h1
   have hb:ztb es j=false:=by
    cases hb:ztb es j with
    | false=>rfl
    | true=>obtain⟨e,he,hk⟩:=(z9d hi).1 hb; exact absurd hk (h2 e he)
   rw [hb]
   rcases hm with ⟨rfl,rfl⟩ | ⟨r,c,rfl,hr⟩
   ·simp [Instr.lookup,zi hu,hc,hf,hz,Result.andThen]
   ·simp [Instr.lookup,zi hu,hc,hf,hz,MapKept.run_getObj_map hr,Result.andThen]
  ·have hf:=MapKept.run_findKey (P:=P) (w:=w) hkt h1
   have he:=List.mem_of_getElem? h2
   have hb:ztb es j=true:=(z9d hi).2 ⟨e,he,h3⟩
   have hv:=(hi e he).2
   rw [hb]
   rcases hm with ⟨rfl,rfl⟩ | ⟨r,c,rfl,hr⟩
   ·cases he
   ·simp [Instr.lookup,zi hu,hc,hf,hv,MapKept.run_getObj_map hr,Result.andThen]
 unfold ex execOp
 simp only [hx,hk]
 rw [run_bind',key]
 rfl
theorem zqf {r c:Nat} {es:Array MapEntry} {j:Int} {vv:Value} (hx:rho ge x= .map (some r)) (hk:rho ge k= .int .i64 j) (hv:rho ge v=vv) (hu:P.underlying t=some (.map kt et)) (hkt:P.underlying kt=some (.int .i64)) (hz:∀ w,(zeroValue et).run P w= .ok (.agg #[]) w) (hm:w.heap[r]? =some (.map es c)) (hi:z1c es) (hn:ztb es j=false) :
    (ex (.mapUpdate t x k v) ty (rho ge)).run P w= .ok .skip { w with heap:=w.heap.setIfInBounds r (.map (es.push ⟨.int .i64 j,vv,c⟩) (c+1)) }:=by
 have hc:∀ b,(Instr.checkKey b 10000 kt (.int .i64 j)).run P w= .ok () w:=fun b=>MapKept.run_checkKey hkt (by simp [MapKept.IsKey]) b 9999
 have hs:=MapKept.findNow_spec (d:= .int .i64) (k:= .int .i64 j) (by simp [MapKept.IsKey]) es.toList 0 (fun e he=>by obtain⟨⟨q,hq⟩,_⟩:=hi e he; rw [hq]; simp [MapKept.IsKey])
 have h1:Instr.findNow (.int .i64) (.int .i64 j) es.toList 0=some none:=by
  rcases hs with ⟨h1,_⟩ | ⟨q,e,_,h2,h3⟩
  ·exact h1
  ·have:=(z9d hi).2 ⟨e,List.mem_of_getElem? h2,h3⟩
   rw [hn] at this; cases this
 have hf:=MapKept.run_findKey (P:=P) (w:=w) hkt h1
 have key:(Instr.mapUpdate t (.map (some r)) (.int .i64 j) vv).run P w= .ok () { w with heap:=w.heap.setIfInBounds r (.map (es.push ⟨.int .i64 j,vv,c⟩) (c+1)) }:=by
  simp [Instr.mapUpdate,zi hu,MapKept.run_getObj_map hm,hc,hf,MapKept.run_setObj_map _ hm,Result.andThen]
 unfold ex execOp
 simp only [hx,hk,hv]
 rw [run_bind',key]
 rfl
theorem zDh {m:Option Nat} {es:Array MapEntry} {w':World} (h:zHb w m es) (e:Ext w w'):zHb w' m es:=by
 rcases h with h | ⟨r,c,h1,h2⟩
 ·exact .inl h
 ·exact .inr ⟨r,c,h1,(e.block r (Array.getElem?_eq_some_iff.1 h2).1).trans h2⟩
end
section
variable {P:Program} {n:Nat} {ops:Array Oper} {i:Nat} {ge:GEnv} {w:World} {ty:TypeId} {dst:Option Nat} {t kt et:TypeId} {x k v:Operand}
theorem zEh {Q:Exit→Act→World→Prop} {π:List Nat} {pd:Pds} {ps:Nat} {m:Option Nat} {es:Array MapEntry} {j:Int} (hπ:π[ps]? =some i) (ho:opAt n ops ge i=some (.lookup t x k true,ty,dst)) (hx:rho ge x= .map m) (hk:rho ge k= .int .i64 j) (hu:P.underlying t=some (.map kt et)) (hkt:P.underlying kt=some (.int .i64)) (hz:∀ w,(zeroValue et).run P w= .ok (.agg #[]) w) (hm:zHb w m es) (hi:z1c es)
    (h:RegM P n ops Q π ((i,fun w'=>zHb w' m es)::pd) (ps+1) (putG dst (.tuple #[.agg #[],.bool (ztb es j)]) ge) w):RegM P n ops Q π pd ps ge w :=
 zVd _ _ hπ ho (fun w' hw=>zdi hx hk hu hkt hz hw hi) hm h
theorem zrf {Q:Exit→Act→World→Prop} {m:Option Nat} {es:Array MapEntry} {j:Int} {vv:Value} (r c:Nat) (ho:opAt n ops ge i=some (.mapUpdate t x k v,ty,dst)) (hx:rho ge x= .map m) (hr:m=some r) (hk:rho ge k= .int .i64 j) (hv:rho ge v=vv) (hu:P.underlying t=some (.map kt et)) (hkt:P.underlying kt=some (.int .i64)) (hz:∀ w,(zeroValue et).run P w= .ok (.agg #[]) w) (hm:w.heap[r]? =some (.map es c)) (hi:z1c es) (hn:ztb es j=false)
    (h:∀ w',w'={ w with heap:=w.heap.setIfInBounds r (.map (es.push ⟨.int .i64 j,vv,c⟩) (c+1)) }→RegG P n ops Q (i+1) (putG dst undef ge) w'):RegG P n ops Q i ge w :=
 zyb ho (by unfold OpS; rw [zqf (by rw [hx,hr]) hk hv hu hkt hz hm hi hn]; exact h _ rfl)
end
end
section
variable [Rnd]
section
variable {P:Program} {n:Nat} {ops:Array Oper} {i:Nat} {ge:GEnv} {w:World} {ty:TypeId} {dst:Option Nat}
end
end
section
variable [Rnd]

section
variable {P:Program} {n:Nat} {ops:Array Oper} {i:Nat} {ge:GEnv} {w:World} {ty:TypeId} {dst:Option Nat} {t kt et:TypeId} {x k v:Operand}
theorem zei {Q:Exit→Act→World→Prop} {π:List Nat} {pd:Pds} {ps:Nat} {fo:Operand} {aa:Array Operand} {ts:Array TypeId} {fv:Value} (e:Nat) (D:List Nat) (pd':Pds) (args:Array Value) (hπ:π[ps]? =some e) (hB:zuh ops (π.take ps) e=true) (hD:zTd ops e [] D=true) (hpd:zsc D pd=pd')
    (ho:opAt n ops ge e=some (.call { callee:= .value fo,args:=aa,argTypes:=ts },ty,dst)) (hf:rho ge fo=fv) (ha:aa.map (rho ge)=args)
    (h:zbb (P:=P) fv args w (fun ev w'=>∃ v,ev= .returned v∧zfc pd' w'∧RegM P n ops Q π pd' (ps+1) (putG dst v ge) w')):RegM P n ops Q π pd ps ge w :=
 z7d e D pd' hπ hB hD hpd ho (zNf hf ha h)
end
end
section
variable [Rnd]

/-! ### Arrays of whole numbers compared; function values held against nil -/
section
variable {P:Program}
def zkg (P:Program) (t:TypeId) (N:Nat) (k:IntKind):Bool:=match P.underlying t with
 | some (.array m e)=>decide (m=N)&&zRb P e&&(match P.underlying e with | some (.int k')=>decide (k=k') | _=>false)&&decide (zT P e=some 1)
 | _=>false
theorem zFh {t:TypeId} {N:Nat} {k:IntKind} (h:zkg P t N k=true):∃ e k',P.underlying t=some (.array N e)∧zRb P e=true∧P.underlying e=some (.int k')∧zT P e=some 1:=by
 unfold zkg at h
 split at h
 ·rename_i m e hu
  simp only [Bool.and_eq_true,decide_eq_true_eq] at h
  obtain⟨⟨⟨rfl,h2⟩,h3⟩,h4⟩:=h
  split at h3
  ·rename_i k' hk
   exact⟨e,k',hu,h2,hk,h4⟩
  ·cases h3
 ·cases h
theorem zOf {n:Nat} {e:TypeId} {k k':IntKind} (hd:P.underlying e=some (.int k')) (hp:zRb P e=true) {xs ys:List Int} (hl:xs.length=ys.length) {w:World}:∀(m s:Nat),s+m=xs.length →
    (forIn (m:=Sem) (List.range' s m 1) ((none,()):Option Bool×Unit) fun i __s=>do
        let __do_lift ←part e (List.map (Value.int k) xs).toArray (i*1)
        let __do_lift_1 ←part e (List.map (Value.int k) ys).toArray (i*1)
        let __do_lift ←Op.equalIn (n+1) e __do_lift __do_lift_1
        if(!__do_lift)=true then pure (ForInStep.done (some false,())) else pure (ForInStep.yield (none,()))).run P w= .ok (if(xs.drop s==ys.drop s)=true then(none,()) else(some false,())) w
 | 0,s,hs=>by
  rw [List.drop_eq_nil_of_le O_,List.drop_eq_nil_of_le O_]
  rfl
 | m+1,s,hs=>by
  have h1:s<xs.length:=O_
  have h2:s<ys.length:=O_
  have e1:(xs.map (Value.int k))[s*1]? =some (.int k xs[s]):=by rw [Nat.mul_one,List.getElem?_map,List.getElem?_eq_getElem h1]; rfl
  have e2:(ys.map (Value.int k))[s*1]? =some (.int k ys[s]):=by rw [Nat.mul_one,List.getElem?_map,List.getElem?_eq_getElem h2]; rfl
  have h3:(Op.equalIn (n+1) e (.int k xs[s]) (.int k ys[s])).run P w= .ok (xs[s]==ys[s]) w:=zIk hd (by unfold eq1; simp) w
  rw [List.range'_succ,List.forIn_cons,run_bind']
  rw [run_bind',zCe hp e1]
  dsimp only
  rw [run_bind',zCe hp e2]
  dsimp only
  rw [run_bind',h3]
  dsimp only
  rw [List.drop_eq_getElem_cons h1,List.drop_eq_getElem_cons h2]
  by_cases hx:xs[s]=ys[s]
  ·rw [if_neg (by simp [hx])]
   have:=zOf (n:=n) (k:=k) hd hp hl (w:=w) m (s+1) O_
   show(forIn (m:=Sem) (List.range' (s+1) m 1) ((none,()):Option Bool×Unit) _).run P w=_
   rw [this,List.cons_beq_cons,hx,beq_self_eq_true,Bool.true_and]
  ·rw [if_pos (by simpa using hx),List.cons_beq_cons,beq_eq_false_iff_ne.2 hx,Bool.false_and]
   rfl
theorem zKk {n:Nat} {t:TypeId} {N:Nat} {xs ys:List Int} {k:IntKind} (ht:zkg P t N k=true) (hx:xs.length=N) (hy:ys.length=N) (w:World) :
    (Op.equalIn (n+2) t (.agg (xs.map (Value.int k)).toArray) (.agg (ys.map (Value.int k)).toArray)).run P w= .ok (xs==ys) w:=by
 obtain⟨e,k',h1,h2,h3,h4⟩:=zFh ht
 unfold Op.equalIn
 rw [run_bind',zi h1]
 dsimp only
 rw [run_bind',zO h4]
 dsimp only
 rw [Std.Legacy.Range.forIn_eq_forIn_range']
 have hr:([:N]:Std.Legacy.Range).size=N:=by simp [Std.Legacy.Range.size]
 rw [hr,run_bind']
 have:=zOf (n:=n) (k:=k) h3 h2 (hx.trans hy.symm) (w:=w) N 0 O_
 rw [List.drop_zero,List.drop_zero] at this
 have hst:([:N]:Std.Legacy.Range).start=0:=rfl
 have hsp:([:N]:Std.Legacy.Range).step=1:=rfl
 rw [hst,hsp]
 rw [this]
 cases hb:(xs==ys) <;> rfl
end
section
variable {P:Program} {ge:GEnv} {ty xt yt:TypeId} {x y:Operand}
theorem zfi {xs ys:List Int} {N:Nat} {k:IntKind} (hx:rho ge x= .agg (xs.map (Value.int k)).toArray) (hy:rho ge y= .agg (ys.map (Value.int k)).toArray) (ht:zkg P xt N k=true) (h1:xs.length=N) (h2:ys.length=N) (hg:P.eqGuardType P.depth xt=false) (w:World) :
    (ex (.binOp .neq xt x y yt) ty (rho ge)).run P w= .ok (.value (.bool (!(xs==ys)))) w:=by
 refine zXc (by rw [hx,hy]; exact zgc hg w) ?_
 rw [hx,hy]
 show(Op.equal xt _ _ >>= fun r=>pure (Value.bool (!r))).run P w=_
 rw [run_bind',show Op.equal xt (.agg (xs.map (Value.int k)).toArray) (.agg (ys.map (Value.int k)).toArray)=Op.equalIn (9998+2) xt (.agg (xs.map (Value.int k)).toArray) (.agg (ys.map (Value.int k)).toArray) from rfl,zKk ht h1 h2]
 rfl
end
section
variable {P:Program} {ge:GEnv} {ty xt yt:TypeId} {x y:Operand}
end
end
section
variable [Rnd]

/-! ### Maps of any keys: looked up, written, deleted from, gone through -/
structure zjd (P:Program) (kt:TypeId) (IsK:Value→Prop):Prop where
 check:∀(w:World) (em:Bool) {v:Value},IsK v→(Instr.checkKey em 10000 kt v).run P w= .ok () w
 find:∀(w:World) {x:Value},IsK x→∀ es:List MapEntry,(∀ e∈es,IsK e.key) →
  ((Instr.findKey kt x es).run P w= .ok none w∧∀ e∈es,e.key≠x)∨∃ j e,(Instr.findKey kt x es).run P w= .ok (some (j,e.val)) w∧es[j]? =some e∧e.key=x
 stays:∀(w:World) {v:Value},IsK v→(Instr.keyThatStays v v).run P w= .ok v w
def isKS (v:Value):Prop:=∃ s,v= .string s
def isKI (v:Value):Prop:=∃ j,v= .int .i64 j
def isKP (v:Value):Prop:=∃ a b,v= .agg #[.int .i64 a,.int .i64 b]∧(-9223372036854775808≤a∧a≤9223372036854775807)∧(-9223372036854775808≤b∧b≤9223372036854775807)
theorem zkj {P:Program} {kt:TypeId} {d:TypeDesc} (hd:P.underlying kt=some d) (IsK:Value→Prop) (hk:∀ v,IsK v→MapKept.IsKey d v):zjd P kt IsK:=by
 refine⟨fun w em v hv=>MapKept.run_checkKey hd (hk v hv) em 9999,fun w x hx es he=> ?_,fun w v hv=>MapKept.run_keyThatStays (hk v hv)⟩
 rcases MapKept.findNow_spec (hk x hx) es 0 (fun e h=>hk _ (he e h)) with ⟨h1,h2⟩ | ⟨q,e,h1,h2,h3⟩
 ·exact .inl ⟨MapKept.run_findKey hd h1,h2⟩
 ·exact .inr ⟨q,e,by have:=MapKept.run_findKey (P:=P) (w:=w) hd h1; rw [Nat.zero_add] at this; exact this,h2,h3⟩
theorem keyS {P:Program} {kt:TypeId} (h:P.underlying kt=some .string):zjd P kt isKS:=zkj h isKS fun v ⟨s,e⟩=>by rw [e]; trivial
theorem keyI {P:Program} {kt:TypeId} (h:P.underlying kt=some (.int .i64)):zjd P kt isKI:=zkj h isKI fun v ⟨s,e⟩=>by rw [e]; exact rfl
theorem keyP {P:Program} {kt et:TypeId} (hu:P.underlying kt=some (.array 2 et)) (he:P.underlying et=some (.int .i64)) (h1:P.cellsOf et=1) (h2:P.cellsOf kt=2) (hs:P.types.size=P.types.size - 1+1):zjd P kt isKP:=by
 have A:WideMaps.ArrKey P kt et 2:=⟨hu,by unfold Program.plainKey; rw [he],h1,h2⟩
 have K:=A.law
 have hl:∀ v,isKP v→∃ l,keyOf P kt v=some l:=fun v ⟨a,b,e,ha,hb⟩=>by
  subst e
  have wf:∀ x:Int,(-9223372036854775808≤x∧x≤9223372036854775807)→(Lit.int .i64 x).wf=true:=fun x hx=>by
   have hmin:IntKind.min .i64= -9223372036854775808:=by rfl
   have hmax:IntKind.max .i64=9223372036854775807:=by rfl
   show(decide (IntKind.min .i64≤x)&&decide (x≤IntKind.max .i64))=true
   rw [hmin,hmax,decide_eq_true hx.1,decide_eq_true hx.2]; rfl
  refine⟨.string (keyBytes [.int .i64 a,.int .i64 b]),?_⟩
  have hf:Value.formed P kt (.agg #[.int .i64 a,.int .i64 b])=true:=by
   unfold Value.formed
   simp only [hu,h2]
   rfl
  have e1:∀(d:Nat) (x:Int),(-9223372036854775808≤x∧x≤9223372036854775807)→P.keyLits (d+1) et [.int .i64 x]=some [.int .i64 x]:=fun d x hx=>by
   unfold Program.keyLits
   simp only [he]
   rw [if_pos ⟨trivial,wf x hx⟩]
  have e2:P.keyLits (P.types.size+1) kt [.int .i64 a,.int .i64 b]=some [.int .i64 a,.int .i64 b]:=by
   rw [hs]
   unfold Program.keyLits
   simp only [hu]
   rw [if_pos (by rw [h2]; rfl),h1]
   have a1:=e1 (P.types.size - 1) a ha
   have b1:=e1 (P.types.size - 1) b hb
   simp only [List.range_succ,List.range_zero,List.nil_append,List.cons_append,List.mapM_cons,List.mapM_nil,Nat.zero_mul,Nat.one_mul,List.drop_zero,List.drop_succ_cons,List.take_succ_cons,List.take_zero,a1,b1]
   rfl
  unfold keyOf
  simp only [hu]
  rw [if_pos (by rw [A.keyType ⟨_,hs⟩,hf]; rfl)]
  show(P.keyLits (P.types.size+1) kt [.int .i64 a,.int .i64 b]).map _=_
  rw [e2]; rfl
 exact⟨fun w em v hv=>(hl v hv).elim fun l h=>K.check w em h,fun w x hx es he=>(hl x hx).elim fun l h=>K.find w h es fun e h'=>hl _ (he e h'),fun w v hv=>(hl v hv).elim fun l h=>K.stays w h⟩
def zP (IsK:Value→Prop) (es:Array MapEntry):Prop:=∀ e∈es.toList,IsK e.key
open Classical in
noncomputable def zK (es:Array MapEntry) (k:Value):Option Value:=(es.toList.find? fun e=>decide (e.key=k)).map (·.val)
def LkIs (es:Array MapEntry) (k z u:Value) (b:Bool):Prop:=(zK es k=none∧u=z∧b=false)∨(zK es k=some u∧b=true)
/-- What becomes of a map's entries when a key is written; when it is struck. -/
def zae (es:Array MapEntry) (c:Nat) (k v:Value) (es2:Array MapEntry) (c2:Nat):Prop :=
 ((∀ e∈es.toList,e.key≠k)∧es2=es.push ⟨k,v,c⟩∧c2=c+1)∨∃ i e,es.toList[i]? =some e∧e.key=k∧(∀ j x,j<i→es.toList[j]? =some x→x.key≠k)∧es2=es.modify i (fun e=>{ e with key:=k,val:=v })∧c2=c
def zGh (es:Array MapEntry) (k:Value) (es2:Array MapEntry):Prop :=
 ((∀ e∈es.toList,e.key≠k)∧es2=es)∨∃ i e,es.toList[i]? =some e∧e.key=k∧es2=es.eraseIdxIfInBounds i
theorem zuc {es:Array MapEntry} {k:Value} (h:∀ e∈es.toList,e.key≠k):zK es k=none:=by
 unfold zK
 rw [List.find?_eq_none.2 (fun e he=>by simpa using h e he)]; rfl
theorem zbe {p:MapEntry→Bool}:∀ {l:List MapEntry} {j:Nat} {e:MapEntry},l[j]? =some e→p e=true→(∀ i x,i<j→l[i]? =some x→p x=false)→l.find? p=some e
 | x::l,0,e,h,hp,_=>by
  have:x=e:=by simpa using h
  subst this
  exact List.find?_cons_of_pos hp
 | x::l,j+1,e,h,hp,hi=>by
  rw [List.find?_cons_of_neg (by rw [hi 0 x (Nat.succ_pos _) rfl]; decide)]
  exact zbe (by simpa using h) hp fun i y hij hy=>hi (i+1) y (Nat.succ_lt_succ hij) (by simpa using hy)
section
variable {P:Program} {n:Nat} {ops:Array Oper} {i:Nat} {ge:GEnv} {w:World} {ty:TypeId} {dst:Option Nat} {t kt et:TypeId} {x k v:Operand} {IsK:Value→Prop}
theorem z1b {m:Option Nat} {es:Array MapEntry} {kv z u:Value} {b ok:Bool} (K:zjd P kt IsK) (hx:rho ge x= .map m) (hk:rho ge k=kv) (hu:P.underlying t=some (.map kt et)) (hz:∀ w,(zeroValue et).run P w= .ok z w) (hm:zHb w m es) (hi:zP IsK es) (hn:(es.toList.map (·.key)).Nodup) (hkv:IsK kv) (hl:LkIs es kv z u b) :
    (ex (.lookup t x k ok) ty (rho ge)).run P w= .ok (.value (if ok=true then .tuple #[u,.bool b] else u)) w:=by
 have hc:∀ em,(Instr.checkKey em 10000 kt kv).run P w= .ok () w:=fun em=>K.check w em hkv
 have key:(Instr.lookup t (.map m) kv ok).run P w= .ok (if ok=true then .tuple #[u,.bool b] else u) w:=by
  rcases K.find w hkv es.toList hi with ⟨hf,h2⟩ | ⟨q,e,hf,h2,h3⟩
  ·have h0:=zuc h2
   have hu':u=z∧b=false:=by
    rcases hl with ⟨_,a,c⟩ | ⟨a,_⟩
    ·exact⟨a,c⟩
    ·rw [h0] at a; cases a
   obtain⟨rfl,rfl⟩:=hu'
   rcases hm with ⟨rfl,rfl⟩ | ⟨r,c,rfl,hr⟩
   ·cases ok <;> simp [Instr.lookup,zi hu,hc,hf,hz,Result.andThen]
   ·cases ok <;> simp [Instr.lookup,zi hu,hc,hf,hz,MapKept.run_getObj_map hr,Result.andThen]
  ·have h1:zK es kv=some e.val:=by
     classical
     unfold zK
     rw [zbe (j:=q) h2 (by simpa using h3) (fun j y hj hy=>by
      refine decide_eq_false fun hyk=> ?_
      have a1:(es.toList.map (·.key))[j]? =some kv:=by rw [List.getElem?_map,hy]; exact congrArg some hyk
      have a2:(es.toList.map (·.key))[q]? =some kv:=by rw [List.getElem?_map,h2]; exact congrArg some h3
      have:=(List.getElem?_inj (List.getElem?_eq_some_iff.1 a1).1 hn).1 (a1.trans a2.symm)
      omega)]
     rfl
   have hu':u=e.val∧b=true:=by
    rcases hl with ⟨a,_⟩ | ⟨a,c⟩
    ·rw [h1] at a; cases a
    ·rw [h1] at a; exact⟨(Option.some.inj a).symm,c⟩
   obtain⟨rfl,rfl⟩:=hu'
   rcases hm with ⟨rfl,rfl⟩ | ⟨r,c,rfl,hr⟩
   ·simp at h2
   ·cases ok <;> simp [Instr.lookup,zi hu,hc,hf,MapKept.run_getObj_map hr,Result.andThen]
 unfold ex execOp
 simp only [hx,hk]
 rw [run_bind',key]
 rfl
theorem zHh {Q:Exit→Act→World→Prop} {m:Option Nat} {es:Array MapEntry} {kv z u:Value} {b:Bool} (K:zjd P kt IsK) (ho:opAt n ops ge i=some (.lookup t x k true,ty,dst)) (hx:rho ge x= .map m) (hk:rho ge k=kv) (hu:P.underlying t=some (.map kt et)) (hz:∀ w,(zeroValue et).run P w= .ok z w) (hm:zHb w m es) (hi:zP IsK es) (hn:(es.toList.map (·.key)).Nodup) (hkv:IsK kv) (hl:LkIs es kv z u b)
    (h:RegG P n ops Q (i+1) (putG dst (.tuple #[u,.bool b]) ge) w):RegG P n ops Q i ge w :=
 zFc _ w ho (z1b (ok:=true) K hx hk hu hz hm hi hn hkv hl) h
theorem zne {Q:Exit→Act→World→Prop} {m:Option Nat} {es:Array MapEntry} {kv z u:Value} {b:Bool} (K:zjd P kt IsK) (ho:opAt n ops ge i=some (.lookup t x k false,ty,dst)) (hx:rho ge x= .map m) (hk:rho ge k=kv) (hu:P.underlying t=some (.map kt et)) (hz:∀ w,(zeroValue et).run P w= .ok z w) (hm:zHb w m es) (hi:zP IsK es) (hn:(es.toList.map (·.key)).Nodup) (hkv:IsK kv) (hl:LkIs es kv z u b)
    (h:RegG P n ops Q (i+1) (putG dst u ge) w):RegG P n ops Q i ge w :=
 zFc _ w ho (z1b (ok:=false) K hx hk hu hz hm hi hn hkv hl) h
theorem zlg {m0:Nat} {C:World→Prop} {Q:Act→Prop} {m:Option Nat} {es:Array MapEntry} {kv z u:Value} {b:Bool} (K:zjd P kt IsK) (ho:opAt n ops ge i=some (.lookup t x k true,ty,dst)) (hx:rho ge x= .map m) (hk:rho ge k=kv) (hu:P.underlying t=some (.map kt et)) (hz:∀ w,(zeroValue et).run P w= .ok z w) (hm:zHb w m es) (hi:zP IsK es) (hn:(es.toList.map (·.key)).Nodup) (hkv:IsK kv) (hl:LkIs es kv z u b)
    (h:RegQ P n ops m0 C Q (i+1) (putG dst (.tuple #[u,.bool b]) ge) w):RegQ P n ops m0 C Q i ge w :=
 zVc _ ho (fun w' e=>z1b (ok:=true) K hx hk hu hz (zDh hm e) hi hn hkv hl) h
theorem zLc {m0:Nat} {C:World→Prop} {Q:Act→Prop} {m:Option Nat} {es:Array MapEntry} {kv z u:Value} {b:Bool} (K:zjd P kt IsK) (ho:opAt n ops ge i=some (.lookup t x k false,ty,dst)) (hx:rho ge x= .map m) (hk:rho ge k=kv) (hu:P.underlying t=some (.map kt et)) (hz:∀ w,(zeroValue et).run P w= .ok z w) (hm:zHb w m es) (hi:zP IsK es) (hn:(es.toList.map (·.key)).Nodup) (hkv:IsK kv) (hl:LkIs es kv z u b)
    (h:RegQ P n ops m0 C Q (i+1) (putG dst u ge) w):RegQ P n ops m0 C Q i ge w :=
 zVc _ ho (fun w' e=>z1b (ok:=false) K hx hk hu hz (zDh hm e) hi hn hkv hl) h
theorem zMc {Q:Exit→Act→World→Prop} {π:List Nat} {pd:Pds} {ps:Nat} {m:Option Nat} {es:Array MapEntry} {kv z u:Value} {b:Bool} (hπ:π[ps]? =some i) (K:zjd P kt IsK) (ho:opAt n ops ge i=some (.lookup t x k false,ty,dst)) (hx:rho ge x= .map m) (hk:rho ge k=kv) (hu:P.underlying t=some (.map kt et)) (hz:∀ w,(zeroValue et).run P w= .ok z w) (hm:zHb w m es) (hi:zP IsK es) (hn:(es.toList.map (·.key)).Nodup) (hkv:IsK kv) (hl:LkIs es kv z u b)
    (h:RegM P n ops Q π ((i,fun w'=>zHb w' m es)::pd) (ps+1) (putG dst u ge) w):RegM P n ops Q π pd ps ge w :=
 zVd _ _ hπ ho (fun w' hw=>z1b (ok:=false) K hx hk hu hz hw hi hn hkv hl) hm h
theorem zpd {K':Value→World→Prop} {m:Option Nat} {es:Array MapEntry} {kv vv:Value} {r c:Nat} (K:zjd P kt IsK) (hx:rho ge x= .map m) (hr:m=some r) (hk:rho ge k=kv) (hv:rho ge v=vv) (hu:P.underlying t=some (.map kt et)) (hm:w.heap[r]? =some (.map es c)) (hi:zP IsK es) (hn:(es.toList.map (·.key)).Nodup) (hkv:IsK kv)
    (h:∀ es2 c2 w',zae es c kv vv es2 c2→w'={ w with heap:=w.heap.setIfInBounds r (.map es2 c2) }→K' undef w'):OpS P (.mapUpdate t x k v) ty (rho ge) w K':=by
 subst hr
 have hc:∀ em,(Instr.checkKey em 10000 kt kv).run P w= .ok () w:=fun em=>K.check w em hkv
 have fin:∀ es2 c2,zae es c kv vv es2 c2→(Instr.mapUpdate t (.map (some r)) kv vv).run P w= .ok () { w with heap:=w.heap.setIfInBounds r (.map es2 c2) }→OpS P (.mapUpdate t x k v) ty (rho ge) w K':=fun es2 c2 hs hrun=>by
  unfold OpS
  have e:(ex (.mapUpdate t x k v) ty (rho ge)).run P w= .ok .skip { w with heap:=w.heap.setIfInBounds r (.map es2 c2) }:=by
   unfold ex execOp
   simp only [hx,hk,hv]
   rw [run_bind',hrun]
   rfl
  rw [e]
  exact h es2 c2 _ hs rfl
 rcases K.find w hkv es.toList hi with ⟨hf,h2⟩ | ⟨q,e,hf,h2,h3⟩
 ·refine fin (es.push ⟨kv,vv,c⟩) (c+1) (.inl ⟨h2,rfl,rfl⟩) ?_
  simp [Instr.mapUpdate,zi hu,MapKept.run_getObj_map hm,hc,hf,MapKept.run_setObj_map _ hm,Result.andThen]
 ·refine fin (es.modify q fun e=>{ e with key:=kv,val:=vv }) c (.inr ⟨q,e,h2,h3,fun j y hj hy hyk=> ?_,rfl,rfl⟩) ?_
  ·have a1:(es.toList.map (·.key))[j]? =some kv:=by rw [List.getElem?_map,hy]; exact congrArg some hyk
   have a2:(es.toList.map (·.key))[q]? =some kv:=by rw [List.getElem?_map,h2]; exact congrArg some h3
   have:=(List.getElem?_inj (List.getElem?_eq_some_iff.1 a1).1 hn).1 (a1.trans a2.symm)
   omega
  ·have hq:es[q]? =some e:=by rw [←Array.getElem?_toList]; exact h2
   have hst:=K.stays w hkv
   simp [Instr.mapUpdate,zi hu,MapKept.run_getObj_map hm,hc,hf,hq,h3,hst,MapKept.run_setObj_map _ hm,Result.andThen]
theorem zZ {Q:Exit→Act→World→Prop} {m:Option Nat} {es:Array MapEntry} {kv vv:Value} (r c:Nat) (K:zjd P kt IsK) (ho:opAt n ops ge i=some (.mapUpdate t x k v,ty,dst)) (hx:rho ge x= .map m) (hr:m=some r) (hk:rho ge k=kv) (hv:rho ge v=vv) (hu:P.underlying t=some (.map kt et)) (hm:w.heap[r]? =some (.map es c)) (hi:zP IsK es) (hn:(es.toList.map (·.key)).Nodup) (hkv:IsK kv)
    (h:∀ es2 c2 w',zae es c kv vv es2 c2→w'={ w with heap:=w.heap.setIfInBounds r (.map es2 c2) }→RegG P n ops Q (i+1) (putG dst undef ge) w'):RegG P n ops Q i ge w :=
 zyb ho (zpd K hx hr hk hv hu hm hi hn hkv h)
theorem zif {Q:Exit→Act→World→Prop} {π:List Nat} {pd:Pds} {ps:Nat} {m:Option Nat} {es:Array MapEntry} {kv vv:Value} (e:Nat) (D:List Nat) (pd':Pds) (r c:Nat) (K:zjd P kt IsK) (hπ:π[ps]? =some e) (hB:zuh ops (π.take ps) e=true) (hD:zTd ops e [] D=true) (hpd:zsc D pd=pd')
    (ho:opAt n ops ge e=some (.mapUpdate t x k v,ty,dst)) (hx:rho ge x= .map m) (hr:m=some r) (hk:rho ge k=kv) (hv:rho ge v=vv) (hu:P.underlying t=some (.map kt et)) (hm:w.heap[r]? =some (.map es c)) (hi:zP IsK es) (hn:(es.toList.map (·.key)).Nodup) (hkv:IsK kv)
    (h:∀ es2 c2 w',zae es c kv vv es2 c2→w'={ w with heap:=w.heap.setIfInBounds r (.map es2 c2) }→zfc pd' w'∧RegM P n ops Q π pd' (ps+1) (putG dst undef ge) w'):RegM P n ops Q π pd ps ge w :=
 z7d e D pd' hπ hB hD hpd ho (zpd K hx hr hk hv hu hm hi hn hkv h)
theorem zgi {K':Value→World→Prop} {tk:TypeId} {m:Option Nat} {es:Array MapEntry} {kv:Value} {r c:Nat} (K:zjd P kt IsK) (hx:rho ge x= .map m) (hr:m=some r) (hk:rho ge k=kv) (hu:P.underlying t=some (.map kt et)) (hm:w.heap[r]? =some (.map es c)) (hi:zP IsK es) (hkv:IsK kv)
    (h:∀ es2 w',zGh es kv es2→w'={ w with heap:=w.heap.setIfInBounds r (.map es2 c) }→K' (.tuple #[]) w'):OpS P (.call { callee:= .builtin .delete,args:=#[x,k],argTypes:=#[t,tk] }) ty (rho ge) w K':=by
 subst hr
 have hc:∀ em,(Instr.checkKey em 10000 kt kv).run P w= .ok () w:=fun em=>K.check w em hkv
 have hex:ex (.call { callee:= .builtin .delete,args:=#[x,k],argTypes:=#[t,tk] }) ty (rho ge)=(do pure (.value (←Builtin.delete_ #[t,tk] ty #[.map (some r),kv])):Sem Next):=by
  unfold ex execOp
  simp [Go.resolve,Go.invoke,Go.builtin,hx,hk,bind,Sem.bind,pure]
 have fin:∀ es2,zGh es kv es2→(Builtin.delete_ #[t,tk] ty #[.map (some r),kv]).run P w= .ok (.tuple #[]) { w with heap:=w.heap.setIfInBounds r (.map es2 c) }→OpS P (.call { callee:= .builtin .delete,args:=#[x,k],argTypes:=#[t,tk] }) ty (rho ge) w K':=fun es2 hs hrun=>by
  unfold OpS
  rw [hex,run_bind',hrun]
  exact h es2 _ hs rfl
 rcases K.find w hkv es.toList hi with ⟨hf,h2⟩ | ⟨q,e,hf,h2,h3⟩
 ·refine fin es (.inl ⟨h2,rfl⟩) ?_
  unfold Builtin.delete_
  simp [zi hu,MapKept.run_getObj_map hm,hc,hf,MapKept.run_setObj_map _ hm,Result.andThen]
 ·refine fin (es.eraseIdxIfInBounds q) (.inr ⟨q,e,h2,h3,rfl⟩) ?_
  unfold Builtin.delete_
  simp [zi hu,MapKept.run_getObj_map hm,hc,hf,MapKept.run_setObj_map _ hm,Result.andThen]
theorem zNc {Q:Exit→Act→World→Prop} {tk:TypeId} {m:Option Nat} {es:Array MapEntry} {kv:Value} (r c:Nat) (K:zjd P kt IsK) (ho:opAt n ops ge i=some (.call { callee:= .builtin .delete,args:=#[x,k],argTypes:=#[t,tk] },ty,dst)) (hx:rho ge x= .map m) (hr:m=some r) (hk:rho ge k=kv) (hu:P.underlying t=some (.map kt et)) (hm:w.heap[r]? =some (.map es c)) (hi:zP IsK es) (hkv:IsK kv)
    (h:∀ es2 w',zGh es kv es2→w'={ w with heap:=w.heap.setIfInBounds r (.map es2 c) }→RegG P n ops Q (i+1) (putG dst (.tuple #[]) ge) w'):RegG P n ops Q i ge w :=
 zyb ho (zgi K hx hr hk hu hm hi hkv h)
/-! A range over a map that is only deleted from. -/
theorem z3j {Q:Exit→Act→World→Prop} {r c:Nat} {es:Array MapEntry} (ho:opAt n ops ge i=some (.range t x,ty,dst)) (hx:rho ge x= .map (some r)) (hu:P.underlying t=some (.map kt et)) (hm:w.heap[r]? =some (.map es c))
    (h:∀ b w',b=w.heap.size→w'=w.alloc (.mapIter (some r) c #[] c)→RegG P n ops Q (i+1) (putG dst (.pointer (some ⟨b,0,none⟩)) ge) w'):RegG P n ops Q i ge w :=
 zQb (fun b=> .pointer (some ⟨b,0,none⟩)) (.mapIter (some r) c #[] c) ho (by
  unfold ex execOp
  simp only [hx]
  rw [run_bind',run_range_map w t kt et r es c hu hm]
  rfl) h
theorem zLk {r bm since last:Nat} {seen:Array Nat} {es:Array MapEntry} {clock:Nat} (hi:w.heap[r]? =some (.mapIter (some bm) since seen last)) (hb:w.heap[bm]? =some (.map es clock)) (hold:∀ x∈es.toList,x.born<since) (hsc:since≤last) :
    ((∀ x∈es.toList,seen.contains x.born=true)∧(Instr.next (.pointer (some ⟨r,0,none⟩)) false ty).run P w= .ok (.tuple #[.bool false]) w) ∨
    ∃ e∈es.toList,seen.contains e.born=false∧∃ w1:World,(∃ k,w1=w.drewN k)∧(Instr.next (.pointer (some ⟨r,0,none⟩)) false ty).run P w= .ok (.tuple #[.bool true,e.key,e.val]) { w1 with heap:=w1.heap.setIfInBounds r (.mapIter (some bm) since (seen.push e.born) clock) }:=by
 simp only [Instr.next,getObj,Sem.run_bind,Sem.run,hi,hb,Result.andThen,next_test_false seen es since last hold hsc,Bool.false_eq_true,if_false]
 have hmem:∀ x∈(Array.filter (fun e=> !seen.contains e.born) es).toList,x.born<since∧x∈es.toList∧seen.contains x.born=false:=fun x hx=>by
  have hx:x∈es∧seen.contains x.born=false:=by simpa using hx
  exact⟨hold x (by simpa using hx.1),by simpa using hx.1,hx.2⟩
 have hall:(Array.filter (fun e=> !seen.contains e.born) es).size=0→∀ x∈es.toList,seen.contains x.born=true:=fun h0 x hx=>by
  cases hc:seen.contains x.born with
  | true=>rfl
  | false =>
   have hx:x∈Array.filter (fun e=> !seen.contains e.born) es:=Array.mem_filter.2 ⟨by simpa using hx,by rw [hc]; rfl⟩
   have:=Array.size_pos_of_mem hx
   omega
 generalize Array.filter (fun e=> !seen.contains e.born) es=L at hmem hall ⊢
 have e1:L.filter (fun x=>decide (x.born<since))=L:=Array.filter_eq_self.2 (fun x hx=>by simpa using (hmem x (by simpa using hx)).1)
 have e2:L.filter (fun x=>decide (x.born≥since))=#[]:=by
  rw [Array.filter_eq_empty_iff]
  intro x hx
  have:=(hmem x (by simpa using hx)).1
  simp
  omega
 simp only [e1,e2,Array.append_empty]
 by_cases h0:L.size=0
 ·left
  refine⟨hall h0,?_⟩
  have:L=#[]:=Array.eq_empty_of_size_eq_zero h0
  subst this
  simp [choose,Sem.run,Question.forced]
 ·right
  have hne:L.isEmpty=false:=by simp [Array.isEmpty,h0]
  simp only [hne,Bool.false_eq_true,if_false,Array.empty_append,Array.size_map]
  have hch:∃(j:Nat) (w1:World),j<L.size∧(∃ k,w1=w.drewN k)∧(choose (Question.mapNext L.size)).run P w= .ok j w1:=by
   by_cases hf:L.size≤1
   ·exact⟨0,w,O_,⟨0,rfl⟩,by simp [choose,Sem.run,Question.forced,hf]⟩
   ·exact⟨_,w.drew,Nat.mod_lt _ O_,⟨1,rfl⟩,by
      simp only [choose,Sem.run,Question.forced,decide_eq_true_eq,hf,if_false,Question.cut]
      rfl⟩
  obtain⟨j,w1,hj,⟨k,rfl⟩,hrun⟩:=hch
  have hL:L[j]∈L.toList:=by simp
  refine⟨L[j],(hmem _ hL).2.1,(hmem _ hL).2.2,w.drewN k,⟨k,rfl⟩,?_⟩
  have hset:(setObj r (.mapIter (some bm) since (seen.push L[j].born) clock)).run P (w.drewN k)= .ok () { (w.drewN k) with heap:=(w.drewN k).heap.setIfInBounds r (.mapIter (some bm) since (seen.push L[j].born) clock) }:=by
   have hi':(w.drewN k).heap[r]? =some (.mapIter (some bm) since seen last):=hi
   simp only [setObj,Sem.run,hi']
  simp only [hrun,Array.getElem?_map,Array.getElem?_eq_getElem hj,Option.map_some,Sem.run_bind,hset,Result.andThen]
  rfl
theorem zMk {Q:Exit→Act→World→Prop} {r bm since last:Nat} {seen:Array Nat} {es:Array MapEntry} {clock:Nat} (ho:opAt n ops ge i=some (.next x false,ty,dst)) (hx:rho ge x= .pointer (some ⟨r,0,none⟩)) (hi:w.heap[r]? =some (.mapIter (some bm) since seen last)) (hb:w.heap[bm]? =some (.map es clock)) (hold:∀ x∈es.toList,x.born<since) (hsc:since≤last)
    (h0:(∀ x∈es.toList,seen.contains x.born=true)→RegG P n ops Q (i+1) (putG dst (.tuple #[.bool false]) ge) w)
    (h1:∀ e w1 w',e∈es.toList→seen.contains e.born=false→(∃ k,w1=w.drewN k)→w'={ w1 with heap:=w1.heap.setIfInBounds r (.mapIter (some bm) since (seen.push e.born) clock) }→RegG P n ops Q (i+1) (putG dst (.tuple #[.bool true,e.key,e.val]) ge) w'):RegG P n ops Q i ge w:=by
 have hex:∀ {v:Value} {w':World},(Instr.next (.pointer (some ⟨r,0,none⟩)) false ty).run P w= .ok v w'→(ex (.next x false) ty (rho ge)).run P w= .ok (.value v) w':=fun {v w'} hr=>by
  unfold ex execOp
  simp only [hx]
  rw [run_bind',hr]
  rfl
 rcases zLk (P:=P) (ty:=ty) hi hb hold hsc with ⟨a,hr⟩ | ⟨e,he,hs,w1,hw1,hr⟩
 ·exact zFc _ _ ho (hex hr) (h0 a)
 ·exact zFc _ _ ho (hex hr) (h1 e w1 _ he hs hw1 rfl)
theorem z4j {Q:Exit→Act→World→Prop} {r bm since clock:Nat} {seen:Array Nat} {es:Array MapEntry} {e:MapEntry} {kv vv:Value} (ho:opAt n ops ge i=some (.entry x,ty,dst)) (hx:rho ge x= .pointer (some ⟨r,0,none⟩)) (hi:w.heap[r]? =some (.mapIter (some bm) since (seen.push e.born) clock)) (hb:w.heap[bm]? =some (.map es clock)) (he:e∈es.toList) (hn:(es.toList.map (·.born)).Nodup) (hk:e.key=kv) (hv:e.val=vv)
    (h:RegG P n ops Q (i+1) (putG dst (.tuple #[kv,vv]) ge) w):RegG P n ops Q i ge w:=by
 subst hk hv
 refine zFc (.tuple #[e.key,e.val]) w ho ?_ h
 have hf:es.find? (·.born==e.born)=some e:=by rw [←Array.find?_toList]; exact find_born e es.toList hn he
 unfold ex execOp
 simp only [hx]
 rw [run_bind']
 simp only [Instr.entry,getObj,Sem.run_bind,Sem.run,hi,hb,Result.andThen,Array.back?_push,bne_self_eq_false,Bool.false_eq_true,if_false,hf]
 rfl
end
section
variable {P:Program} {n:Nat} {ops:Array Oper} {i:Nat} {ge:GEnv} {w:World} {ty:TypeId} {dst:Option Nat} {Q:Exit→Act→World→Prop} {π:List Nat} {pd:Pds} {ps:Nat}
theorem zmg {α:Type} {t e:TypeId} {x ix:Operand} {k:IntKind} {j:Int} {len:Nat} (hk:π[ps]? =some i) (f:α→Value) (l:List α) (z:α)
    (ho:opAt n ops ge i=some (.index t x ix,ty,dst))
    (hx:rho ge x= .agg (l.map f).toArray) (hi:rho ge ix= .int k j) (ht:P.underlying t=some (.array len e)) (hs:zT P e=some 1) (hp:zRb P e=true) (hl:l.length=len)
    (h0:0≤j) (h1:j<(len:Int)) (h:RegM P n ops Q π pd (ps+1) (putG dst (f (l.getD j.toNat z)) ge) w):RegM P n ops Q π pd ps ge w :=
 zAe _ hk ho (fun _=>zth (z:=z) hx hi ht hs hp hl h0 h1) h
end
end

/-! ### A range over a function -/
abbrev zNs (lp:Nat):Value:= .func (.yield lp) #[] #[]
/-- A call of a function value, which may be a loop's yield. -/
def zNk {P:Program} (fv:Value) (args:Array Value) (w:World) (K:Ending→World→Prop):Prop :=
 zbb (P:=P) fv args w K∨∃ lp fn tmps assign body,fv=zNs lp∧(Instr.yield lp args).run P w= .ok (.round lp fn tmps assign body) w∧RoundIn Fence.wide 0 P lp fn tmps assign body w K
theorem zNk.mono {P:Program} {fv:Value} {args:Array Value} {w:World} {K K':Ending→World→Prop} (h:zNk (P:=P) fv args w K) (hk:∀ e w',K e w'→K' e w'):zNk (P:=P) fv args w K':=by
 rcases h with h | ⟨lp,fn,tmps,assign,body,h1,h2,h3⟩
 ·exact .inl (h.mono hk)
 ·exact .inr ⟨lp,fn,tmps,assign,body,h1,h2,h3.mono hk⟩
section
variable [Rnd] {P:Program} {n:Nat} {ops:Array Oper} {Q:Exit→Act→World→Prop} {i:Nat} {ge:GEnv} {w:World} {ty:TypeId} {dst:Option Nat}
end

section
variable [Rnd]
/-! ### The same rules, in few words -/
abbrev sv_ (x:Slc):Value:= .slice x.ptr x.len x.cap
abbrev pv_ (b:Nat):Value:= .pointer (some ⟨b,0,none⟩)
section
variable {P:Program} {n:Nat} {c:Code} {Q:Exit→Env→World→Prop} {l:Env} {w:World} {ops:Array Oper} {X:Exit→Act→World→Prop} {i:Nat} {ge:GEnv}
def Code.rid:Code→Nat
 | .region i _ _=>i
 | _=>0
noncomputable abbrev cr_:=Code.r
noncomputable abbrev cl_:=Code.l
noncomputable abbrev co_:=Code.ops
noncomputable abbrev cb_ (f:Func):Code:=f.body.getD Code.skip
def Pl (k:Nat):List Mode:=List.replicate k .plain
def P1:List Mode:=[.plain]
def P2:List Mode:=[.plain,.plain]
def P3:List Mode:=[.plain,.plain,.plain]
def P4:List Mode:=[.plain,.plain,.plain,.plain]
end
end
section
variable [Rnd]

/-! ### The same rules; what they leave untold is reckoned out -/
def stG (P:Program) (n:Nat) (ops:Array Oper) (ms:List Mode) (i:Nat) (ge:GEnv):GEnv:=(zOb P n ops ms i ge).getD []
def stM (P:Program) (n:Nat) (ops:Array Oper) (π:List Nat) (ms:List Mode) (i:Nat) (ge:GEnv):GEnv:=(znd P n ops π ms i ge).getD []
def enE:List Nat→GEnv→Env
 | [],_=>[]
 | s::ks,ge=>match zV ge s with
  | some ([],v)=>(s,v)::enE ks ge
  | _=>enE ks ge
theorem zOk {ge:GEnv}:∀ {ks:List Nat},∀ p∈enE ks ge,zV ge p.1=some ([],p.2)
 | [],p,h=>by cases h
 | s::ks,p,h=>by
  unfold enE at h
  split at h
  ·rename_i v hv
   rcases List.mem_cons.1 h with rfl | h
   ·exact hv
   ·exact zOk p h
  ·exact zOk p h
theorem zhi (ks:List Nat) (ge:GEnv):(enE ks ge).map (fun p=>zV ge p.1)=(enE ks ge).map (fun p=>some ([],p.2)) :=
 List.map_congr_left fun p hp=>zOk p hp
def z2b (n:Nat) (ops:Array Oper) (ge:GEnv) (i:Nat):Option Nat:=(opAt n ops ge i).bind (·.2.2)
def Code.cnd:Code→Operand
 | .cond o _ _=>o
 | _=> .tmp 0
def gdOf (ge:GEnv) (s:Nat):Gd:=match zV ge s with
 | some x=>x.1
 | none=>[]
abbrev pa_ (p:Option Addr):Option Addr:=some ⟨pblk p,poff p,none⟩
abbrev sl_ (l c b:Nat):Value:= .slice (some ⟨b,0,none⟩) l c
theorem zvc {n:Nat} {t:Array Value} {ge:GEnv} {s:Nat} {v v':Value} (hv:v=v') (hg:zV ge s=some (gdOf ge s,v)) (h:Inv n t ge):Inv n t ((s,gdOf ge s,v')::ge):=by
 subst hv
 refine⟨h.size,fun s' ψ x hx=> ?_⟩
 simp only [zV] at hx
 cases hb:Nat.beq s' s with
 | true =>
  rw [hb] at hx
  have:s'=s:=Nat.eq_of_beq_eq_true hb
  subst this
  simp only [cond_true,Option.some.injEq,Prod.mk.injEq] at hx
  obtain⟨rfl,rfl⟩:=hx
  exact h.ok _ _ _ hg
 | false =>
  rw [hb] at hx
  exact h.ok _ _ _ hx
/-- What a load reads, and whether its type is of one cell. -/
def ld1 (P:Program) (ge:GEnv):Op→Option (Value×Bool)
 | .load t a=>some (rho ge a,zRb P t)
 | _=>none
def ldN (P:Program) (ge:GEnv):Op→Option (Value×Bool×Option Nat)
 | .load t a=>some (rho ge a,aggT P t,zT P t)
 | _=>none
def stO (P:Program) (ge:GEnv):Op→Option (Value×Array Value×Option Nat)
 | .store t a x=>some (rho ge a,(rho ge x).cells,zT P t)
 | _=>none
def ixT (P:Program) (t:TypeId):Option TypeId:=match P.underlying t with
 | some (.slice e)=>some e
 | _=>none
def ixA (P:Program) (ge:GEnv):Op→Option (Value×Value×Option (Option Nat))
 | .indexAddr t x ix=>some (rho ge x,rho ge ix,(ixT P t).map (zT P))
 | _=>none
def vB:Value→Nat
 | .slice (some a) _ _=>a.block
 | _=>0
def vO:Value→Nat
 | .slice (some a) _ _=>a.off
 | _=>0
def vC:Value→Nat
 | .slice _ _ c=>c
 | _=>0
def ldZ (P:Program) (n:Nat) (ops:Array Oper) (ge:GEnv) (i:Nat):Nat:=match (opAt n ops ge i).bind (fun y=>ldN P ge y.1) with
 | some (_,_,some z)=>z
 | _=>0
def ixX (P:Program) (n:Nat) (ops:Array Oper) (ge:GEnv) (i:Nat):Value:=match opAt n ops ge i with
 | some (.indexAddr _ x _,_,_)=>rho ge x
 | _=>undef
def ixZ (P:Program) (n:Nat) (ops:Array Oper) (ge:GEnv) (i:Nat):Nat:=match opAt n ops ge i with
 | some (.indexAddr t _ _,_,_)=>(match (ixT P t).map (zT P) with | some (some z)=>z | _=>0)
 | _=>0
theorem zbn {P:Program} {t e:TypeId} (h:ixT P t=some e):P.underlying t=some (.slice e):=by
 unfold ixT at h
 split at h
 ·rename_i e' he
  rw [he,Option.some.inj h]
 ·cases h
theorem zng {n:Nat} {ops:Array Oper} {ge:GEnv} {i:Nat} {op:Op} {ty:TypeId} {d:Option Nat} (h:opAt n ops ge i=some (op,ty,d)):z2b n ops ge i=d:=by
 unfold z2b; rw [h]; rfl
section
variable {P:Program} {n:Nat} {c:Code} {l:Env} {w:World} {ops:Array Oper} {X:Exit→Act→World→Prop} {i:Nat} {ge:GEnv}
section
variable {Q:Exit→Env→World→Prop}
theorem Ys (h:WpE P n (Code.l c) (seqQ P n (Code.r c) Q) l w) (hc:c= .seq (Code.l c) (Code.r c):=by kernel_rfl):WpE P n c Q l w:=zf hc h
theorem Yr (h:RegG P n (Code.ops c) (zjb n Q) 0 (toG l) w) (hc:c= .region (Code.rid c) (Code.ops c) false:=by kernel_rfl):WpE P n c Q l w:=ze hc h
theorem Yt (h:RegG P n (Code.ops (Code.l c)) (zjb n (seqQ P n (Code.r c) Q)) 0 (toG l) w) (hc:c= .seq (.region (Code.rid (Code.l c)) (Code.ops (Code.l c)) false) (Code.r c):=by kernel_rfl):WpE P n c Q l w:=zf hc (ze rfl h)
theorem Yn (ms:List Mode) (hn:RegG P n ops X (i+ms.length) (stG P n ops ms i ge) w) (h:(zOb P n ops ms i ge).isSome=true:=by kernel_rfl):RegG P n ops X i ge w:=by
 unfold stG at hn
 cases hq:zOb P n ops ms i ge with
 | none=>rw [hq] at h; cases h
 | some g =>
  rw [hq] at hn
  exact z8b lawG ms i ge g hq hn
theorem Yf (ms:List Mode) (ks:List Nat) (h:Q .normal (enE ks (stG P n ops ms i ge)) w) (hc:(Nat.beq ops.size (i+ms.length)&&(zOb P n ops ms i ge).isSome)=true:=by kernel_rfl):RegG P n ops (zjb n Q) i ge w:=by
 simp only [Bool.and_eq_true] at hc
 exact Yn ms (zj _ (Nat.eq_of_beq_eq_true hc.1) (zhi ks _) h) hc.2
theorem Yg {y:Code} (ms:List Mode) (ks:List Nat) (h:WpE P n y Q (enE ks (stG P n ops ms i ge)) w) (hc:(Nat.beq ops.size (i+ms.length)&&(zOb P n ops ms i ge).isSome)=true:=by kernel_rfl):RegG P n ops (zjb n (seqQ P n y Q)) i ge w :=
 Yf ms ks h hc
theorem Yp (ms:List Mode) (ks:List Nat) (k:WpE P n (Code.r c) Q (enE ks (stG P n (Code.ops (Code.l c)) ms 0 (toG l))) w) (hc:c= .seq (.region (Code.rid (Code.l c)) (Code.ops (Code.l c)) false) (Code.r c):=by kernel_rfl)
    (hi:(Nat.beq (Code.ops (Code.l c)).size (0+ms.length)&&(zOb P n (Code.ops (Code.l c)) ms 0 (toG l)).isSome)=true:=by kernel_rfl):WpE P n c Q l w:=Yt (Yg ms ks k hi) hc
theorem Yc {b:Bool} {A B:Prop} (h:(b=true→A)∧(b=false→B)) (ht:A→WpE P n (Code.l c) Q l w) (hf:B→WpE P n (Code.r c) Q l w) (hc:c= .cond (Code.cnd c) (Code.l c) (Code.r c):=by kernel_rfl)
    (hb:zvo l (Code.cnd c)=some (.bool b):=by kernel_rfl):WpE P n c Q l w:=zG hc hb (fun e=>ht (h.1 e)) (fun e=>hf (h.2 e))
theorem Yd (id:Nat) (h:WpE P n (Code.l c) (zYe id Q) l w) (hc:c= .block id (Code.l c):=by kernel_rfl):WpE P n c Q l w:=zQ hc h
theorem z3 (id:Nat) (h:Q (.exit id) l w) (hc:c= .exit id:=by kernel_rfl):WpE P n c Q l w:=z7b hc h
theorem zk (h:Q .normal l w) (hc:c= .skip:=by kernel_rfl):WpE P n c Q l w:=zS hc h
theorem znb (IE:Nat→Env→World→Prop) {m:Nat} {l':Env} (h0:IE m l' w) (round:∀ m l w,IE m l w→WpE P n (Code.l c) (zBk IE m Q) l w) (hc:c= .loop (Code.l c):=by kernel_rfl)
    (hs:l'.map (fun p=>zSc l p.1)=l'.map (fun p=>some p.2):=by kernel_rfl):WpE P n c Q l w:=zDc hc IE (Sub.mk hs) h0 round
theorem Ycut (J:Env→World→Prop) (h:WpE P n (Code.l c) (cutQ (fun l w=>∃ l',Sub l l'∧J l' w) Q) l w) (hy:∀ l w,J l w→WpE P n (Code.r c) Q l w) (hc:c= .seq (Code.l c) (Code.r c):=by kernel_rfl):WpE P n c Q l w :=
 zmb hc J h hy
end
theorem Yspl {b:Bool} {A B:Prop} (s:Nat) (h:(b=true→A)∧(b=false→B)) (ht:A→RegG P n ops X i (resolve s true ge) w) (hf:B→RegG P n ops X i (resolve s false ge) w)
    (hs:zV ge s=some ([],.bool b):=by kernel_rfl):RegG P n ops X i ge w:=zDk s b hs (fun e=>ht (h.1 e)) (fun e=>hf (h.2 e))
theorem Yv {p:Option Addr} {G:Prop} (s:Nat) (h:IsAt p∧G) (k:IsAt p→G→RegG P n ops X i ((s,gdOf ge s,.pointer (pa_ p))::ge) w) (hg:zV ge s=some (gdOf ge s,.pointer p):=by kernel_rfl):RegG P n ops X i ge w :=
 fun t ht=>k h.1 h.2 t (zvc (congrArg Value.pointer h.1) hg ht)
theorem Yu {α:Type} {p q:α} (s:Nat) (f:α→Value) (e:p=q) (k:RegG P n ops X i ((s,gdOf ge s,f q)::ge) w) (hg:zV ge s=some (gdOf ge s,f p):=by kernel_rfl):RegG P n ops X i ge w :=
 fun t ht=>k t (zvc (congrArg f e) hg ht)
theorem zog {b o:Nat} {op:Op} (h:ld1 P ge op=some (.pointer (some ⟨b,o,none⟩),true)):∃ t a,op= .load t a∧rho ge a= .pointer (some ⟨b,o,none⟩)∧zRb P t=true:=by
 cases op with
 | load t a =>
  simp only [ld1,Option.some.injEq,Prod.mk.injEq] at h
  exact⟨t,a,rfl,h.1,h.2⟩
 | _=>cases h
theorem zpg {b o:Nat} {op:Op} {z:Nat} (h:ldN P ge op=some (.pointer (some ⟨b,o,none⟩),true,some z)):∃ t a,op= .load t a∧rho ge a= .pointer (some ⟨b,o,none⟩)∧aggT P t=true∧zT P t=some z:=by
 cases op with
 | load t a =>
  simp only [ldN,Option.some.injEq,Prod.mk.injEq] at h
  exact⟨t,a,rfl,h.1,h.2.1,h.2.2⟩
 | _=>cases h
theorem zcb {α:Type} {f:Op→Option α} {x:α} (h:(opAt n ops ge i).bind (fun y=>f y.1)=some x):∃ op ty d,opAt n ops ge i=some (op,ty,d)∧f op=some x∧z2b n ops ge i=d:=by
 cases ho:opAt n ops ge i with
 | none=>rw [ho] at h; cases h
 | some y =>
  obtain⟨op,ty,d⟩:=y
  rw [ho] at h
  exact⟨op,ty,d,rfl,h,zng ho⟩
theorem Yl {α:Type} {b o:Nat} {f:α→Value} {G:α→Prop} (h:∃ v,w.cell? ⟨b,o,none⟩=some (f v)∧G v) (k:∀ v,G v→RegG P n ops X (i+1) (putG (z2b n ops ge i) (f v) ge) w)
    (ho:(opAt n ops ge i).bind (fun y=>ld1 P ge y.1)=some (.pointer (some ⟨b,o,none⟩),true):=by kernel_rfl):RegG P n ops X i ge w:=by
 obtain⟨op,ty,d,h1,h2,h3⟩:=zcb ho
 obtain⟨t,a,rfl,h4,h5⟩:=zog h2
 obtain⟨v,hc,hG⟩:=h
 rw [h3] at k
 exact zB h1 h4 h5 hc (k v hG)
theorem YL {α:Type} {b o:Nat} {f:α→List Value} {G:α→Prop} (h:∃ v,zc w b o (f v)∧G v) (k:∀ v,G v→RegG P n ops X (i+1) (putG (z2b n ops ge i) (.agg (f v).toArray) ge) w)
    (hz:∀ v,(f v).length=ldZ P n ops ge i:=by intro v; kernel_rfl) (ho:(opAt n ops ge i).bind (fun y=>ldN P ge y.1)=some (.pointer (some ⟨b,o,none⟩),true,some (ldZ P n ops ge i)):=by kernel_rfl):RegG P n ops X i ge w:=by
 obtain⟨op,ty,d,h1,h2,h3⟩:=zcb ho
 obtain⟨t,a,rfl,h4,h5,h6⟩:=zpg h2
 obtain⟨v,hc,hG⟩:=h
 rw [h3] at k
 exact zqc (f v) h1 h4 h5 h6 (hz v) hc (k v hG)
theorem Yo {b o z:Nat} {vs:List Value} {G:World→Prop} (h:zb w b o z∧∀ w',w'=World.puts b o vs w→G w') (k:∀ w',G w'→RegG P n ops X (i+1) (putG (z2b n ops ge i) undef ge) w')
    (hz:(Nat.beq vs.length z&&zI vs)=true:=by kernel_rfl) (ho:(opAt n ops ge i).bind (fun y=>stO P ge y.1)=some (.pointer (some ⟨b,o,none⟩),vs.toArray,some z):=by kernel_rfl):RegG P n ops X i ge w:=by
 obtain⟨op,ty,d,h1,h2,h3⟩:=zcb ho
 simp only [Bool.and_eq_true] at hz
 rw [h3] at k
 cases op with
 | store t a x =>
  simp only [stO,Option.some.injEq,Prod.mk.injEq] at h2
  exact zab vs h1 h2.1 h2.2.1 h2.2.2 (Nat.eq_of_beq_eq_true hz.1) hz.2 h.1 fun w' hw=>k w' (h.2 w' hw)
 | _=>cases h2
theorem Yw (f:Nat→Value) {o:Obj} {G:Nat→World→Prop} (h:∀ b w',b=w.heap.size→w'=w.alloc o→G b w') (k:∀ b w',G b w'→RegG P n ops X (i+1) (putG (z2b n ops ge i) (f b) ge) w')
    (hr:(opAt n ops ge i).map (fun x=>(ex x.1 x.2.1 (rho ge)).run P w)=some (.ok (.value (f w.heap.size)) { w with heap:=w.heap.push o }):=by kernel_rfl):RegG P n ops X i ge w:=by
 cases ho:opAt n ops ge i with
 | none=>rw [ho] at hr; cases hr
 | some x =>
  obtain⟨op,ty,d⟩:=x
  rw [ho] at hr
  simp only [Option.map_some,Option.some.injEq] at hr
  rw [zng ho] at k
  exact zQb f o ho hr fun b w' hb hw=>k b w' (h b w' hb hw)
theorem zlj {f:FuncId} {args:Array Value} (h:Calls P f args w (fun e w'=>∃ v,e= .returned v∧RegG P n ops X (i+1) (putG (z2b n ops ge i) v ge) w'))
    (hr:∀ ww,(opAt n ops ge i).map (fun x=>(ex x.1 x.2.1 (rho ge)).run P ww)=some (.ok (.enter f args) ww)):RegG P n ops X i ge w:=by
 cases ho:opAt n ops ge i with
 | none=>have:=hr w; rw [ho] at this; cases this
 | some x =>
  obtain⟨op,ty,d⟩:=x
  rw [zng ho] at h
  exact zW f args ho (fun ww=>by have:=hr ww; rw [ho] at this; simpa only [Option.map_some,Option.some.injEq] using this) h
theorem Ym0 {f:FuncId} {args:Array Value} {v:Value} {G:World→Prop} (h:Calls P f args w (fun e w'=>e= .returned v∧G w')) (k:∀ w',G w'→RegG P n ops X (i+1) (putG (z2b n ops ge i) v ge) w')
    (hr:∀ ww,(opAt n ops ge i).map (fun x=>(ex x.1 x.2.1 (rho ge)).run P ww)=some (.ok (.enter f args) ww):=by intro ww; kernel_rfl):RegG P n ops X i ge w :=
 zlj (Calls.mono h fun e w' ⟨he,hg⟩=>⟨v,he,k w' hg⟩) hr
theorem Ym1 {α:Type} {f:FuncId} {args:Array Value} {g:α→Value} {G:α→World→Prop} (h:Calls P f args w (fun e w'=>∃ r,e= .returned (g r)∧G r w')) (k:∀ r w',G r w'→RegG P n ops X (i+1) (putG (z2b n ops ge i) (g r) ge) w')
    (hr:∀ ww,(opAt n ops ge i).map (fun x=>(ex x.1 x.2.1 (rho ge)).run P ww)=some (.ok (.enter f args) ww):=by intro ww; kernel_rfl):RegG P n ops X i ge w :=
 zlj (Calls.mono h fun e w' ⟨r,he,hg⟩=>⟨g r,he,k r w' hg⟩) hr
theorem Ym2 {α β:Type} {f:FuncId} {args:Array Value} {g:α→β→Value} {G:α→β→World→Prop} (h:Calls P f args w (fun e w'=>∃ r s,e= .returned (g r s)∧G r s w')) (k:∀ r s w',G r s w'→RegG P n ops X (i+1) (putG (z2b n ops ge i) (g r s) ge) w')
    (hr:∀ ww,(opAt n ops ge i).map (fun x=>(ex x.1 x.2.1 (rho ge)).run P ww)=some (.ok (.enter f args) ww):=by intro ww; kernel_rfl):RegG P n ops X i ge w :=
 zlj (Calls.mono h fun e w' ⟨r,s,he,hg⟩=>⟨g r s,he,k r s w' hg⟩) hr
theorem Ym3 {α β γ:Type} {f:FuncId} {args:Array Value} {g:α→β→γ→Value} {G:α→β→γ→World→Prop} (h:Calls P f args w (fun e w'=>∃ r s u,e= .returned (g r s u)∧G r s u w')) (k:∀ r s u w',G r s u w'→RegG P n ops X (i+1) (putG (z2b n ops ge i) (g r s u) ge) w')
    (hr:∀ ww,(opAt n ops ge i).map (fun x=>(ex x.1 x.2.1 (rho ge)).run P ww)=some (.ok (.enter f args) ww):=by intro ww; kernel_rfl):RegG P n ops X i ge w :=
 zlj (Calls.mono h fun e w' ⟨r,s,u,he,hg⟩=>⟨g r s u,he,k r s u w' hg⟩) hr
theorem zPf {op:Op} {x y:Value} {z:Nat} (h:ixA P ge op=some (x,y,some (some z))):∃ t e a b,op= .indexAddr t a b∧rho ge a=x∧rho ge b=y∧P.underlying t=some (.slice e)∧zT P e=some z:=by
 cases op with
 | indexAddr t a b =>
  simp only [ixA,Option.some.injEq,Prod.mk.injEq] at h
  cases he:ixT P t with
  | none=>rw [he] at h; simp at h
  | some e =>
   rw [he] at h
   simp only [Option.map_some,Option.some.injEq] at h
   exact⟨t,e,a,b,rfl,h.1,h.2.1,zbn he,h.2.2⟩
 | _=>cases h
theorem Yi {j:Int} {ln:Nat} {G:Prop} (h:0≤j∧j<((ln:Nat):Int)∧G) (k:G→RegG P n ops X (i+1) (putG (z2b n ops ge i) (.pointer (some ⟨vB (ixX P n ops ge i),vO (ixX P n ops ge i)+j.toNat*ixZ P n ops ge i,none⟩)) ge) w)
    (ho:(opAt n ops ge i).bind (fun y=>ixA P ge y.1)=some (.slice (some ⟨vB (ixX P n ops ge i),vO (ixX P n ops ge i),none⟩) ln (vC (ixX P n ops ge i)),.int .i64 j,some (some (ixZ P n ops ge i))):=by kernel_rfl):RegG P n ops X i ge w:=by
 obtain⟨op,ty,d,h1,h2,h3⟩:=zcb ho
 obtain⟨t,e,a,b,rfl,h4,h5,h6,h7⟩:=zPf h2
 rw [h3] at k
 exact zrc h1 h4 h5 h6 h7 h.1 h.2.1 (k h.2.2)
theorem Yi1 {j:Int} {ln:Nat} {G:Prop} (h:0≤j∧j<((ln:Nat):Int)∧G) (k:G→RegG P n ops X (i+1) (putG (z2b n ops ge i) (.pointer (some ⟨vB (ixX P n ops ge i),vO (ixX P n ops ge i)+j.toNat,none⟩)) ge) w)
    (ho:(opAt n ops ge i).bind (fun y=>ixA P ge y.1)=some (.slice (some ⟨vB (ixX P n ops ge i),vO (ixX P n ops ge i),none⟩) ln (vC (ixX P n ops ge i)),.int .i64 j,some (some 1)):=by kernel_rfl):RegG P n ops X i ge w:=by
 obtain⟨op,ty,d,h1,h2,h3⟩:=zcb ho
 obtain⟨t,e,a,b,rfl,h4,h5,h6,h7⟩:=zPf h2
 rw [h3] at k
 exact zHc h1 h4 h5 h6 h7 h.1 h.2.1 (k h.2.2)
/-! What a call hands back -/
def zTc (fn:Func) (k:Nat):Nat:=match fn.results[k]? with
 | some (.tmp s)=>s
 | _=>0
/-- What a return meets, through all that stands around it. -/
class RetOf (Q:Exit→Env→World→Prop) (Q0:outParam (Exit→Env→World→Prop)):Prop where
 h:∀ l w,Q0 .ret l w→Q .ret l w
instance {fn:Func} {R:Value→World→Prop}:RetOf (retQ P fn R) (retQ P fn R):=⟨fun _ _ h=>h⟩
instance {Q Q0:Exit→Env→World→Prop} {y:Code} [k:RetOf Q Q0]:RetOf (seqQ P n y Q) Q0:=⟨fun l w h=>k.h l w h⟩
instance {Q Q0:Exit→Env→World→Prop} {id:Nat} [k:RetOf Q Q0]:RetOf (zYe id Q) Q0:=⟨fun l w h=>k.h l w h⟩
instance {Q Q0:Exit→Env→World→Prop} {IE:Nat→Env→World→Prop} {m:Nat} [k:RetOf Q Q0]:RetOf (zBk IE m Q) Q0:=⟨fun l w h=>k.h l w h⟩
instance {Q Q0:Exit→Env→World→Prop} {J:Env→World→Prop} [k:RetOf Q Q0]:RetOf (cutQ J Q) Q0:=⟨fun l w h=>k.h l w h⟩
section
variable {fn:Func} {R:Value→World→Prop} {Q:Exit→Env→World→Prop} [q:RetOf Q (retQ P fn R)]
theorem YSg {rs:List ResultVar} {v:Value} (h:zph P l w rs [v]) (hR:R v w) (hr:fn.results.toList=rs:=by kernel_rfl) (hc:c= .ret:=by kernel_rfl):WpE P n c Q l w:=z2 hc (q.h _ _ (retS hr h hR))
theorem YTg {rs:List ResultVar} {vs:List Value} (h:zph P l w rs vs) (hR:R (.tuple vs.toArray) w) (hr:fn.results.toList=rs:=by kernel_rfl) (h1:Nat.beq vs.length 1=false:=by kernel_rfl) (hc:c= .ret:=by kernel_rfl):WpE P n c Q l w:=z2 hc (q.h _ _ (retT hr h h1 hR))
theorem YS {v:Value} (hR:R v w) (hr:fn.results.toList=[.tmp (zTc fn 0)]:=by kernel_rfl) (hv:zSc l (zTc fn 0)=some v:=by kernel_rfl) (hc:c= .ret:=by kernel_rfl):WpE P n c Q l w:=YSg (rs:=[.tmp (zTc fn 0)]) ⟨hv,trivial⟩ hR hr hc
theorem YT2 {v1 v2:Value} (hR:R (.tuple #[v1,v2]) w) (hr:fn.results.toList=[.tmp (zTc fn 0),.tmp (zTc fn 1)]:=by kernel_rfl) (h1:zSc l (zTc fn 0)=some v1:=by kernel_rfl) (h2:zSc l (zTc fn 1)=some v2:=by kernel_rfl) (hc:c= .ret:=by kernel_rfl):WpE P n c Q l w :=
 YTg (rs:=[.tmp (zTc fn 0),.tmp (zTc fn 1)]) (vs:=[v1,v2]) ⟨h1,h2,trivial⟩ hR hr rfl hc
theorem YT3 {v1 v2 v3:Value} (hR:R (.tuple #[v1,v2,v3]) w) (hr:fn.results.toList=[.tmp (zTc fn 0),.tmp (zTc fn 1),.tmp (zTc fn 2)]:=by kernel_rfl) (h1:zSc l (zTc fn 0)=some v1:=by kernel_rfl) (h2:zSc l (zTc fn 1)=some v2:=by kernel_rfl) (h3:zSc l (zTc fn 2)=some v3:=by kernel_rfl) (hc:c= .ret:=by kernel_rfl):WpE P n c Q l w :=
 YTg (rs:=[.tmp (zTc fn 0),.tmp (zTc fn 1),.tmp (zTc fn 2)]) (vs:=[v1,v2,v3]) ⟨h1,h2,h3,trivial⟩ hR hr rfl hc
end
end
end

section
variable {P:Program} {n:Nat} {c:Code} {l:Env} {w:World} {ops:Array Oper} {X:Exit→Act→World→Prop} {i:Nat} {ge:GEnv}
/-! What reads alone -/
section
variable {m:Nat} {C:World→Prop} {Q:Act→Prop}
theorem Qn (ms:List Mode) (hn:RegQ P n ops m C Q (i+ms.length) (stG P n ops ms i ge) w) (h:(zOb P n ops ms i ge).isSome=true:=by kernel_rfl):RegQ P n ops m C Q i ge w:=by
 unfold stG at hn
 cases hq:zOb P n ops ms i ge with
 | none=>rw [hq] at h; cases h
 | some g =>
  rw [hq] at hn
  exact fun hC=>z8b lawQ ms i ge g hq (hn hC)
theorem Qspl {b:Bool} {A B:Prop} (s:Nat) (h:(b=true→A)∧(b=false→B)) (ht:A→RegQ P n ops m C Q i (resolve s true ge) w) (hf:B→RegQ P n ops m C Q i (resolve s false ge) w)
    (hs:zV ge s=some ([],.bool b):=by kernel_rfl):RegQ P n ops m C Q i ge w:=zIf s b hs (fun e=>ht (h.1 e)) (fun e=>hf (h.2 e))
theorem Qv {p:Option Addr} {G:Prop} (s:Nat) (h:IsAt p∧G) (k:IsAt p→G→RegQ P n ops m C Q i ((s,gdOf ge s,.pointer (pa_ p))::ge) w) (hg:zV ge s=some (gdOf ge s,.pointer p):=by kernel_rfl):RegQ P n ops m C Q i ge w :=
 fun hC t ht=>k h.1 h.2 hC t (zvc (congrArg Value.pointer h.1) hg ht)
theorem Qu {α:Type} {p q:α} (s:Nat) (f:α→Value) (e:p=q) (k:RegQ P n ops m C Q i ((s,gdOf ge s,f q)::ge) w) (hg:zV ge s=some (gdOf ge s,f p):=by kernel_rfl):RegQ P n ops m C Q i ge w :=
 fun hC t ht=>k hC t (zvc (congrArg f e) hg ht)
theorem Ql {α:Type} {b o:Nat} {f:α→Value} {G:α→Prop} (h:∃ v,w.cell? ⟨b,o,none⟩=some (f v)∧G v) (k:∀ v,G v→RegQ P n ops m C Q (i+1) (putG (z2b n ops ge i) (f v) ge) w)
    (ho:(opAt n ops ge i).bind (fun y=>ld1 P ge y.1)=some (.pointer (some ⟨b,o,none⟩),true):=by kernel_rfl):RegQ P n ops m C Q i ge w:=by
 obtain⟨op,ty,d,h1,h2,h3⟩:=zcb ho
 obtain⟨t,a,rfl,h4,h5⟩:=zog h2
 obtain⟨v,hc,hG⟩:=h
 rw [h3] at k
 exact zx h1 h4 h5 hc (k v hG)
theorem QL {α:Type} {b o:Nat} {f:α→List Value} {G:α→Prop} (h:∃ v,zc w b o (f v)∧G v) (k:∀ v,G v→RegQ P n ops m C Q (i+1) (putG (z2b n ops ge i) (.agg (f v).toArray) ge) w)
    (hz:∀ v,(f v).length=ldZ P n ops ge i:=by intro v; kernel_rfl) (ho:(opAt n ops ge i).bind (fun y=>ldN P ge y.1)=some (.pointer (some ⟨b,o,none⟩),true,some (ldZ P n ops ge i)):=by kernel_rfl):RegQ P n ops m C Q i ge w:=by
 obtain⟨op,ty,d,h1,h2,h3⟩:=zcb ho
 obtain⟨t,a,rfl,h4,h5,h6⟩:=zpg h2
 obtain⟨v,hc,hG⟩:=h
 rw [h3] at k
 exact zcd (f v) h1 h4 h5 h6 (hz v) hc (k v hG)
theorem Qi {j:Int} {ln:Nat} {G:Prop} (h:0≤j∧j<((ln:Nat):Int)∧G) (k:G→RegQ P n ops m C Q (i+1) (putG (z2b n ops ge i) (.pointer (some ⟨vB (ixX P n ops ge i),vO (ixX P n ops ge i)+j.toNat*ixZ P n ops ge i,none⟩)) ge) w)
    (ho:(opAt n ops ge i).bind (fun y=>ixA P ge y.1)=some (.slice (some ⟨vB (ixX P n ops ge i),vO (ixX P n ops ge i),none⟩) ln (vC (ixX P n ops ge i)),.int .i64 j,some (some (ixZ P n ops ge i))):=by kernel_rfl):RegQ P n ops m C Q i ge w:=by
 obtain⟨op,ty,d,h1,h2,h3⟩:=zcb ho
 obtain⟨t,e,a,b,rfl,h4,h5,h6,h7⟩:=zPf h2
 rw [h3] at k
 exact z9e h1 h4 h5 h6 h7 h.1 h.2.1 (k h.2.2)
theorem Qi1 {j:Int} {ln:Nat} {G:Prop} (h:0≤j∧j<((ln:Nat):Int)∧G) (k:G→RegQ P n ops m C Q (i+1) (putG (z2b n ops ge i) (.pointer (some ⟨vB (ixX P n ops ge i),vO (ixX P n ops ge i)+j.toNat,none⟩)) ge) w)
    (ho:(opAt n ops ge i).bind (fun y=>ixA P ge y.1)=some (.slice (some ⟨vB (ixX P n ops ge i),vO (ixX P n ops ge i),none⟩) ln (vC (ixX P n ops ge i)),.int .i64 j,some (some 1)):=by kernel_rfl):RegQ P n ops m C Q i ge w:=by
 obtain⟨op,ty,d,h1,h2,h3⟩:=zcb ho
 obtain⟨t,e,a,b,rfl,h4,h5,h6,h7⟩:=zPf h2
 rw [h3] at k
 exact zqh h1 h4 h5 h6 h7 h.1 h.2.1 (k h.2.2)
end
theorem Qf {Q:Exit→Env→World→Prop} {G:World→Prop} (ms:List Mode) (ks:List Nat) (h:∀ w',Ext w w'→G w') (k:∀ w',G w'→Q .normal (enE ks (stG P n ops ms i ge)) w')
    (hc:(Nat.beq ops.size (i+ms.length)&&(zOb P n ops ms i ge).isSome)=true:=by kernel_rfl):RegQ P n ops ops.size (Ext w) (fun a=>∀ w',Ext w w'→zjb n Q .normal a w') i ge w:=by
 simp only [Bool.and_eq_true] at hc
 exact Qn ms (zad _ (Nat.eq_of_beq_eq_true hc.1) (zhi ks _) fun w' hw=>k w' (h w' hw)) hc.2
/-! What reads and writes in an order that is drawn -/
section
variable {π:List Nat} {pd:Pds} {ps:Nat} {Q:Exit→Act→World→Prop}
theorem Mn (ms:List Mode) (hn:RegM P n ops Q π pd (ps+ms.length) (stM P n ops π ms ps ge) w) (h:(znd P n ops π ms ps ge).isSome=true:=by kernel_rfl):RegM P n ops Q π pd ps ge w:=by
 unfold stM at hn
 cases hq:znd P n ops π ms ps ge with
 | none=>rw [hq] at h; cases h
 | some g =>
  rw [hq] at hn
  exact zZc ms ps ge g hq hn
theorem Mspl {b:Bool} {A B:Prop} (s:Nat) (h:(b=true→A)∧(b=false→B)) (ht:A→RegM P n ops Q π pd ps (resolve s true ge) w) (hf:B→RegM P n ops Q π pd ps (resolve s false ge) w)
    (hs:zV ge s=some ([],.bool b):=by kernel_rfl):RegM P n ops Q π pd ps ge w:=zLf s b hs (fun e=>ht (h.1 e)) (fun e=>hf (h.2 e))
theorem Mv {p:Option Addr} {G:Prop} (s:Nat) (h:IsAt p∧G) (k:IsAt p→G→RegM P n ops Q π pd ps ((s,gdOf ge s,.pointer (pa_ p))::ge) w) (hg:zV ge s=some (gdOf ge s,.pointer p):=by kernel_rfl):RegM P n ops Q π pd ps ge w :=
 fun t ht=>k h.1 h.2 t (zvc (congrArg Value.pointer h.1) hg ht)
theorem Mu {α:Type} {p q:α} (s:Nat) (f:α→Value) (e:p=q) (k:RegM P n ops Q π pd ps ((s,gdOf ge s,f q)::ge) w) (hg:zV ge s=some (gdOf ge s,f p):=by kernel_rfl):RegM P n ops Q π pd ps ge w :=
 fun t ht=>k t (zvc (congrArg f e) hg ht)
theorem Ml {α:Type} {b o:Nat} {f:α→Value} {G:α→Prop} (i:Nat) (h:∃ v,w.cell? ⟨b,o,none⟩=some (f v)∧G v) (k:∀ v,w.cell? ⟨b,o,none⟩=some (f v)→G v→RegM P n ops Q π ((i,fun w'=>w'.cell? ⟨b,o,none⟩=some (f v))::pd) (ps+1) (putG (z2b n ops ge i) (f v) ge) w)
    (hk:π[ps]? =some i:=by kernel_rfl) (ho:(opAt n ops ge i).bind (fun y=>ld1 P ge y.1)=some (.pointer (some ⟨b,o,none⟩),true):=by kernel_rfl):RegM P n ops Q π pd ps ge w:=by
 obtain⟨op,ty,d,h1,h2,h3⟩:=zcb ho
 obtain⟨t,a,rfl,h4,h5⟩:=zog h2
 obtain⟨v,hc,hG⟩:=h
 rw [h3] at k
 exact zU hk h1 h4 h5 hc (k v hc hG)
theorem ML {α:Type} {b o:Nat} {f:α→List Value} {G:α→Prop} (i:Nat) (h:∃ v,zc w b o (f v)∧G v) (k:∀ v,zc w b o (f v)→G v→RegM P n ops Q π ((i,fun w'=>zc w' b o (f v))::pd) (ps+1) (putG (z2b n ops ge i) (.agg (f v).toArray) ge) w)
    (hk:π[ps]? =some i:=by kernel_rfl) (hz:∀ v,(f v).length=ldZ P n ops ge i:=by intro v; kernel_rfl) (ho:(opAt n ops ge i).bind (fun y=>ldN P ge y.1)=some (.pointer (some ⟨b,o,none⟩),true,some (ldZ P n ops ge i)):=by kernel_rfl):RegM P n ops Q π pd ps ge w:=by
 obtain⟨op,ty,d,h1,h2,h3⟩:=zcb ho
 obtain⟨t,a,rfl,h4,h5,h6⟩:=zpg h2
 obtain⟨v,hc,hG⟩:=h
 rw [h3] at k
 exact zMf hk (f v) h1 h4 h5 h6 (hz v) hc (k v hc hG)
theorem Mi {j:Int} {ln:Nat} {G:Prop} (i:Nat) (h:0≤j∧j<((ln:Nat):Int)∧G) (k:G→RegM P n ops Q π pd (ps+1) (putG (z2b n ops ge i) (.pointer (some ⟨vB (ixX P n ops ge i),vO (ixX P n ops ge i)+j.toNat*ixZ P n ops ge i,none⟩)) ge) w)
    (hk:π[ps]? =some i:=by kernel_rfl) (ho:(opAt n ops ge i).bind (fun y=>ixA P ge y.1)=some (.slice (some ⟨vB (ixX P n ops ge i),vO (ixX P n ops ge i),none⟩) ln (vC (ixX P n ops ge i)),.int .i64 j,some (some (ixZ P n ops ge i))):=by kernel_rfl):RegM P n ops Q π pd ps ge w:=by
 obtain⟨op,ty,d,h1,h2,h3⟩:=zcb ho
 obtain⟨t,e,a,b,rfl,h4,h5,h6,h7⟩:=zPf h2
 rw [h3] at k
 exact zff hk h1 h4 h5 h6 h7 h.1 h.2.1 (k h.2.2)
theorem Mi1 {j:Int} {ln:Nat} {G:Prop} (i:Nat) (h:0≤j∧j<((ln:Nat):Int)∧G) (k:G→RegM P n ops Q π pd (ps+1) (putG (z2b n ops ge i) (.pointer (some ⟨vB (ixX P n ops ge i),vO (ixX P n ops ge i)+j.toNat,none⟩)) ge) w)
    (hk:π[ps]? =some i:=by kernel_rfl) (ho:(opAt n ops ge i).bind (fun y=>ixA P ge y.1)=some (.slice (some ⟨vB (ixX P n ops ge i),vO (ixX P n ops ge i),none⟩) ln (vC (ixX P n ops ge i)),.int .i64 j,some (some 1)):=by kernel_rfl):RegM P n ops Q π pd ps ge w:=by
 obtain⟨op,ty,d,h1,h2,h3⟩:=zcb ho
 obtain⟨t,e,a,b,rfl,h4,h5,h6,h7⟩:=zPf h2
 rw [h3] at k
 exact zxh hk h1 h4 h5 h6 h7 h.1 h.2.1 (k h.2.2)
theorem z3b {b o z:Nat} {vs:List Value} {G:World→Prop} (e:Nat) (D:List Nat) (pd':Pds) (h:zb w b o z∧∀ w',w'=World.puts b o vs w→G w') (k:∀ w',G w'→zfc pd' w'∧RegM P n ops Q π pd' (ps+1) (putG (z2b n ops ge e) undef ge) w')
    (hk:π[ps]? =some e:=by kernel_rfl) (hB:(zuh ops (π.take ps) e&&zTd ops e [] D)=true:=by kernel_rfl) (hpd:zsc D pd=pd':=by kernel_rfl)
    (hz:(Nat.beq vs.length z&&zI vs)=true:=by kernel_rfl) (ho:(opAt n ops ge e).bind (fun y=>stO P ge y.1)=some (.pointer (some ⟨b,o,none⟩),vs.toArray,some z):=by kernel_rfl):RegM P n ops Q π pd ps ge w:=by
 obtain⟨op,ty,d,h1,h2,h3⟩:=zcb ho
 simp only [Bool.and_eq_true] at hz hB
 rw [h3] at k
 cases op with
 | store t a x =>
  simp only [stO,Option.some.injEq,Prod.mk.injEq] at h2
  exact z8d e D pd' vs hk hB.1 hB.2 hpd h1 h2.1 h2.2.1 h2.2.2 (Nat.eq_of_beq_eq_true hz.1) hz.2 h.1 fun w' hw=>k w' (h.2 w' hw)
 | _=>cases h2
end
theorem Mf {Q:Exit→Env→World→Prop} {π:List Nat} {pd:Pds} {k:Nat} (ms:List Mode) (ks:List Nat) (h:Q .normal (enE ks (stM P n ops π ms k ge)) w)
    (hc:(Nat.beq (k+ms.length) π.length&&((List.range ops.size).all fun j=>π.contains j)&&(znd P n ops π ms k ge).isSome)=true:=by kernel_rfl):RegM P n ops (zjb n Q) π pd k ge w:=by
 simp only [Bool.and_eq_true] at hc
 exact Mn ms (zdd _ (Nat.eq_of_beq_eq_true hc.1.1) hc.1.2 (zhi ks _) h) hc.2
/-! The function's call, and what it hands back -/
theorem Yh {f:FuncId} {fn:Func} {args:Array Value} {K:Ending→World→Prop} (hf:P.funcs[f]? =some fn) (h:WpE P fn.ntmps (cb_ fn) (retQ P fn (fun v w'=>K (.returned v) w')) (z8f args.toList) w)
    (hb:fn.body=some (cb_ fn):=by kernel_rfl) (hsz:Nat.ble args.toList.length fn.ntmps=true:=by kernel_rfl):Calls P f args w K:=by
 have:=z4 (args:=args.toList) hf hb fn.ntmps rfl hsz _ rfl h
 rw [Array.toArray_toList] at this
 refine Calls.mono this ?_
 rintro e w' ⟨v,rfl,hv⟩
 exact hv
end
end Go.Proofs.YtofjmclceflgiaaGreat
