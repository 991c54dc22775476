/-
  A part of the proof of TopCollects.
  Conditions: none.
-/
import Derived.WalkKit
import Derived.BigQuiet
import Derived.Deep.Quiet
import Derived.SizedLaws
import Derived.StillTail
import Derived.OrdersHeld
import Derived.Laws.BytesString
import Derived.Below
import Derived.LaidEql
import Derived.Lib.Overlaps
import Derived.MapKept
import Derived.OrdersIn
import Derived.RangeFuncRecord
import Derived.WideKeyArr
import Derived.Lib.ConvBytes
namespace Go.Proofs.YtofjmclceflgiaaGreat
open Go
abbrev Vi (x:Int):Value:=Value.int .i64 x
abbrev Vp (x:Option Addr):Value:=Value.pointer x
abbrev Vo (x:Bool):Value:=Value.bool x
abbrev OA:=Option Addr
abbrev WP:=World -> Prop
abbrev Vt (x:ByteArray):Value:=Value.string x
abbrev Vb (x:Int):Value:=Value.int .u8 x
abbrev Ns:Value:=Value.slice none 0 0
abbrev Be:ByteArray:=ByteArray.empty
set_option linter.defProp false
def aA:=@List.getElem?_eq_getElem
def aB:=@List.length_append
def aC:=@Option.some.injEq
def aD:=@Bool.and_eq_true
def aE:=@Option.some.inj
def aF:=@List.getElem?_map
def aG:=@List.mem_append
def aH:=@List.mem_append_right
def aI:=@List.mem_cons_self
def aJ:=@List.mem_cons_of_mem
def aK:=@List.length_set
def aL:=@List.getElem?_set_self
def aM:=@Nat.le_of_ble_eq_true
def aN:=@List.append_assoc
def aO:=@List.getElem?_append_left
def aQ:=@List.mem_map
def aR:=@List.map_append
def aS:=@List.getElem?_append_right
def aT:=@List.getElem?_set_ne
def aU:=@List.mem_cons
def aV:=@List.length_cons
def aW:=@Nat.mul_one
def aX:=@List.eq_nil_of_length_eq_zero
def aY:=@List.flatMap_cons
def aZ:=@List.length_take
def bA:=@Array.getD_eq_getD_getElem?
def bB:=@List.mem_append_left
def bC:=@Nat.le_refl
def bE:=@List.flatMap_append
def bF:=@List.take_of_length_le
def bG:=@List.mem_iff_getElem?
def bH:=@Nat.eq_of_beq_eq_true
def bI:=@Prod.mk.injEq
def bJ:=@List.length_drop
def bK:=@List.mem_singleton
def bL:=@List.take_add_one
def bM:=@List.take_append_drop
def bN:=@List.length_replicate
def bO:=@List.drop_eq_getElem_cons
def bP:=@List.all_eq_true
def bQ:=@List.eq_of_mem_replicate
def bR:=@List.mem_filter
def bS:=@Array.getElem?_setIfInBounds_self_of_lt
def bT:=@List.length_singleton
def bU:=@Nat.zero_le
def bV:=@Nat.mul_le_mul_right
def bW:=@Bool.false_eq_true
def bX:=@Classical.byContradiction
def bY:=@Option.map_some
def bZ:=@List.append_nil
def cA:=@List.getElem?_cons_zero
def cB:=@List.getElem?_cons_succ
def cC:=@List.getElem?_eq_some_iff
def cD:=@Bool.or_eq_false_iff
def cE:=@Bool.or_eq_true
def cF:=@List.getD_eq_getElem?_getD
def cG:=@List.map_cons
def cH:=@Nat.le_trans
def cI:=@List.length_filter_le
def cJ:=@List.nodup_append
def cK:=@List.mem_or_eq_of_mem_set
def cL:=@List.drop_eq_nil_of_le
def cM:=@Nat.mod_eq_of_lt
def cN:=@List.pairwise_map
def cO:=@List.eraseIdx_cons_succ
def cP:=@Array.getElem?_setIfInBounds_ne
def cQ:=@Array.toArray_toList
def cR:=@Nat.add_mul
def cS:=@List.set_cons_succ
def cT:=@List.mem_of_mem_take
def cU:=@List.take_length
def cV:=@List.map_set
def cW:=@List.exists_mem_of_ne_nil
def cX:=@List.nodup_nil
def cY:=@Nat.sub_self
def cZ:=@List.pairwise_cons
def dA:=@List.perm_append_comm_assoc
def dB:=@Nat.lt_or_ge
def dC:=@List.mem_range
def dD:=@Array.getElem?_eq_some_iff
def dE:=@Nat.zero_add
def dG:=@List.getElem?_inj
def dH:=@List.replicate_succ
def dI:=@Nat.lt_of_le_of_lt
def dJ:=@List.getElem?_take
def dK:=@List.getElem?_drop
def dL:=@List.take_append_of_le_length
def dM:=@List.mem_of_mem_drop
def dN:=@Nat.le_succ
def dO:=@Bool.not_eq_true'
def dP:=@List.nodup_cons
def dQ:=@Array.getElem?_eq_none
def dR:=@List.map_map
def dS:=@Bool.true_and
def dU:=@List.any_eq_true
def dV:=@List.cons_append
def dW:=@List.flatMap_nil
def dX:=@List.map_replicate
def dY:=@Option.toList_some
def dZ:=@List.filter_append
def eA:=@List.getElem?_zip_eq_some
def eB:=@List.pairwise_iff_getElem
def eC:=@List.length_nil
def eD:=@List.drop_left'
def eE:=@Nat.add_zero
def eF:=@Nat.le_of_succ_le
def eG:=@List.flatten_cons
def eH:=@Array.all_eq_true_iff_forall_mem
def eI:=@List.ext_getElem?
def eJ:=@Option.isSome_iff_exists
def eK:=@List.getElem?_take_of_lt
def eL:=@List.length_flatten
def eO:=@Int.le_refl
def eP:=@List.drop_of_length_le
def eQ:=@Nat.mod_lt
def eR:=@Int.tmod_lt_of_pos
def eS:=@Option.toList_none
def eT:=@List.countP_append
def eU:=@List.nil_append
def eV:=@Nat.min_eq_left
def eW:=@Bool.eq_iff_iff
def eX:=@Nat.not_lt_zero
def eY:=@Nat.add_assoc
def eZ:=@List.map_take
def fA:=@Bool.and_eq_false_iff
def fB:=@List.filterMap_append
def fC:=@List.drop_zero
def fD:=@Nat.eq_of_mul_eq_mul_right
def fE:=@Nat.pow_lt_pow_right
def fF:=@Option.bind_some
def fG:=@Nat.zero_mul
def fH:=@List.perm_middle
def fI:=@List.filter_cons
def fJ:=@Array.getElem?_eq_getElem
def fK:=@List.filter_eq_self
def fL:=@List.countP_eq_zero
def fM:=@List.all_cons
def fN:=@List.map_drop
def fO:=@List.filter_cons_of_neg
def fP:=@List.filter_cons_of_pos
def fQ:=@List.set_eq_take_append_cons_drop
def fR:=@List.map_inj_left
def fS:=@List.drop_drop
def fT:=@List.Pairwise.imp
def fU:=@Array.getElem?_modify
def fV:=@Array.getElem?_toList
def fW:=@List.getElem?_toArray
def fX:=@List.cons_lt_cons_iff
def fY:=@Nat.blt_eq
def fZ:=@List.getElem_mem
def gA:=@List.mem_eraseIdx_iff_getElem?
def gB:=@List.not_mem_nil
def gC:=@List.countP_cons
def gD:=@Bool.false_or
def gE:=@List.sum_cons
def gF:=@List.mem_of_getElem?
def gG:=@Nat.sub_mul
def gH:=@List.not_lt
def gI:=@List.mem_zipIdx_iff_getElem?
def gJ:=@Option.map_none
def gK:=@Nat.mul_le_mul_left
def gL:=@List.map_congr_left
def gM:=@Nat.add_comm
def gN:=@Array.ext'
def gO:=@List.take_zero
def gP:=@List.zip_cons_cons
def gQ:=@List.Perm.refl
def gR:=@List.length_range
def gT:=@List.filter_congr
def gU:=@List.Sublist.refl
def gV:=@List.drop_sublist
def gW:=@List.flatMap_map
abbrev Z0 (b:Nat):OA:=some ⟨b,0,none⟩
theorem N_ {p q:Prop} (h:p->q:=by intro h; cases h):p->q:=h
theorem M_ {p:Prop} (h:p:=by show Int.toNat _<Int.toNat _; omega):p:=h
theorem L_ {p:Prop} (h:p:=by show _ - _<_ - _; omega):p:=h
theorem dT {p:Prop} [i:Decidable p] (h:decide p=true):p:=of_decide_eq_true h
theorem dF {p:Prop} [i:Decidable p] (h:decide p=false):¬p:=of_decide_eq_false h
theorem gSo {α:Type _} {l:List α} {i:Nat} {a:α} (h:l[i]? =some a):∃ h:i<l.length,l[i]=a:=cC.1 h
theorem mG {α:Type _} {l:List α} {i:Nat} {a:α} (h:l[i]? =some a):a∈l:=gF h
theorem tN (n:Nat):(n:Int).toNat=n:=Int.toNat_natCast n
theorem lM {α β:Type _} {as:List α} (f:α->β):(as.map f).length=as.length:=List.length_map f
theorem K_ {p:Prop} (h:p:=by kernel_rfl):p:=h
theorem O_ {p:Prop} (h:p:=by omega):p:=h
theorem D_ {p:Prop} (h:p:=by decide):p:=h
set_option linter.unusedSimpArgs false
set_option linter.unusedVariables false
set_option linter.unusedSectionVars false
def band (k:IntKind) (x y:Int):Int:=k.wrap (BitVec.ofInt k.bits x &&& BitVec.ofInt k.bits y).toNat
def bor (k:IntKind) (x y:Int):Int:=k.wrap (BitVec.ofInt k.bits x ||| BitVec.ofInt k.bits y).toNat
def bxor (k:IntKind) (x y:Int):Int:=k.wrap (BitVec.ofInt k.bits x ^^^ BitVec.ofInt k.bits y).toNat
def zji (k:IntKind) (x y:Int):Int:=k.wrap (BitVec.ofInt k.bits x &&& ~~~ BitVec.ofInt k.bits y).toNat
abbrev Env:=List (Nat×Value)
def zbb (n:Nat) (t:Array Value) (l:Env):Prop:=t.size=n/\∀ p∈l,t.getD p.1 undef=p.2
class Rnd where
 ro:Option Nat
 ds:List Deferred
 y:Bool
 esc:Act->World->Prop
instance rnd0:Rnd:=⟨none,[],false,λ_ _=>False⟩
abbrev Rnd.F [r:Rnd]:Fence:={ Fence.wide with round:=r.ro }
section
variable [Rnd]
def CW (P:Program) (c:Code) (Q:Exit->Act->World->Prop) (a:Act) (w:World):Prop :=
 match (Rnd.y:Bool) with
 | true=>c.wpIn Rnd.F 0 P Q a w
 | false=>c.wp P Q a w
section
variable {P:Program} {Q Q':Exit->Act->World->Prop} {a:Act} {w:World} {c x y:Code} {id:Nat}
theorem zIg (h:CW P c Q a w) (hq:∀ e a w,Q e a w->Q' e a w):CW P c Q' a w:=by
 unfold CW at h ⊢;split at h
 ·exact wpIn_mono h hq
 ·exact wp_mono h hq
theorem zLm (h:Q .normal a w):CW P .skip Q a w:=by
 unfold CW; split
 ·exact wpIn_skip h
 ·exact wp_skip h
theorem zMm (h:Q (.exit id) a w):CW P (.exit id) Q a w:=by
 unfold CW; split
 ·exact wpIn_exit h
 ·exact wp_exit h
theorem z9l (h:Q .ret a w):CW P .ret Q a w:=by
 unfold CW; split
 ·exact wpIn_ret h
 ·exact wp_ret h
theorem zrp (h:CW P x (Exit.then (CW P y Q) Q) a w):CW P (.seq x y) Q a w:=by
 unfold CW at h ⊢;split at h
 ·rename_i hy
  refine wpIn_seq ?_;simp only [hy] at h;exact h
 ·rename_i hy
  refine wp_seq ?_;simp only [hy] at h;exact h
theorem zLl (h:CW P c (Exit.inBlock id Q) a w):CW P (.block id c) Q a w:=by
 unfold CW at h ⊢;split at h
 ·exact wpIn_block h
 ·exact wp_block h
theorem zJg {o:Operand} {t:Bool} (hc:a.eval o= .bool t) (ht:t=true->CW P x Q a w) (hf:t=false->CW P y Q a w):CW P (.cond o x y) Q a w:=by
 unfold CW at ht hf ⊢;split
 ·rename_i hy
  simp only [hy] at ht hf;exact wpIn_cond_split hc ht hf
 ·rename_i hy
  simp only [hy] at ht hf;exact wp_cond_split hc ht hf
theorem zNm (I:Act->World->Prop) (μ:Act->World->Nat) (h₀:I a w)
    (round:∀ a w,I a w->CW P c (Exit.then (λa' w'=>I a' w'/\μ a' w'<μ a w) Q) a w):CW P (.loop c) Q a w:=by
 unfold CW at round ⊢;split
 ·rename_i hy
  simp only [hy] at round;exact wpIn_loop I μ h₀ round
 ·rename_i hy
  simp only [hy] at round;exact wp_loop I μ h₀ round
def OpsR (P:Program) (ops:Array Oper) (Q:Exit->Act->World->Prop) (l:List Nat) (a:Act) (w:World):Prop :=
 match (Rnd.y:Bool) with
 | true=>wpOpsIn Rnd.F 0 P ops Q l a w
 | false=>wpOps P ops Q l a w
theorem zqk {ops:Array Oper} (h:OpsR P ops Q (List.range ops.size) a w):CW P (.region id ops false) Q a w:=by
 unfold OpsR at h;unfold CW;split at h
 ·exact wpIn_region h
 ·exact wp_region h
end
def zO (n:Nat) (Q:Exit->Env->World->Prop):Exit->Act->World->Prop :=
 λe a w=>(a.defers=Rnd.ds/\∃ l,zbb n a.tmps l/\Q e l w)\/(e= .ret/\Rnd.esc a w)
def WpE (P:Program) (n:Nat) (c:Code) (Q:Exit->Env->World->Prop) (l:Env) (w:World):Prop :=
 ∀ t,zbb n t l->CW P c (zO n Q) ⟨t,Rnd.ds⟩ w
theorem zO.act {n:Nat} {Q:Exit->Env->World->Prop} {e:Exit} {a:Act} {w:World} (h:zO n Q e a w) :
    (∃ t l,a=⟨t,Rnd.ds⟩/\zbb n t l/\Q e l w)\/(e= .ret/\Rnd.esc a w):=by
 rcases h with ⟨hd,l,h1,h2⟩ | h
 ·obtain⟨t,d⟩:=a;simp only at hd;subst hd;exact .inl ⟨t,l,rfl,h1,h2⟩
 ·exact .inr h
theorem zO.mk {n:Nat} {Q:Exit->Env->World->Prop} {e:Exit} {t:Array Value} {w:World} {l:Env} (h:zbb n t l) (hq:Q e l w) :
    zO n Q e ⟨t,Rnd.ds⟩ w:= .inl ⟨rfl,l,h,hq⟩
def zAb:Env->Nat->Option Value
 | [],_=>none
 | (j,v)::r,i=>bif Nat.beq i j then some v else zAb r i
theorem ztc:∀ {l:Env} {i:Nat} {v:Value},zAb l i=some v->(i,v)∈l
 | (j,u)::_,i,v,h=>by
  unfold zAb at h;cases hb:Nat.beq i j with
  | true =>
   rw [hb] at h;have:i=j:=bH hb;subst this;simp only [cond_true,aC] at h;subst h;exact aI ..
  | false =>
   rw [hb] at h;simp only [cond_false] at h;exact aJ _ (ztc h)
def Sub (l l':Env):Prop:=l'.map (λp=>zAb l p.1)=l'.map (λp=>some p.2)
theorem Sub.mk {l l':Env} (h:l'.map (λp=>zAb l p.1)=l'.map (λp=>some p.2)):Sub l l':=h
theorem Sub.agrees {n:Nat} {t:Array Value} {l l':Env} (h:Sub l l') (ha:zbb n t l):zbb n t l':=by
 refine⟨ha.1,λp hp=> ?_⟩
 have:zAb l p.1=some p.2:=by
  have:=fR.1 h p hp;exact this
 exact ha.2 _ (ztc this)
theorem zrk {P:Program} {n:Nat} {c:Code} {Q:Exit->Env->World->Prop} {l l':Env} {w:World} (hs:Sub l l')
    (h:WpE P n c Q l' w):WpE P n c Q l w:=λt ha=>h t (hs.agrees ha)
theorem zhd {P:Program} {n:Nat} {c:Code} {Q Q':Exit->Env->World->Prop} {l:Env} {w:World} (hq:∀ e l w,Q e l w->Q' e l w)
    (h:WpE P n c Q l w):WpE P n c Q' l w:=λt ha =>
 zIg (h t ha) λ_ _ _ he=>he.elim (λ⟨h0,l,h1,h2⟩=> .inl ⟨h0,l,h1,hq _ _ _ h2⟩) .inr
def Code.l:Code->Code
 | .seq a _=>a | .block _ a=>a | .loop a=>a | .scope a=>a | .cond _ a _=>a | .rangeFunc _ _ a _=>a | _=> .skip
def Code.r:Code->Code
 | .seq _ b=>b | .cond _ _ b=>b | .rangeFunc _ _ _ b=>b | _=> .skip
def Code.ops:Code->Array Oper
 | .region _ o _=>o | _=>#[]
def seqQ (P:Program) (n:Nat) (y:Code) (Q:Exit->Env->World->Prop):Exit->Env->World->Prop
 | .normal,l,w=>WpE P n y Q l w
 | e,l,w=>Q e l w
theorem zki {P:Program} {n:Nat} {c x y:Code} {Q:Exit->Env->World->Prop} {l:Env} {w:World} (hc:c= .seq x y)
    (h:WpE P n x (seqQ P n y Q) l w):WpE P n c Q l w:=by
 subst hc;intro t ha;refine zrp (zIg (h t ha) λe a w' he=> ?_);rcases he.act with ⟨t',l',rfl,h1,h2⟩ | ⟨rfl,h1⟩
 ·cases e with
  | normal=>exact h2 t' h1
  | _=>exact zO.mk h1 h2
 ·exact .inr ⟨rfl,h1⟩
def cutQ (J:Env->World->Prop) (Q:Exit->Env->World->Prop):Exit->Env->World->Prop
 | .normal,l,w=>J l w
 | e,l,w=>Q e l w
theorem zli {P:Program} {n:Nat} {c x y:Code} {Q:Exit->Env->World->Prop} {l:Env} {w:World} (hc:c= .seq x y)
    (J:Env->World->Prop) (h:WpE P n x (cutQ (λl w=>∃ l',Sub l l'/\J l' w) Q) l w) (hy:∀ l w,J l w->WpE P n y Q l w):WpE P n c Q l w :=
 zki hc (zhd (λe l w hq=>by
  cases e with
  | normal=>obtain⟨l',hs,h'⟩:=hq; exact zrk hs (hy _ _ h')
  | _=>exact hq) h)
theorem zZi {P:Program} {n:Nat} {c:Code} {Q:Exit->Env->World->Prop} {l:Env} {w:World} (hc:c= .skip)
    (h:Q .normal l w):WpE P n c Q l w:=by
 subst hc; exact λt ha=>zLm (zO.mk ha h)
theorem zMl {P:Program} {n id:Nat} {c:Code} {Q:Exit->Env->World->Prop} {l:Env} {w:World} (hc:c= .exit id)
    (h:Q (.exit id) l w):WpE P n c Q l w:=by
 subst hc; exact λt ha=>zMm (zO.mk ha h)
theorem zsk {P:Program} {n:Nat} {c:Code} {Q:Exit->Env->World->Prop} {l:Env} {w:World} (hc:c= .ret)
    (h:Q .ret l w):WpE P n c Q l w:=by
 subst hc; exact λt ha=>z9l (zO.mk ha h)
def zZc (id:Nat) (Q:Exit->Env->World->Prop):Exit->Env->World->Prop
 | .exit id',l,w=>bif Nat.beq id' id then Q .normal l w else Q (.exit id') l w
 | e,l,w=>Q e l w
theorem ztk {P:Program} {n id:Nat} {c x:Code} {Q:Exit->Env->World->Prop} {l:Env} {w:World} (hc:c= .block id x)
    (h:WpE P n x (zZc id Q) l w):WpE P n c Q l w:=by
 subst hc;intro t ha;refine zLl (zIg (h t ha) λe a w' he=> ?_);rcases he.act with ⟨t',l',rfl,h1,h2⟩ | ⟨rfl,h1⟩
 ·cases e with
  | exit id' =>
   simp only [Exit.inBlock];simp only [zZc] at h2;by_cases hid:id'=id
   ·subst hid;rw [if_pos rfl];rw [show Nat.beq id' id'=true from by simp] at h2;exact zO.mk h1 h2
   ·rw [if_neg hid]
    rw [show Nat.beq id' id=false from by
     cases hb:Nat.beq id' id with
     | true=>exact absurd (bH hb) hid
     | false=>rfl] at h2
    exact zO.mk h1 h2
  | _=>exact zO.mk h1 h2
 ·exact .inr ⟨rfl,h1⟩
def zuj (l:Env):Operand->Option Value
 | .tmp s=>zAb l s
 | .const v=>some v
 | .global g=>some (.pointer (some ⟨g,0,none⟩))
 | .func f=>some (.func (.func f) #[] #[])
theorem zcg {n:Nat} {t:Array Value} {l:Env} {ds:List Deferred} (ha:zbb n t l) {x:Operand} {v:Value} (h:zuj l x=some v):Act.eval ⟨t,ds⟩ x=v:=by
 cases x with
 | tmp s=>exact ha.2 (s,v) (ztc h)
 | const u=>exact aE h
 | global g=>exact aE h
 | func f=>exact aE h
theorem zNl {P:Program} {n:Nat} {c x y:Code} {o:Operand} {b:Bool} {Q:Exit->Env->World->Prop} {l:Env} {w:World} (hc:c= .cond o x y)
    (hb:zuj l o=some (.bool b)) (ht:b=true->WpE P n x Q l w) (hf:b=false->WpE P n y Q l w):WpE P n c Q l w:=by
 subst hc;exact λt ha=>zJg (zcg ha hb) (λh=>ht h t ha) (λh=>hf h t ha)
def zuk (IE:Nat->Env->World->Prop) (m:Nat) (Q:Exit->Env->World->Prop):Exit->Env->World->Prop
 | .normal,l,w=>∃ m',m'<m/\∃ l',Sub l l'/\IE m' l' w
 | e,l,w=>Q e l w
theorem zOl {P:Program} {n:Nat} {c x:Code} {Q:Exit->Env->World->Prop} {l:Env} {w:World} (hc:c= .loop x)
    (IE:Nat->Env->World->Prop) {m:Nat} {l':Env} (hs:Sub l l') (h0:IE m l' w)
    (round:∀ m l w,IE m l w->WpE P n x (zuk IE m Q) l w):WpE P n c Q l w:=by
 subst hc;intro t ha;have ha':=hs.agrees ha
 have key:∀(a:Act) (w:World),(∃ m l,a.defers=Rnd.ds/\zbb n a.tmps l/\IE m l w)->∃ m,(∃ l,a.defers=Rnd.ds/\zbb n a.tmps l/\IE m l w)/\∀ k,k<m->¬ ∃ l,a.defers=Rnd.ds/\zbb n a.tmps l/\IE k l w:=by
  intro a w hex
  classical
  obtain⟨m,hm⟩:=hex
  induction m using Nat.strongRecOn with
  | _ m ih =>
   by_cases h:∃ k,k<m/\∃ l,a.defers=Rnd.ds/\zbb n a.tmps l/\IE k l w
   ·obtain⟨k,hk,hl⟩:=h; exact ih k hk hl
   ·exact⟨m,hm,λk hk hl=>h ⟨k,hk,hl⟩⟩
 classical
 let μ:Act->World->Nat:=λa w=>if h:∃ m l,a.defers=Rnd.ds/\zbb n a.tmps l/\IE m l w then Classical.choose (key a w h) else 0
 refine zNm (λa w=>∃ m l,a.defers=Rnd.ds/\zbb n a.tmps l/\IE m l w) μ ⟨m,l',rfl,ha',h0⟩ ?_;intro a w hI;have hspec:=Classical.choose_spec (key a w hI);have hμ:μ a w=Classical.choose (key a w hI):=dif_pos hI;rw [<-hμ] at hspec;obtain⟨⟨l1,hd1,hag1,hIE1⟩,_⟩:=hspec;obtain⟨t1,d1⟩:=a;simp only at hd1;subst hd1;refine zIg (round _ l1 w hIE1 t1 hag1) λe a' w' he=> ?_;rcases he.act with ⟨t',l2,rfl,h1,h2⟩ | ⟨rfl,h1⟩
 rotate_left
 ·exact .inr ⟨rfl,h1⟩
 cases e with
 | normal =>
  obtain⟨m',hm',l3,hs3,hI3⟩:=h2;have hex:∃ m l,(⟨t',Rnd.ds⟩:Act).defers=Rnd.ds/\zbb n (⟨t',Rnd.ds⟩:Act).tmps l/\IE m l w':=⟨m',l3,rfl,hs3.agrees h1,hI3⟩
  refine⟨hex,?_⟩;have hspec2:=Classical.choose_spec (key ⟨t',Rnd.ds⟩ w' hex);have hμ2:μ ⟨t',Rnd.ds⟩ w'=Classical.choose (key ⟨t',Rnd.ds⟩ w' hex):=dif_pos hex;rw [hμ2];refine dI ?_ hm';rcases dB m' (Classical.choose (key ⟨t',Rnd.ds⟩ w' hex)) with hlt | hge
  ·exact absurd ⟨l3,rfl,hs3.agrees h1,hI3⟩ (hspec2.2 m' hlt)
  ·exact hge
 | _=>exact zO.mk h1 h2
theorem z0i {P:Program} {n:Nat} {y:Code} {Q:Exit->Env->World->Prop} {l:Env} {w:World} (h:Q .ret l w):seqQ P n y Q .ret l w:=h
theorem zdg {id:Nat} {Q:Exit->Env->World->Prop} {l:Env} {w:World} (h:Q .ret l w):zZc id Q .ret l w:=h
theorem zth {IE:Nat->Env->World->Prop} {m:Nat} {Q:Exit->Env->World->Prop} {l:Env} {w:World} (h:Q .ret l w):zuk IE m Q .ret l w:=h
theorem z1i {J:Env->World->Prop} {Q:Exit->Env->World->Prop} {l:Env} {w:World} (h:Q .ret l w):cutQ J Q .ret l w:=h
theorem zvk {P:Program} {n:Nat} {y:Code} {Q:Exit->Env->World->Prop} {id:Nat} {l:Env} {w:World} (h:Q (.exit id) l w):seqQ P n y Q (.exit id) l w:=h
theorem zvj {IE:Nat->Env->World->Prop} {m:Nat} {Q:Exit->Env->World->Prop} {id:Nat} {l:Env} {w:World} (h:Q (.exit id) l w):zuk IE m Q (.exit id) l w:=h
theorem zwk {J:Env->World->Prop} {Q:Exit->Env->World->Prop} {id:Nat} {l:Env} {w:World} (h:Q (.exit id) l w):cutQ J Q (.exit id) l w:=h
theorem zeg {id:Nat} {Q:Exit->Env->World->Prop} {l:Env} {w:World} (h:Q .normal l w):zZc id Q (.exit id) l w:=by
 show bif Nat.beq id id then Q .normal l w else Q (.exit id) l w
 rw [show Nat.beq id id=true from by simp];exact h
theorem zuf {id id':Nat} {Q:Exit->Env->World->Prop} {l:Env} {w:World} (hn:Nat.beq id' id=false) (h:Q (.exit id') l w):zZc id Q (.exit id') l w:=by
 show bif Nat.beq id' id then Q .normal l w else Q (.exit id') l w
 rw [hn];exact h
def retQ (P:Program) (fn:Func) (R:Value->World->Prop):Exit->Env->World->Prop
 | .ret,l,w | .normal,l,w=>∀ t,(∃ n,zbb n t l)->∃ v,(results fn t).run P w= .ok v w/\R v w
 | _,_,_=>False
def z1d (args:List Value):Env:=args.zipIdx.map λp=>(p.2,p.1)
end
theorem zuh {P:Program} {f:FuncId} {fn:Func} {c:Code} {args:List Value} {w:World} {R:Value->World->Prop}
    (hf:P.funcs[f]? =some fn) (hb:fn.body=some c) (n:Nat) (hn:fn.ntmps=n) (hsz:Nat.ble args.length n=true) (l:Env) (hl:z1d args=l)
    (h:WpE P n c (retQ P fn R) l w):Calls P f args.toArray w (λe w'=>∃ v,e= .returned v/\R v w'):=by
 refine calls_of_wp hf hb ?_;have hsz':args.length<=n:=aM hsz
 have hag:zbb n (args.toArray++Array.replicate (fn.ntmps - args.toArray.size) undef) l:=by
  subst hl;refine⟨by simp; omega,λp hp=> ?_⟩;simp only [z1d,aQ] at hp;obtain⟨⟨v,i⟩,hm,rfl⟩:=hp;have hi:=gI.1 hm;simp only at hi ⊢;have hlt:i<args.length:=(cC.1 hi).1;rw [bA,Array.getElem?_append_left (by simpa using hlt)];simp [hi]
 refine wp_mono (h _ hag) λe a w' he=> ?_;rcases he with ⟨hd,l',h1,h2⟩ | ⟨_,h1⟩
 rotate_left
 ·exact h1.elim
 obtain⟨t',d'⟩:=a;have hd:d'=[]:=hd;subst hd;cases e with
 | normal=>obtain⟨v,hv,hR⟩:=h2 t' ⟨n,h1⟩; exact⟨rfl,v,hv,v,rfl,hR⟩
 | ret=>obtain⟨v,hv,hR⟩:=h2 t' ⟨n,h1⟩; exact⟨rfl,v,hv,v,rfl,hR⟩
 | exit id=>exact h2.elim
 | goto id=>exact h2.elim
 | panic ch=>exact h2.elim
 | outgrown=>exact h2.elim
section
variable [Rnd]
abbrev Gd:=List (Nat×Bool)
abbrev GEnv:=List (Nat×Gd×Value)
def zU:GEnv->Nat->Option (Gd×Value)
 | [],_=>none
 | (j,x)::r,i=>bif Nat.beq i j then some x else zU r i
def Holds (t:Array Value) (φ:Gd):Prop:=∀ p∈φ,t.getD p.1 undef= .bool p.2
structure Inv (n:Nat) (t:Array Value) (ge:GEnv):Prop where
 size:t.size=n
 ok:∀ s φ v,zU ge s=some (φ,v)->(Holds t φ->t.getD s undef=v)/\(¬ Holds t φ->t.getD s undef=undef)
def RegG (P:Program) (n:Nat) (ops:Array Oper) (Q:Exit->Act->World->Prop) (i:Nat) (ge:GEnv) (w:World):Prop :=
 ∀ t,Inv n t ge->OpsR P ops Q (List.range' i (ops.size - i)) ⟨t,Rnd.ds⟩ w
def toG (l:Env):GEnv:=l.map λp=>(p.1,[],p.2)
theorem zxk {l:Env} {s:Nat} {φ:Gd} {v:Value}:zU (toG l) s=some (φ,v)->φ=[]/\zAb l s=some v:=by
 induction l with
 | nil=>intro h; cases h
 | cons p l ih =>
  intro h;simp only [toG,cG,zU] at h;unfold zAb;cases hb:Nat.beq s p.1 with
  | true =>
   rw [hb] at h;simp only [cond_true,aC,bI] at h;exact⟨h.1.symm,by rw [<-h.2]; rfl⟩
  | false =>
   rw [hb] at h;exact ih h
theorem zbb.inv {n:Nat} {t:Array Value} {l:Env} (ha:zbb n t l):Inv n t (toG l):=by
 refine⟨ha.1,λs φ v h=> ?_⟩;obtain⟨rfl,h2⟩:=zxk h;have:=ha.2 (s,v) (ztc h2);exact⟨λ_=>this,λhn=>absurd (λp hp=>by cases hp) hn⟩
theorem zfg {P:Program} {n id:Nat} {c:Code} {ops:Array Oper} {Q:Exit->Env->World->Prop} {l:Env} {w:World} (hc:c= .region id ops false)
    (h:RegG P n ops (zO n Q) 0 (toG l) w):WpE P n c Q l w:=by
 subst hc;intro t ha;refine zqk ?_;have:=h t ha.inv
 rwa [List.range_eq_range']
theorem zyk {P:Program} {n i:Nat} {ops:Array Oper} {Q:Exit->Env->World->Prop} {ge:GEnv} {w:World} (l:Env) (hi:ops.size=i)
    (hl:l.map (λp=>zU ge p.1)=l.map (λp=>some ([],p.2))) (h:Q .normal l w):RegG P n ops (zO n Q) i ge w:=by
 intro t hinv;subst hi;rw [cY]
 have:zO n Q .normal ⟨t,Rnd.ds⟩ w:=zO.mk ⟨hinv.size,λp hp=>by
  have:=fR.1 hl p hp;exact(hinv.ok _ _ _ this).1 (λp hp=>by cases hp)⟩ h
 unfold OpsR;split <;> exact this
def z2d (P:Program) {α:Type}:Sem α->Option α
 | .pure a=>some a
 | .program k=>z2d P (k P)
 | .mark _ k=>z2d P k
 | _=>none
theorem zvh {P:Program} {α:Type} (s:Sem α) {a:α} (h:z2d P s=some a) (w:World):s.run P w= .ok a w:=by
 induction s with
 | pure b=>simp only [z2d,aC] at h; subst h; rfl
 | program k ih=>exact ih P h
 | mark m k ih=>exact ih h
 | _=>cases h
def zPe (ge:GEnv) (φ:Gd):Operand->Bool
 | .tmp s=>match zU ge s with
  | some (ψ,_)=>ψ.all λp=>φ.any λq=>Nat.beq p.1 q.1&&(p.2==q.2)
  | none=>false
 | _=>true
def rho (ge:GEnv):Operand->Value
 | .tmp s=>match zU ge s with
  | some (_,v)=>v
  | none=>undef
 | .const v=>v
 | .global g=> .pointer (some ⟨g,0,none⟩)
 | .func f=> .func (.func f) #[] #[]
theorem zIb {n:Nat} {t:Array Value} {ge:GEnv} {φ:Gd} (hinv:Inv n t ge) (hφ:Holds t φ) {x:Operand} (h:zPe ge φ x=true) :
    Act.eval ⟨t,Rnd.ds⟩ x=rho ge x:=by
 cases x with
 | tmp s =>
  simp only [zPe] at h;simp only [rho,Act.eval];cases hg:zU ge s with
  | none=>rw [hg] at h; cases h
  | some pv =>
   obtain⟨ψ,v⟩:=pv;rw [hg] at h;refine(hinv.ok s ψ v hg).1 λp hp=> ?_;have:=bP.1 h p hp;obtain⟨q,hq,he⟩:=dU.1 this;simp only [aD,beq_iff_eq] at he;have h1:p.1=q.1:=bH he.1;have h2:=he.2;have:=hφ q hq;rw [h1,h2]; exact this
 | const u=>rfl
 | global g=>rfl
 | func f=>rfl
def zuc:Op->Bool
 | .select .. =>false
 | .defer .. =>false
 | _=>true
theorem zZf {o:Oper} (h:zuc o.op=true):∀ cs b,o.op≠ .select cs b:=by
 intro cs b he;rw [he] at h;cases h
theorem z0c {o:Oper} (h:zuc o.op=true):∀ c,o.op≠ .defer c:=by
 intro cs he;rw [he] at h;cases h
theorem zmi {P:Program} {o:Oper} {ρ:Operand->Value} {w w':World} {v:Value} (h:(execOp ρ o).run P w= .ok (.value v) w'):∀ c,o.op≠ .defer c:=by
 intro c he;unfold execOp at h;rw [he] at h;simp only [Sem.run_bind] at h;cases hr:(resolve ρ c o.type).run P w with
 | ok d w1=>rw [hr] at h; simp [Result.andThen,Sem.run_pure] at h
 | halt x w1=>rw [hr] at h; simp [Result.andThen] at h
def zgg (ge:GEnv) (d:Nat):Bool:=ge.all λe=>e.2.1.all λp=> !Nat.beq p.1 d
theorem zni {ge:GEnv} {d:Nat} (h:zgg ge d=true) {s:Nat} {φ:Gd} {v:Value} (hg:zU ge s=some (φ,v)):∀ p∈φ,p.1≠d:=by
 induction ge with
 | nil=>cases hg
 | cons e ge ih =>
  simp only [zgg,fM,aD] at h;obtain⟨j,x⟩:=e;simp only [zU] at hg;cases hb:Nat.beq s j with
  | true =>
   rw [hb] at hg;simp only [cond_true,aC] at hg;intro p hp hpd;have h1:=h.1;simp only [hg] at h1;have:=bP.1 h1 p hp;subst hpd;simp at this
  | false =>
   rw [hb] at hg;exact ih h.2 hg
theorem Holds.put {t:Array Value} {φ:Gd} {d:Nat} {v:Value} (hd:∀ p∈φ,p.1≠d):Holds (t.setIfInBounds d v) φ↔Holds t φ:=by
 have:∀ p∈φ,(t.setIfInBounds d v).getD p.1 undef=t.getD p.1 undef:=λp hp=>by
  rw [bA,bA,cP (λh=>hd p hp h.symm)]
 exact⟨λh p hp=>(this p hp) ▸ h p hp,λh p hp=>(this p hp).trans (h p hp)⟩
theorem Inv.put {n:Nat} {t:Array Value} {ge:GEnv} {d:Nat} {φ:Gd} {v u:Value} (hinv:Inv n t ge) (hd:Nat.blt d n=true) (hf:zgg ge d=true)
    (hφd:∀ p∈φ,p.1≠d) (h1:Holds t φ->u=v) (h2:¬ Holds t φ->u=undef):Inv n (t.setIfInBounds d u) ((d,φ,v)::ge):=by
 have hlt:d<t.size:=by rw [hinv.size]; simpa [fY] using hd
 refine⟨by simpa using hinv.size,λs ψ x hg=> ?_⟩;simp only [zU] at hg;cases hb:Nat.beq s d with
 | true =>
  rw [hb] at hg;have:s=d:=bH hb;subst this;simp only [cond_true,aC,bI] at hg;obtain⟨rfl,rfl⟩:=hg
  have e:(t.setIfInBounds s u).getD s undef=u:=by
   rw [bA,bS hlt]; rfl
  rw [e,Holds.put hφd];exact⟨h1,h2⟩
 | false =>
  rw [hb] at hg;simp only [cond_false] at hg;have hne:s≠d:=λh=>by rw [h] at hb; simp at hb
  have e:(t.setIfInBounds d u).getD s undef=t.getD s undef:=by
   rw [bA,bA,cP (λh=>hne h.symm)]
  rw [e,Holds.put (zni hf hg)];exact hinv.ok _ _ _ hg
def zwj (a b:Operand) (va vb:Value):Value->Option Value
 | .bool x=>match a,b with
  | .const (.bool true),_=>match vb with
   | .bool y=>some (.bool (x||y))
   | _=>none
  | _,.const (.bool false)=>match va with
   | .bool y=>some (.bool (x&&y))
   | _=>none
  | _,_=>none
 | _=>none
def ogd (ops:Array Oper) (ge:GEnv) (o:Oper):Option Gd :=
 match o.guard with
 | none=>some []
 | some (j,want)=>match (ops[j]?).bind (·.dst) with
  | none=>none
  | some s=>match zU ge s with
   | none=>none
   | some (ψ,_)=>some ((s,want)::ψ)
def isB (want:Bool):Value->Bool
 | .bool c=>c==want
 | _=>false
def isNo (want:Bool):Value->Bool
 | .bool c=>c== !want
 | .tuple _=>true
 | _=>false
def zoi (ops:Array Oper) (ge:GEnv) (o:Oper) (yes:Bool):Bool :=
 match o.guard with
 | none=>yes
 | some (j,want)=>match (ops[j]?).bind (·.dst) with
  | none=>false
  | some s=>match zU ge s with
   | some ([],v)=>bif yes then isB want v else isNo want v
   | some _=>false
   | none=>false
def ogd2 (ops:Array Oper) (ge:GEnv) (o:Oper):Option Gd:=bif zoi ops ge o true then some [] else none
def zme (P:Program) (ge:GEnv) (o:Oper):Option Value :=
 match z2d P (execOp (rho ge) o) with
 | some (.value v)=>some v
 | _=>none
inductive Mode where
 | plain | pick | sure | skip | spick
def zpi (P:Program) (n:Nat) (ops:Array Oper) (m:Mode) (i:Nat) (ge:GEnv):Option GEnv :=
 match ops[i]? with
 | none=>none
 | some o=>match o.dst with
  | none=>none
  | some d=>bif Nat.blt d n&&zgg ge d then
      match m with
      | .skip=>bif zoi ops ge o false then some ((d,[],undef)::ge) else none
      | .sure=>bif zoi ops ge o true&&zuc o.op&&o.op.operands.toList.all (zPe ge []) then
          match zme P ge o with
          | some v=>some ((d,[],v)::ge)
          | none=>none
       else none
      | .plain=>match ogd ops ge o with
       | none=>none
       | some φ=>bif φ.all (λp=> !Nat.beq p.1 d)&&zuc o.op&&o.op.operands.toList.all (zPe ge φ) then
           match zme P ge o with
           | some v=>some ((d,φ,v)::ge)
           | none=>none
        else none
      | .pick=>match o.op with
       | .pick (.tmp s) a b=>match ogd ops ge o with
        | none=>none
        | some φ=>bif φ.all (λp=> !Nat.beq p.1 d)&&zPe ge φ (.tmp s)&&zPe ge ((s,true)::φ) a&&zPe ge ((s,false)::φ) b then
            match zwj a b (rho ge a) (rho ge b) (rho ge (.tmp s)) with
            | some v=>some ((d,φ,v)::ge)
            | none=>none
         else none
       | _=>none
      | .spick=>match o.op with
       | .pick (.tmp s) a b=>match ogd2 ops ge o with
        | none=>none
        | some φ=>bif φ.all (λp=> !Nat.beq p.1 d)&&zPe ge φ (.tmp s)&&zPe ge ((s,true)::φ) a&&zPe ge ((s,false)::φ) b then
            match zwj a b (rho ge a) (rho ge b) (rho ge (.tmp s)) with
            | some v=>some ((d,φ,v)::ge)
            | none=>none
         else none
       | _=>none
   else none
def zfb (P:Program) (n:Nat) (ops:Array Oper):List Mode->Nat->GEnv->Option GEnv
 | [],_,ge=>some ge
 | m::ms,i,ge=>match zpi P n ops m i ge with
  | some ge'=>zfb P n ops ms (i+1) ge'
  | none=>none
theorem zcb {ops:Array Oper} {t:Array Value} {j s:Nat} (hs:(ops[j]?).bind (·.dst)=some s) (b:Bool) :
    yielded ops t j=some b↔t.getD s undef= .bool b:=by
 unfold yielded;rw [hs];simp only [fF,bA];cases h:t[s]? with
 | none=>simp [undef]
 | some v=>cases v <;> simp [undef]
theorem zhg {n:Nat} {ops:Array Oper} {t:Array Value} {ge:GEnv} (hinv:Inv n t ge) {o:Oper} {φ:Gd} (h:ogd ops ge o=some φ) :
    (Region.wanted o (yielded ops t)=true↔Holds t φ):=by
 unfold ogd at h;unfold Region.wanted;cases hg:o.guard with
 | none=>rw [hg] at h; simp only [aC] at h; subst h; simp [Holds]
 | some jw =>
  obtain⟨j,want⟩:=jw;rw [hg] at h;simp only at h ⊢;cases hs:(ops[j]?).bind (·.dst) with
  | none=>rw [hs] at h; cases h
  | some s =>
   rw [hs] at h;simp only at h;cases hf:zU ge s with
   | none=>rw [hf] at h; cases h
   | some pv =>
    obtain⟨ψ,v⟩:=pv;rw [hf] at h;simp only [aC] at h;subst h;rw [beq_iff_eq,zcb hs];constructor
    ·intro hb p hp;rcases aU.1 hp with rfl | hp
     ·exact hb
     ·by_cases hh:Holds t ψ
      ·exact hh p hp
      ·have:=(hinv.ok s ψ v hf).2 hh;rw [this] at hb;cases hb
    ·intro hh;exact hh (s,want) (aI ..)
theorem zX {n:Nat} {ops:Array Oper} {t:Array Value} {ge:GEnv} (hinv:Inv n t ge) {o:Oper} {yes:Bool} (h:zoi ops ge o yes=true) :
    Region.wanted o (yielded ops t)=yes:=by
 unfold zoi at h;unfold Region.wanted;cases hg:o.guard with
 | none=>rw [hg] at h; simp only at h ⊢; exact h.symm
 | some jw =>
  obtain⟨j,want⟩:=jw;rw [hg] at h;simp only at h ⊢;cases hs:(ops[j]?).bind (·.dst) with
  | none=>rw [hs] at h; cases h
  | some s =>
   rw [hs] at h;simp only at h;cases hf:zU ge s with
   | none=>rw [hf] at h; cases h
   | some pv =>
    obtain⟨ψ,v⟩:=pv;rw [hf] at h;cases ψ with
    | cons a b=>simp only at h; cases h
    | nil =>
     simp only at h;have hv:=(hinv.ok s [] v hf).1 (λp hp=>by cases hp);cases yes with
     | true =>
      simp only [cond_true] at h;cases v <;> simp only [isB] at h <;> try (cases h; done)
      rename_i c
      have hc:=beq_iff_eq.1 h;subst hc;have hy:=(zcb hs _).2 hv;rw [hy];simp
     | false =>
      simp only [cond_false] at h;cases v <;> simp only [isNo] at h <;> try (cases h; done)
      ·rename_i c
       have hc:=beq_iff_eq.1 h;subst hc;have hy:=(zcb hs _).2 hv;rw [hy];cases want <;> rfl
      ·rename_i vs
       have hy:yielded ops t j≠some want:=λhy=>by
        have:=(zcb hs _).1 hy;rw [hv] at this;cases this
       simpa using hy
theorem zqi {n:Nat} {ops:Array Oper} {t:Array Value} {ge:GEnv} (hinv:Inv n t ge) {o:Oper} {φ:Gd} (h:ogd2 ops ge o=some φ) :
    (Region.wanted o (yielded ops t)=true↔Holds t φ):=by
 unfold ogd2 at h;cases hg:zoi ops ge o true with
 | true =>
  rw [hg] at h;simp only [cond_true,aC] at h;subst h;exact⟨λ_ p hp=>(by cases hp),λ_=>zX hinv hg⟩
 | false=>rw [hg] at h; cases h
theorem zFc {i k:Nat} (h:i<k):List.range' i (k - i)=i::List.range' (i+1) (k - (i+1)):=by
 have:k - i=(k - (i+1))+1:=O_;rw [this,List.range'_succ]
theorem getElem?_lt {ops:Array Oper} {i:Nat} {o:Oper} (h:ops[i]? =some o):i<ops.size:=by
 rcases dB i ops.size with h' | h'
 ·exact h'
 ·rw [dQ h'] at h; cases h
theorem zri {P:Program} {ops:Array Oper} {Q:Exit->Act->World->Prop} {i d:Nat} {o:Oper} {t:Array Value} {w w':World} {v:Value} (ho:ops[i]? =some o)
    (hd:o.dst=some d) (hw:Region.wanted o (yielded ops t)=true) (hr:(execOp (Act.eval ⟨t,Rnd.ds⟩) o).run P w= .ok (.value v) w')
    (h:OpsR P ops Q (List.range' (i+1) (ops.size - (i+1))) ⟨t.setIfInBounds d v,Rnd.ds⟩ w'):OpsR P ops Q (List.range' i (ops.size - i)) ⟨t,Rnd.ds⟩ w:=by
 rw [zFc (getElem?_lt ho)];unfold OpsR at h ⊢;split at h
 ·simp only [wpOpsIn,ho];rw [if_pos hw];refine⟨λ_ _=>trivial,?_⟩;rw [Oper.semAt_eq _ _ _ (zmi hr),hr];show wpOpsIn _ 0 P ops Q _ (Act.put ⟨t,Rnd.ds⟩ o.dst v) w';rw [hd];exact h
 ·simp only [wpOps,ho];rw [if_pos hw];refine .inl ?_;unfold Oper.wp;rw [hr];show wpOps P ops Q _ (Act.put ⟨t,Rnd.ds⟩ o.dst v) w';rw [hd];exact h
theorem zKg {P:Program} {ops:Array Oper} {Q:Exit->Act->World->Prop} {i d:Nat} {o:Oper} {t:Array Value} {w:World} (ho:ops[i]? =some o)
    (hd:o.dst=some d) (hw:Region.wanted o (yielded ops t)=false)
    (h:OpsR P ops Q (List.range' (i+1) (ops.size - (i+1))) ⟨t.setIfInBounds d undef,Rnd.ds⟩ w):OpsR P ops Q (List.range' i (ops.size - i)) ⟨t,Rnd.ds⟩ w:=by
 rw [zFc (getElem?_lt ho)];unfold OpsR at h ⊢;split at h
 ·simp only [wpOpsIn,ho];rw [hw,if_neg D_];refine⟨λ_ _=>trivial,?_⟩;show wpOpsIn _ 0 P ops Q _ (Act.put ⟨t,Rnd.ds⟩ o.dst undef) w;rw [hd];exact h
 ·simp only [wpOps,ho];rw [hw,if_neg D_];show wpOps P ops Q _ (Act.put ⟨t,Rnd.ds⟩ o.dst undef) w;rw [hd];exact h
theorem zvf {P:Program} {ge:GEnv} {o:Oper} {v:Value} (h:zme P ge o=some v) (w:World):(execOp (rho ge) o).run P w= .ok (.value v) w:=by
 unfold zme at h;split at h
 ·rename_i u hu
  simp only [aC] at h;subst h;exact zvh _ hu w
 ·cases h
theorem zbc {n:Nat} {t:Array Value} {ge:GEnv} {φ:Gd} (hinv:Inv n t ge) (hφ:Holds t φ) {o:Oper} (hsel:zuc o.op=true)
    (hav:o.op.operands.toList.all (zPe ge φ)=true):execOp (Act.eval ⟨t,Rnd.ds⟩) o=execOp (rho ge) o :=
 execOp_congr o (zZf hsel) λx hx=>zIb hinv hφ (bP.1 hav x (by simpa using hx))
theorem ztb {c:Bool} {α:Type} {x:Option α} {y:α} (h:(bif c then x else none)=some y):c=true/\x=some y:=by
 cases c
 ·cases h
 ·exact⟨rfl,h⟩
structure zLg (P:Program) (ops:Array Oper) (i:Nat) (X X':Array Value->Prop) (D:Nat->Prop):Prop where
 value:∀ {d:Nat} {o:Oper} {t:Array Value} {v:Value},ops[i]? =some o->o.dst=some d->D d->Region.wanted o (yielded ops t)=true ->
  (∀ w,(execOp (Act.eval ⟨t,Rnd.ds⟩) o).run P w= .ok (.value v) w)->X' (t.setIfInBounds d v)->X t
 skip:∀ {d:Nat} {o:Oper} {t:Array Value},ops[i]? =some o->o.dst=some d->D d->Region.wanted o (yielded ops t)=false ->
  X' (t.setIfInBounds d undef)->X t
structure zne (P:Program) (ops:Array Oper) (X:Nat->Array Value->Prop):Prop where
 value:∀ {i d:Nat} {o:Oper} {t:Array Value} {v:Value},ops[i]? =some o->o.dst=some d->Region.wanted o (yielded ops t)=true ->
  (∀ w,(execOp (Act.eval ⟨t,Rnd.ds⟩) o).run P w= .ok (.value v) w)->X (i+1) (t.setIfInBounds d v)->X i t
 skip:∀ {i d:Nat} {o:Oper} {t:Array Value},ops[i]? =some o->o.dst=some d->Region.wanted o (yielded ops t)=false ->
  X (i+1) (t.setIfInBounds d undef)->X i t
theorem zne.at {P:Program} {ops:Array Oper} {X:Nat->Array Value->Prop} (h:zne P ops X) (i:Nat) (D:Nat->Prop):zLg P ops i (X i) (X (i+1)) D :=
 ⟨λho hd _ hw hr hx=>h.value ho hd hw hr hx,λho hd _ hw hx=>h.skip ho hd hw hx⟩
theorem lawG {P:Program} {ops:Array Oper} {Q:Exit->Act->World->Prop} {w:World} :
    zne P ops (λi t=>OpsR P ops Q (List.range' i (ops.size - i)) ⟨t,Rnd.ds⟩ w) :=
 ⟨λho hd hw hr h=>zri ho hd hw (hr w) h,λho hd hw h=>zKg ho hd hw h⟩
def RegX (X:Nat->Array Value->Prop) (n i:Nat) (ge:GEnv):Prop:=∀ t,Inv n t ge->X i t
theorem zBe {P:Program} {n:Nat} {ops:Array Oper} {i:Nat} {X X':Array Value->Prop} (law:zLg P ops i X X' (λd=>d<n)) {m:Mode} {ge ge':GEnv}
    (h:zpi P n ops m i ge=some ge') (hn:∀ t,Inv n t ge'->X' t):∀ t,Inv n t ge->X t:=by
 intro t hinv;unfold zpi at h;cases ho:ops[i]? with
 | none=>rw [ho] at h; cases h
 | some o =>
  rw [ho] at h;simp only at h;cases hd:o.dst with
  | none=>rw [hd] at h; cases h
  | some d =>
   rw [hd] at h;simp only at h;obtain⟨hc,h⟩:=ztb h;simp only [aD] at hc;obtain⟨hdn,hfree⟩:=hc;have hdl:d<n:=by simpa [fY] using hdn
   cases m with
   | skip =>
    simp only at h;obtain⟨hs,h⟩:=ztb h;simp only [aC] at h;subst h;exact law.skip ho hd hdl (zX hinv hs) (hn _ (hinv.put hdn hfree (λp hp=>by cases hp) (λ_=>rfl) (λhh=>absurd (λp hp=>by cases hp) hh)))
   | sure =>
    simp only at h;obtain⟨hs,h⟩:=ztb h;simp only [aD] at hs;cases hp:zme P ge o with
    | none=>rw [hp] at h; cases h
    | some v =>
     rw [hp] at h;simp only [aC] at h;subst h;have hH:Holds t []:=λp hp=>by cases hp
     refine law.value (v:=v) ho hd hdl (zX hinv hs.1.1) (λw=> ?_) (hn _ (hinv.put (v:=v) (u:=v) hdn hfree (λp hp=>by cases hp) (λ_=>rfl) (λhh=>absurd hH hh)));rw [zbc hinv hH hs.1.2 hs.2];exact zvf hp w
   | plain =>
    simp only at h;cases hφ:ogd ops ge o with
    | none=>rw [hφ] at h; cases h
    | some φ =>
     rw [hφ] at h;simp only at h;obtain⟨hs,h⟩:=ztb h;simp only [aD] at hs;cases hp:zme P ge o with
     | none=>rw [hp] at h; cases h
     | some v =>
      rw [hp] at h;simp only [aC] at h;subst h
      have hφd:∀ p∈φ,p.1≠d:=λp hp hpd=>by
       have:=bP.1 hs.1.1 p hp;subst hpd;simp at this
      have hw:=zhg (ops:=ops) hinv hφ;by_cases hH:Holds t φ
      ·refine law.value (v:=v) ho hd hdl (hw.2 hH) (λw=> ?_) (hn _ (hinv.put (v:=v) (u:=v) hdn hfree hφd (λ_=>rfl) (λhh=>absurd hH hh)));rw [zbc hinv hH hs.1.2 hs.2];exact zvf hp w
      ·have hw':Region.wanted o (yielded ops t)=false:=by
         cases hb:Region.wanted o (yielded ops t) with
         | true=>exact absurd (hw.1 hb) hH
         | false=>rfl
       exact law.skip ho hd hdl hw' (hn _ (hinv.put hdn hfree hφd (λhh=>absurd hh hH) (λ_=>rfl)))
   | pick =>
    simp only at h;split at h
    ·rename_i s a b hop
     cases hφ:ogd ops ge o with
     | none=>rw [hφ] at h; cases h
     | some φ =>
      rw [hφ] at h;simp only at h;obtain⟨hs,h⟩:=ztb h;simp only [aD] at hs;cases hp:zwj a b (rho ge a) (rho ge b) (rho ge (.tmp s)) with
      | none=>rw [hp] at h; cases h
      | some v =>
       rw [hp] at h;simp only [aC] at h;subst h
       have hφd:∀ p∈φ,p.1≠d:=λp hp hpd=>by
        have:=bP.1 hs.1.1.1 p hp;subst hpd;simp at this
       have hw:=zhg (ops:=ops) hinv hφ;by_cases hH:Holds t φ
       ·refine law.value ho hd hdl (hw.2 hH) (v:=v) (λw=> ?_) (hn _ (hinv.put (v:=v) (u:=v) hdn hfree hφd (λ_=>rfl) (λhh=>absurd hH hh)));have hcv:=zIb hinv hH hs.1.1.2
        have hexec:execOp (Act.eval ⟨t,Rnd.ds⟩) o=(do pure (.value (if <-asBool (Act.eval ⟨t,Rnd.ds⟩ (.tmp s)) then Act.eval ⟨t,Rnd.ds⟩ a else Act.eval ⟨t,Rnd.ds⟩ b)):Sem Next):=by
         unfold execOp; rw [hop]
        rw [hexec,hcv];generalize hx:rho ge (.tmp s)=vc at hp hcv;cases vc <;> simp only [zwj] at hp <;> try (cases hp; done)
        rename_i x
        have hev:Act.eval ⟨t,Rnd.ds⟩ (.tmp s)= .bool x:=hcv
        have hHs:Holds t ((s,x)::φ):=λp hp=>by
         rcases aU.1 hp with rfl | hp
         ·exact hev
         ·exact hH p hp
        have hA:x=true->Act.eval ⟨t,Rnd.ds⟩ a=rho ge a:=λhxt=>by subst hxt; exact zIb hinv hHs hs.1.2
        have hB:x=false->Act.eval ⟨t,Rnd.ds⟩ b=rho ge b:=λhxt=>by subst hxt; exact zIb hinv hHs hs.2
        have goal:(if x then Act.eval ⟨t,Rnd.ds⟩ a else Act.eval ⟨t,Rnd.ds⟩ b)=v:=by
         split at hp
         ·rename_i a' b'
          cases hvb:rho ge b with
          | bool y =>
           rw [hvb] at hp;simp only [aC] at hp;subst hp;cases x with
           | true=>rfl
           | false=>simp only [bW,if_false,gD]; rw [hB rfl,hvb]
          | _=>rw [hvb] at hp; cases hp
         ·cases hva:rho ge a with
          | bool y =>
           rw [hva] at hp;simp only [aC] at hp;subst hp;cases x with
           | true=>simp only [if_true,dS]; rw [hA rfl,hva]
           | false=>rfl
          | _=>rw [hva] at hp; cases hp
         ·cases hp
        rw [<-goal];rfl
       ·have hw':Region.wanted o (yielded ops t)=false:=by
          cases hb:Region.wanted o (yielded ops t) with
          | true=>exact absurd (hw.1 hb) hH
          | false=>rfl
        exact law.skip ho hd hdl hw' (hn _ (hinv.put hdn hfree hφd (λhh=>absurd hh hH) (λ_=>rfl)))
    ·cases h
   | spick =>
    simp only at h;split at h
    ·rename_i s a b hop
     cases hφ:ogd2 ops ge o with
     | none=>rw [hφ] at h; cases h
     | some φ =>
      rw [hφ] at h;simp only at h;obtain⟨hs,h⟩:=ztb h;simp only [aD] at hs;cases hp:zwj a b (rho ge a) (rho ge b) (rho ge (.tmp s)) with
      | none=>rw [hp] at h; cases h
      | some v =>
       rw [hp] at h;simp only [aC] at h;subst h
       have hφd:∀ p∈φ,p.1≠d:=λp hp hpd=>by
        have:=bP.1 hs.1.1.1 p hp;subst hpd;simp at this
       have hw:=zqi (ops:=ops) hinv hφ;by_cases hH:Holds t φ
       ·refine law.value ho hd hdl (hw.2 hH) (v:=v) (λw=> ?_) (hn _ (hinv.put (v:=v) (u:=v) hdn hfree hφd (λ_=>rfl) (λhh=>absurd hH hh)));have hcv:=zIb hinv hH hs.1.1.2
        have hexec:execOp (Act.eval ⟨t,Rnd.ds⟩) o=(do pure (.value (if <-asBool (Act.eval ⟨t,Rnd.ds⟩ (.tmp s)) then Act.eval ⟨t,Rnd.ds⟩ a else Act.eval ⟨t,Rnd.ds⟩ b)):Sem Next):=by
         unfold execOp; rw [hop]
        rw [hexec,hcv];generalize hx:rho ge (.tmp s)=vc at hp hcv;cases vc <;> simp only [zwj] at hp <;> try (cases hp; done)
        rename_i x
        have hev:Act.eval ⟨t,Rnd.ds⟩ (.tmp s)= .bool x:=hcv
        have hHs:Holds t ((s,x)::φ):=λp hp=>by
         rcases aU.1 hp with rfl | hp
         ·exact hev
         ·exact hH p hp
        have hA:x=true->Act.eval ⟨t,Rnd.ds⟩ a=rho ge a:=λhxt=>by subst hxt; exact zIb hinv hHs hs.1.2
        have hB:x=false->Act.eval ⟨t,Rnd.ds⟩ b=rho ge b:=λhxt=>by subst hxt; exact zIb hinv hHs hs.2
        have goal:(if x then Act.eval ⟨t,Rnd.ds⟩ a else Act.eval ⟨t,Rnd.ds⟩ b)=v:=by
         split at hp
         ·rename_i a' b'
          cases hvb:rho ge b with
          | bool y =>
           rw [hvb] at hp;simp only [aC] at hp;subst hp;cases x with
           | true=>rfl
           | false=>simp only [bW,if_false,gD]; rw [hB rfl,hvb]
          | _=>rw [hvb] at hp; cases hp
         ·cases hva:rho ge a with
          | bool y =>
           rw [hva] at hp;simp only [aC] at hp;subst hp;cases x with
           | true=>simp only [if_true,dS]; rw [hA rfl,hva]
           | false=>rfl
          | _=>rw [hva] at hp; cases hp
         ·cases hp
        rw [<-goal];rfl
       ·have hw':Region.wanted o (yielded ops t)=false:=by
          cases hb:Region.wanted o (yielded ops t) with
          | true=>exact absurd (hw.1 hb) hH
          | false=>rfl
        exact law.skip ho hd hdl hw' (hn _ (hinv.put hdn hfree hφd (λhh=>absurd hh hH) (λ_=>rfl)))
    ·cases h
theorem zsi {P:Program} {n:Nat} {ops:Array Oper} {X:Nat->Array Value->Prop} (law:zne P ops X) {m:Mode} {i:Nat} {ge ge':GEnv}
    (h:zpi P n ops m i ge=some ge') (hn:RegX X n (i+1) ge'):RegX X n i ge:=zBe (law.at i _) h hn
theorem z1c {P:Program} {n:Nat} {ops:Array Oper} {X:Nat->Array Value->Prop} (law:zne P ops X):∀(ms:List Mode) (i:Nat) (ge ge':GEnv),
    zfb P n ops ms i ge=some ge'->RegX X n (i+ms.length) ge'->RegX X n i ge
 | [],i,ge,ge',h,hn=>by simp only [zfb,aC] at h; subst h; exact hn
 | m::ms,i,ge,ge',h,hn=>by
  simp only [zfb] at h;cases h1:zpi P n ops m i ge with
  | none=>rw [h1] at h; cases h
  | some g1 =>
   rw [h1] at h;exact zsi law h1 (z1c law ms (i+1) g1 ge' h (by rw [aV] at hn; rwa [eY,gM 1]))
def zMg (s:Nat) (c:Bool) (j:Nat) (x:Gd×Value):Gd×Value :=
 bif Nat.beq j s then([],.bool c)
 else bif x.1.any (λp=>Nat.beq p.1 s&&(p.2 != c)) then([],undef)
 else(x.1.filter (λp=> !Nat.beq p.1 s),x.2)
def resolve (s:Nat) (c:Bool) (ge:GEnv):GEnv:=ge.map λe=>(e.1,zMg s c e.1 e.2)
theorem z3d (s:Nat) (c:Bool):∀(ge:GEnv) (j:Nat),zU (resolve s c ge) j=(zU ge j).map (zMg s c j)
 | [],_=>rfl
 | (k,x)::r,j=>by
  simp only [resolve,cG,zU];cases hb:Nat.beq j k with
  | true =>
   have:j=k:=bH hb;subst this;rfl
  | false=>exact z3d s c r j
theorem zwf {n:Nat} {t:Array Value} {ge:GEnv} {s:Nat} {c:Bool} (hinv:Inv n t ge) (hs:t.getD s undef= .bool c):Inv n t (resolve s c ge):=by
 refine⟨hinv.size,λj φ v h=> ?_⟩;rw [z3d] at h;cases hg:zU ge j with
 | none=>rw [hg] at h; cases h
 | some x =>
  obtain⟨φ0,v0⟩:=x;rw [hg] at h;simp only [bY,aC,zMg] at h;have h0:=hinv.ok j φ0 v0 hg;cases h1:Nat.beq j s with
  | true =>
   have:j=s:=bH h1;subst this;rw [h1] at h;simp only [cond_true,bI] at h;obtain⟨rfl,rfl⟩:=h;exact⟨λ_=>hs,λhn=>absurd (λp hp=>by cases hp) hn⟩
  | false =>
   rw [h1] at h;simp only [cond_false] at h;cases h2:φ0.any (λp=>Nat.beq p.1 s&&(p.2 != c)) with
   | true =>
    rw [h2] at h;simp only [cond_true,bI] at h;obtain⟨rfl,rfl⟩:=h;obtain⟨p,hp,he⟩:=dU.1 h2;simp only [aD,bne_iff_ne] at he;have hps:p.1=s:=bH he.1
    have hnot:¬ Holds t φ0:=λhh=>by
     have:=hh p hp;rw [hps,hs] at this;simp only [Value.bool.injEq] at this;exact he.2 this.symm
    exact⟨λ_=>h0.2 hnot,λhn=>absurd (λp hp=>by cases hp) hn⟩
   | false =>
    rw [h2] at h;simp only [cond_false,bI] at h;obtain⟨rfl,rfl⟩:=h
    have hiff:Holds t (φ0.filter (λp=> !Nat.beq p.1 s))↔Holds t φ0:=by
     constructor
     ·intro hh p hp;cases hb:Nat.beq p.1 s with
      | false=>exact hh p (bR.2 ⟨hp,by simp [hb]⟩)
      | true =>
       have hps:p.1=s:=bH hb
       have hno:(Nat.beq p.1 s&&(p.2 != c))=false:=by
        cases hx:(Nat.beq p.1 s&&(p.2 != c)) with
        | false=>rfl
        | true =>
         have:φ0.any (λp=>Nat.beq p.1 s&&(p.2 != c))=true:=dU.2 ⟨p,hp,hx⟩;rw [h2] at this; cases this
       rw [hb] at hno;simp only [dS,bne_eq_false_iff_eq] at hno;rw [hps,hs,hno]
     ·intro hh p hp;exact hh p (bR.1 hp).1
    rw [hiff]; exact h0
theorem zoe {X:Nat->Array Value->Prop} {n i:Nat} {ge:GEnv} (s:Nat) (b:Bool)
    (hs:zU ge s=some ([],.bool b)) (ht:b=true->RegX X n i (resolve s true ge)) (hf:b=false->RegX X n i (resolve s false ge)):RegX X n i ge:=by
 intro t hinv;have hv:=(hinv.ok s _ _ hs).1 (λp hp=>by cases hp);cases b with
 | true=>exact ht rfl t (zwf hinv hv)
 | false=>exact hf rfl t (zwf hinv hv)
theorem zzk {P:Program} {n:Nat} {ops:Array Oper} {Q:Exit->Act->World->Prop} {i:Nat} {ge:GEnv} {w:World} (s:Nat) (b:Bool)
    (hs:zU ge s=some ([],.bool b)) (ht:b=true->RegG P n ops Q i (resolve s true ge) w) (hf:b=false->RegG P n ops Q i (resolve s false ge) w) :
    RegG P n ops Q i ge w:=zoe (X:=λi t=>OpsR P ops Q (List.range' i (ops.size - i)) ⟨t,Rnd.ds⟩ w) s b hs ht hf
def ex (op:Op) (ty:TypeId) (ρ:Operand->Value):Sem Next:=execOp ρ ⟨none,op,ty,"",#[],none⟩
theorem ex_eq (ρ:Operand->Value) (o:Oper):execOp ρ o=ex o.op o.type ρ:=by
 obtain⟨d,op,ty,p,a,g⟩:=o;unfold ex execOp;cases op <;> rfl
def opAt (n:Nat) (ops:Array Oper) (ge:GEnv) (i:Nat):Option (Op×TypeId×Option Nat) :=
 match ops[i]? with
 | none=>none
 | some o=>bif zoi ops ge o true&&zuc o.op&&o.op.operands.toList.all (zPe ge [])&&(match o.dst with
     | none=>true
     | some d=>Nat.blt d n&&zgg ge d) then some (o.op,o.type,o.dst) else none
def putG (dst:Option Nat) (v:Value) (ge:GEnv):GEnv :=
 match dst with
 | some d=>(d,[],v)::ge
 | none=>ge
def OpS (P:Program) (op:Op) (ty:TypeId) (ρ:Operand->Value) (w:World) (K:Value->World->Prop):Prop :=
 match (ex op ty ρ).run P w with
 | .ok (.value v) w'=>K v w'
 | .ok .skip w'=>K undef w'
 | .ok (.enter f args) w'=>Calls P f args w' (λe w''=>∃ v,e= .returned v/\K v w'')
 | _=>False
theorem zlb {P:Program} {n:Nat} {ops:Array Oper} {Q:Exit->Act->World->Prop} {i:Nat} {ge:GEnv} {w:World} {op:Op} {ty:TypeId} {dst:Option Nat}
    (ho:opAt n ops ge i=some (op,ty,dst)) (h:OpS P op ty (rho ge) w (λv w'=>RegG P n ops Q (i+1) (putG dst v ge) w')):RegG P n ops Q i ge w:=by
 intro t hinv;unfold opAt at ho;cases hoi:ops[i]? with
 | none=>rw [hoi] at ho; cases ho
 | some o =>
  rw [hoi] at ho;simp only at ho;obtain⟨hc,ho⟩:=ztb ho;simp only [aD] at hc;obtain⟨⟨⟨hg,hsel⟩,hav⟩,hdst⟩:=hc;simp only [aC,bI] at ho;obtain⟨hop,hty,hds⟩:=ho;have hH:Holds t []:=λp hp=>by cases hp
  have hexec:=zbc hinv hH hsel hav;have hw:=zX (ops:=ops) hinv hg;rw [zFc (getElem?_lt hoi)]
  have hput:∀ v w',RegG P n ops Q (i+1) (putG dst v ge) w'->OpsR P ops Q (List.range' (i+1) (ops.size - (i+1))) (Act.put ⟨t,Rnd.ds⟩ o.dst v) w':=by
   intro v w' hr;rw [hds] at hdst ⊢;cases dst with
   | none=>exact hr t hinv
   | some d =>
    simp only [aD] at hdst;exact hr _ (hinv.put (v:=v) (u:=v) hdst.1 hdst.2 (λp hp=>by cases hp) (λ_=>rfl) (λhh=>absurd hH hh))
  unfold OpsR at hput ⊢;split
  ·rename_i hy
   simp only [hy] at hput;simp only [wpOpsIn,hoi];rw [if_pos hw];refine⟨λ_ _=>trivial,?_⟩;rw [Oper.semAt_eq _ _ _ (z0c hsel),hexec,ex_eq,hop,hty];unfold OpS at h;generalize (ex op ty (rho ge)).run P w=r at h ⊢;cases r with
   | halt x w'=>exact h.elim
   | ok nx w' =>
    cases nx with
    | value v=>exact hput _ _ h
    | skip=>exact hput _ _ h
    | enter f args =>
     refine⟨nofun,callsIn_wide.2 (Calls.mono h ?_)⟩;rintro e w'' ⟨v,rfl,hr⟩;exact hput _ _ hr
    | _=>exact h.elim
  ·rename_i hy
   simp only [hy] at hput;simp only [wpOps,hoi];rw [if_pos hw];refine .inl ?_;unfold Oper.wp;rw [hexec,ex_eq,hop,hty];unfold OpS at h;generalize (ex op ty (rho ge)).run P w=r at h ⊢;cases r with
   | halt x w'=>exact h.elim
   | ok nx w' =>
    cases nx with
    | value v=>exact hput _ _ h
    | skip=>exact hput _ _ h
    | enter f args =>
     refine Calls.mono h ?_;rintro e w'' ⟨v,rfl,hr⟩;exact hput _ _ hr
    | _=>exact h.elim
theorem zcc {P:Program} {n:Nat} {ops:Array Oper} {Q:Exit->Act->World->Prop} {i:Nat} {ge:GEnv} {w:World} {op:Op} {ty:TypeId} {dst:Option Nat}
    (v:Value) (w':World) (ho:opAt n ops ge i=some (op,ty,dst)) (hr:(ex op ty (rho ge)).run P w= .ok (.value v) w')
    (h:RegG P n ops Q (i+1) (putG dst v ge) w'):RegG P n ops Q i ge w :=
 zlb ho (by unfold OpS; rw [hr]; exact h)
theorem zvc {P:Program} {n:Nat} {ops:Array Oper} {Q:Exit->Act->World->Prop} {i:Nat} {ge:GEnv} {w:World} {op:Op} {ty:TypeId} {dst:Option Nat}
    (f:FuncId) (args:Array Value) (ho:opAt n ops ge i=some (op,ty,dst)) (hr:∀ ww,(ex op ty (rho ge)).run P ww= .ok (.enter f args) ww)
    (h:Calls P f args w (λe w'=>∃ v,e= .returned v/\RegG P n ops Q (i+1) (putG dst v ge) w')):RegG P n ops Q i ge w :=
 zlb ho (by unfold OpS; rw [hr]; exact h)
theorem zT {P:Program} {n:Nat} {ops:Array Oper} {Q:Exit->Act->World->Prop} {i:Nat} {ge:GEnv} {w:World} {op:Op} {ty:TypeId} {dst:Option Nat}
    (v:Value) (ho:opAt n ops ge i=some (op,ty,dst)) (hr:∀ ww,(ex op ty (rho ge)).run P ww= .ok (.value v) ww)
    (h:RegG P n ops Q (i+1) (putG dst v ge) w):RegG P n ops Q i ge w :=
 zcc v w ho (hr w) h
theorem zAk {P:Program} {n:Nat} {ops:Array Oper} {Q:Exit->Act->World->Prop} {i:Nat} {ge:GEnv} {w:World} {op:Op} {ty:TypeId} {dst:Option Nat}
    (f:Nat->Value) (o:Obj) (ho:opAt n ops ge i=some (op,ty,dst)) (hr:(ex op ty (rho ge)).run P w= .ok (.value (f w.heap.size)) { w with heap:=w.heap.push o })
    (h:∀ b w',b=w.heap.size->w'=w.alloc o->RegG P n ops Q (i+1) (putG dst (f b) ge) w'):RegG P n ops Q i ge w :=
 zcc _ _ ho hr (h _ _ rfl rfl)
end
section
variable [Rnd]
structure Slc where
 ptr:Option Addr
 len:Nat
 cap:Nat
abbrev Vs (s:Slc):Value:=Value.slice s.ptr s.len s.cap
def pblk (p:Option Addr):Nat:=(p.getD ⟨0,0,none⟩).block
def poff (p:Option Addr):Nat:=(p.getD ⟨0,0,none⟩).off
abbrev IsAt (p:Option Addr):Prop:=p=some ⟨pblk p,poff p,none⟩
def zf (w:World) (b:Nat):Nat->List Value->Prop
 | _,[]=>True
 | o,v::r=>w.cell? ⟨b,o,none⟩=some v/\zf w b (o+1) r
def zr (w:World) (b o k:Nat):Prop:=∀ i,i<k->(∃ v,w.cell? ⟨b,o+i,none⟩=some v)/\w.frozen? ⟨b,o+i,none⟩=false
def World.puts (b:Nat):Nat->List Value->World->World
 | _,[],w=>w
 | o,v::r,w=>World.puts b (o+1) r (w.setCell ⟨b,o,none⟩ v)
def zVb (P:Program) (t:TypeId):Bool :=
 match P.underlying t with
 | some (.struct _) | some (.array ..) | none=>false
 | _=>true
def aggT (P:Program) (t:TypeId):Bool :=
 match P.underlying t with
 | some (.struct _) | some (.array ..)=>true
 | _=>false
def zB (P:Program) (t:TypeId):Option Nat:=(P.info? t).map (·.size)
def oneCell:Value->Bool
 | .agg _ | .tuple _=>false
 | _=>true
def zv (vs:List Value):Bool:=vs.all oneCell
theorem zd {P:Program} {t:TypeId} {d:TypeDesc} (h:P.underlying t=some d) (w:World):(underlying t).run P w= .ok d w:=by
 simp [underlying,program,Sem.run,bind,Sem.bind,h,pure]
theorem zR {P:Program} {t:TypeId} {k:Nat} (h:zB P t=some k) (w:World):(sizeOf t).run P w= .ok k w:=by
 unfold zB at h;cases hi:P.info? t with
 | none=>rw [hi] at h; cases h
 | some i =>
  rw [hi] at h;simp only [bY,aC] at h;simp [sizeOf,typeInfo,program,Sem.run,bind,Sem.bind,hi,pure,h]
theorem zDb {P:Program} {t:TypeId} (h:zVb P t=true) (w:World):(isAgg t).run P w= .ok false w:=by
 unfold zVb at h;cases hu:P.underlying t with
 | none=>rw [hu] at h; cases h
 | some d =>
  rw [hu] at h;cases d <;> first | (cases h; done) | simp [isAgg,underlying,program,Sem.run,bind,Sem.bind,hu,pure]
theorem zBd {P:Program} {t:TypeId} (h:aggT P t=true) (w:World):(isAgg t).run P w= .ok true w:=by
 unfold aggT at h;cases hu:P.underlying t with
 | none=>rw [hu] at h; cases h
 | some d =>
  rw [hu] at h;cases d <;> first | (cases h; done) | simp [isAgg,underlying,program,Sem.run,bind,Sem.bind,hu,pure]
theorem run_map {P:Program} {α β:Type} (f:α->β) (s:Sem α) (w:World):(Functor.map f s).run P w=match s.run P w with
      | .ok a w'=> .ok (f a) w'
      | .halt h w'=> .halt h w':=by
 show(s >>= λa=>pure (f a)).run P w=_;rw [Sem.run_bind];cases s.run P w <;> rfl
theorem run_bind' {P:Program} {α β:Type} (s:Sem α) (f:α->Sem β) (w:World) :
    (s >>= f).run P w=match s.run P w with
     | .ok a w'=>(f a).run P w'
     | .halt h w'=> .halt h w':=by
 rw [Sem.run_bind]; rfl
theorem addr_add (b o k:Nat):Addr.add ⟨b,o,none⟩ k=⟨b,o+k,none⟩:=by
 unfold Addr.add;split
 ·rename_i h; subst h; rfl
 ·rfl
theorem zwc {P:Program} {w:World} {b o:Nat}:∀(vs:List Value) (i:Nat) (acc:Array Value),zf w b (o+i) vs ->
    (loadCellsFrom ⟨b,o,none⟩ i vs.length acc).run P w= .ok (acc++vs.toArray) w
 | [],i,acc,_=>by simp [loadCellsFrom,pure,Sem.run]
 | v::vs,i,acc,h=>by
  rw [aV,loadCellsFrom,run_bind']
  have h1:(load (Addr.add ⟨b,o,none⟩ i)).run P w= .ok v w:=by
   rw [addr_add];simp [load,Sem.run,h.1]
  rw [h1];simp only;rw [zwc vs (i+1) _ (by have:=h.2; rwa [eY] at this)];simp
theorem z2b {P:Program} {w:World} {b o:Nat} {vs:List Value} (h:zf w b o vs) {k:Nat} (hk:vs.length=k) :
    (loadCells ⟨b,o,none⟩ k).run P w= .ok vs.toArray w:=by
 subst hk;unfold loadCells;rw [zwc vs 0 _ (by simpa using h)];simp
theorem cell?_setCell_ne {w:World} {b o o':Nat} {v:Value} (h:o≠o'):(w.setCell ⟨b,o,none⟩ v).cell? ⟨b,o',none⟩=w.cell? ⟨b,o',none⟩:=by
 unfold World.setCell World.cell?;simp only [fU];simp only [if_true];cases w.heap[b]? with
 | none=>rfl
 | some ob=>cases ob <;> simp [cP h]
theorem frozen?_setCell {w:World} {b o:Nat} {v:Value} (a:Addr):(w.setCell ⟨b,o,none⟩ v).frozen? a=w.frozen? a:=by
 unfold World.setCell World.frozen?;simp only [fU];by_cases hb:b=a.block
 ·subst hb;simp only [if_true];cases w.heap[a.block]? with
  | none=>rfl
  | some ob=>cases ob <;> rfl
 ·rw [if_neg hb]
theorem zr.tail {w:World} {b o k:Nat} {v:Value} (h:zr w b o (k+1)):zr (w.setCell ⟨b,o,none⟩ v) b (o+1) k:=by
 intro i hi;have:=h (i+1) O_;rw [show o+(i+1)=o+1+i from by omega] at this;rw [cell?_setCell_ne O_,frozen?_setCell];exact this
theorem zrb {P:Program} {b o:Nat}:∀(vs:List Value) (i:Nat) (w:World),zr w b (o+i) vs.length->zv vs=true ->
    (storeCells ⟨b,o,none⟩ vs i).run P w= .ok () (World.puts b (o+i) vs w)
 | [],i,w,_,_=>by simp [storeCells,pure,Sem.run,World.puts]
 | v::vs,i,w,h,h1=>by
  simp only [zv,fM,aD] at h1;rw [storeCells,run_bind',addr_add];have hw:=h 0 (by simp);rw [eE] at hw;obtain⟨⟨u,hu⟩,hf⟩:=hw
  have hs:(store ⟨b,o+i,none⟩ v).run P w= .ok () (w.setCell ⟨b,o+i,none⟩ v):=by
   unfold store;have hone:=h1.1;cases v <;> first | (cases hone; done) | simp [Sem.run,hu,hf]
  rw [hs];simp only [World.puts];have:=zrb (P:=P) (b:=b) (o:=o) vs (i+1) (w.setCell ⟨b,o+i,none⟩ v) (by rw [<-eY]; exact zr.tail (by simpa using h)) h1.2;rw [this,<-eY]
section
variable {P:Program} {n:Nat} {ops:Array Oper} {Q:Exit->Act->World->Prop} {i:Nat} {ge:GEnv} {w:World} {ty:TypeId} {dst:Option Nat}
theorem zxf {t:TypeId} {a:Operand} {b o:Nat} {v:Value} (ha:rho ge a= .pointer (some ⟨b,o,none⟩))
    (ht:zVb P t=true) (hc:w.cell? ⟨b,o,none⟩=some v):(ex (.load t a) ty (rho ge)).run P w= .ok (.value v) w:=by
 unfold ex execOp Instr.loadAt;simp only [ha];simp [run_bind',Instr.sureAddr,loadVar,zDb ht,load,Sem.run,hc,pure]
theorem zBk {t:TypeId} {a:Operand} {b o:Nat} {v:Value} (ho:opAt n ops ge i=some (.load t a,ty,dst)) (ha:rho ge a= .pointer (some ⟨b,o,none⟩))
    (ht:zVb P t=true) (hc:w.cell? ⟨b,o,none⟩=some v) (h:RegG P n ops Q (i+1) (putG dst v ge) w):RegG P n ops Q i ge w :=
 zlb ho (by
  unfold OpS; rw [zxf ha ht hc]; exact h)
theorem zyf {t:TypeId} {a:Operand} {b o k:Nat} {vs:List Value} (ha:rho ge a= .pointer (some ⟨b,o,none⟩))
    (ht:aggT P t=true) (hs:zB P t=some k) (hk:vs.length=k) (hc:zf w b o vs):(ex (.load t a) ty (rho ge)).run P w= .ok (.value (.agg vs.toArray)) w:=by
 subst hk;unfold ex execOp Instr.loadAt;simp only [ha];simp [run_bind',Instr.sureAddr,loadVar,zBd ht,zR hs,z2b hc rfl,Sem.run,pure]
theorem z4d {t:TypeId} {a:Operand} {b o k:Nat} (vs:List Value) (ho:opAt n ops ge i=some (.load t a,ty,dst)) (ha:rho ge a= .pointer (some ⟨b,o,none⟩))
    (ht:aggT P t=true) (hs:zB P t=some k) (hk:vs.length=k) (hc:zf w b o vs) (h:RegG P n ops Q (i+1) (putG dst (.agg vs.toArray) ge) w):RegG P n ops Q i ge w :=
 zlb ho (by
  unfold OpS; rw [zyf ha ht hs hk hc]; exact h)
theorem zwh {K:Value->World->Prop} {t:TypeId} {a x:Operand} {b o k:Nat} {vs:List Value} (ha:rho ge a= .pointer (some ⟨b,o,none⟩))
    (hx:(rho ge x).cells=vs.toArray) (hs:zB P t=some k) (hk:vs.length=k) (h1:zv vs=true) (hw:zr w b o k)
    (h:∀ w',w'=World.puts b o vs w->K undef w'):OpS P (.store t a x) ty (rho ge) w K:=by
    subst hk;have hx:(rho ge x).cells.toList=vs:=by rw [hx]
    replace h:=h _ rfl
    have hr:(ex (.store t a x) ty (rho ge)).run P w= .ok .skip (World.puts b o vs w):=by
     unfold ex execOp Instr.storeAt;simp only [ha];have hlen:(rho ge x).cells.size=vs.length:=by rw [<-hx]; simp
     simp only [run_bind',Instr.sureAddr,storeVar,zR hs,Sem.run,pure,hlen,ne_eq,not_true_eq_false,if_false];rw [hx,zrb vs 0 w (by simpa using hw) h1];simp
    unfold OpS; rw [hr]; exact h
theorem zxc {t:TypeId} {a x:Operand} {b o k:Nat} (vs:List Value) (ho:opAt n ops ge i=some (.store t a x,ty,dst)) (ha:rho ge a= .pointer (some ⟨b,o,none⟩))
    (hx:(rho ge x).cells=vs.toArray) (hs:zB P t=some k) (hk:vs.length=k) (h1:zv vs=true) (hw:zr w b o k)
    (h:∀ w',w'=World.puts b o vs w->RegG P n ops Q (i+1) (putG dst undef ge) w'):RegG P n ops Q i ge w :=
 zlb ho (zwh ha hx hs hk h1 hw h)
theorem zpe {t e:TypeId} {x ix:Operand} {b o l c sz:Nat} {k:IntKind} {j:Int}
    (hx:rho ge x= .slice (some ⟨b,o,none⟩) l c) (hi:rho ge ix= .int k j) (ht:P.underlying t=some (.slice e)) (hs:zB P e=some sz)
    (h0:0<=j) (h1:j<l):(ex (.indexAddr t x ix) ty (rho ge)).run P w= .ok (.value (.pointer (some ⟨b,o+j.toNat*sz,none⟩))) w:=by
 unfold ex execOp Instr.indexAt;simp only [hx,hi];simp only [run_bind',asIntOf,zd ht,Sem.run,pure];rw [if_pos ⟨h0,h1⟩];simp [run_bind',zR hs,Sem.run,pure,addr_add]
theorem zid {t e:TypeId} {x ix:Operand} {b o l c sz:Nat} {k:IntKind} {j:Int} (ho:opAt n ops ge i=some (.indexAddr t x ix,ty,dst))
    (hx:rho ge x= .slice (some ⟨b,o,none⟩) l c) (hi:rho ge ix= .int k j) (ht:P.underlying t=some (.slice e)) (hs:zB P e=some sz)
    (h0:0<=j) (h1:j<l) (h:RegG P n ops Q (i+1) (putG dst (.pointer (some ⟨b,o+j.toNat*sz,none⟩)) ge) w):RegG P n ops Q i ge w :=
 zlb ho (by
  unfold OpS; rw [zpe hx hi ht hs h0 h1]; exact h)
theorem zti {t e:TypeId} {x ix:Operand} {b o l c:Nat} {k:IntKind} {j:Int} (ho:opAt n ops ge i=some (.indexAddr t x ix,ty,dst))
    (hx:rho ge x= .slice (some ⟨b,o,none⟩) l c) (hi:rho ge ix= .int k j) (ht:P.underlying t=some (.slice e)) (hs:zB P e=some 1)
    (h0:0<=j) (h1:j<l) (h:RegG P n ops Q (i+1) (putG dst (.pointer (some ⟨b,o+j.toNat,none⟩)) ge) w):RegG P n ops Q i ge w :=
 zid ho hx hi ht hs h0 h1 (by simpa using h)
theorem zqe {t e:TypeId} {x ix:Operand} {b o len sz:Nat} {k:IntKind} {j:Int}
    (hx:rho ge x= .pointer (some ⟨b,o,none⟩)) (hi:rho ge ix= .int k j) (ht:P.underlying t=some (.array len e)) (hs:zB P e=some sz)
    (h0:0<=j) (h1:j<len):(ex (.indexAddr t x ix) ty (rho ge)).run P w= .ok (.value (.pointer (some ⟨b,o+j.toNat*sz,none⟩))) w:=by
 unfold ex execOp Instr.indexAt;simp only [hx,hi];simp only [run_bind',asIntOf,zd ht,Sem.run,pure,Instr.sureAddr];rw [if_pos ⟨h0,h1⟩];simp [run_bind',zR hs,Sem.run,pure,addr_add]
theorem zxj {t e:TypeId} {x ix:Operand} {b o len sz:Nat} {k:IntKind} {j:Int} (ho:opAt n ops ge i=some (.indexAddr t x ix,ty,dst))
    (hx:rho ge x= .pointer (some ⟨b,o,none⟩)) (hi:rho ge ix= .int k j) (ht:P.underlying t=some (.array len e)) (hs:zB P e=some sz)
    (h0:0<=j) (h1:j<len) (h:RegG P n ops Q (i+1) (putG dst (.pointer (some ⟨b,o+j.toNat*sz,none⟩)) ge) w):RegG P n ops Q i ge w :=
 zlb ho (by
  unfold OpS; rw [zqe hx hi ht hs h0 h1]; exact h)
theorem zmb {t e:TypeId} {x ix:Operand} {b o len:Nat} {k:IntKind} {j:Int} (ho:opAt n ops ge i=some (.indexAddr t x ix,ty,dst))
    (hx:rho ge x= .pointer (some ⟨b,o,none⟩)) (hi:rho ge ix= .int k j) (ht:P.underlying t=some (.array len e)) (hs:zB P e=some 1)
    (h0:0<=j) (h1:j<len) (h:RegG P n ops Q (i+1) (putG dst (.pointer (some ⟨b,o+j.toNat,none⟩)) ge) w):RegG P n ops Q i ge w :=
 zxj ho hx hi ht hs h0 h1 (by simpa using h)
def zCe (s:ByteArray) (i:Int):Int:=((s.data.toList.getD i.toNat 0).toNat:Int)
theorem zxh {t:TypeId} {x ix:Operand} {s:ByteArray} {k:IntKind} {j:Int}
    (hx:rho ge x= .string s) (hi:rho ge ix= .int k j) (ht:P.underlying t=some .string) (h0:0<=j) (h1:j<s.size) :
    (ex (.index t x ix) ty (rho ge)).run P w= .ok (.value (.int .u8 (zCe s j))) w:=by
 unfold ex execOp Instr.index;simp only [hx,hi];have hlt:j.toNat<s.size:=O_;have hget:(if 0<=j then s[j.toNat]? else none)=some (s[j.toNat]'hlt):=by rw [if_pos h0]; exact getElem?_pos s _ hlt
 have hb:zCe s j=((s[j.toNat]'hlt).toNat:Int):=by
  unfold zCe;rw [cF,aA (by simpa using hlt)];rfl
 simp only [run_bind',asIntOf,zd ht,Sem.run,pure,hget,hb]
theorem zyh {t:TypeId} {x ix:Operand} {s:ByteArray} {k:IntKind} {j:Int} (ho:opAt n ops ge i=some (.index t x ix,ty,dst))
    (hx:rho ge x= .string s) (hi:rho ge ix= .int k j) (ht:P.underlying t=some .string) (h0:0<=j) (h1:j<s.size)
    (h:RegG P n ops Q (i+1) (putG dst (.int .u8 (zCe s j)) ge) w):RegG P n ops Q i ge w :=
 zlb ho (by unfold OpS; rw [zxh hx hi ht h0 h1]; exact h)
theorem zGc {t e:TypeId} {x hi:Operand} {p:Option Addr} {l c sz:Nat} {k:IntKind} {j:Int} (ho:opAt n ops ge i=some (.slice t x none (some hi) none,ty,dst))
    (hx:rho ge x= .slice p l c) (hh:rho ge hi= .int k j) (ht:P.underlying t=some (.slice e)) (hs:zB P e=some sz)
    (h0:0<=j) (h1:j<=c) (h:RegG P n ops Q (i+1) (putG dst (.slice p j.toNat c) ge) w):RegG P n ops Q i ge w :=
 zlb ho (by
  have hr:(ex (.slice t x none (some hi) none) ty (rho ge)).run P w= .ok (.value (.slice p j.toNat c)) w:=by
   unfold ex execOp Instr.sliceAt;simp only [hx,gJ,bY];simp only [run_bind',zd ht,Sem.run,pure,Instr.slice,Instr.sliceBounds,Instr.sliceBound,hh,asIntOf];rw [if_pos ⟨h0,h1⟩];simp only [run_bind',Sem.run,pure,zR hs,fG,Nat.sub_zero];have hadd:p.map (λa=>a.add 0)=p:=by cases p <;> simp [Addr.add]
   split <;> simp_all
  unfold OpS; rw [hr]; exact h)
end
def zzf (P:Program) (l:Env) (w:World):List ResultVar->List Value->Prop
 | [],[]=>True
 | .tmp s::r,v::vs=>zAb l s=some v/\zzf P l w r vs
 | .cell a t::r,v::vs=>∃ b o cs,zAb l a=some (.pointer (some ⟨b,o,none⟩))/\zf w b o cs/\zB P t=some cs.length /\
     ((aggT P t=true/\v= .agg cs.toArray)\/(zVb P t=true/\cs=[v]))/\zzf P l w r vs
 | _,_=>False
theorem z2i {P:Program} {t:TypeId} {k:Nat} {cs:List Value} (h:zB P t=some k) (hk:cs.length=k):zB P t=some cs.length:=by rw [hk]; exact h
def zig (t:Array Value):ResultVar->Sem Value
 | .tmp s=>pure (t.getD s undef)
 | .cell a ty=>do loadVar ty (<-asAddr (t.getD a undef))
theorem zAf {P:Program} {l:Env} {w:World} {n:Nat} {t:Array Value} (ha:zbb n t l):∀(rs:List ResultVar) (vs:List Value),zzf P l w rs vs ->
    (rs.mapM (zig t)).run P w= .ok vs w
 | [],[],_=>by simp [pure,Sem.run]
 | [],_::_,h=>h.elim
 | .tmp s::r,[],h=>h.elim
 | .cell a ty::r,[],h=>h.elim
 | .tmp s::r,v::vs,h=>by
  have h1:t.getD s undef=v:=ha.2 (s,v) (ztc h.1);have hv:(zig t (.tmp s)).run P w= .ok v w:=by simp only [zig,h1]; rfl
  rw [List.mapM_cons,run_bind',hv];simp only;rw [run_bind',zAf ha r vs h.2];rfl
 | .cell a ty::r,v::vs,h=>by
  obtain⟨b,o,cs,h1,h2,h3,h4,h5⟩:=h;have h1:t.getD a undef= .pointer (some ⟨b,o,none⟩):=ha.2 (a,_) (ztc h1)
  have hl:(loadVar ty ⟨b,o,none⟩).run P w= .ok v w:=by
   unfold loadVar;rcases h4 with ⟨ht,rfl⟩ | ⟨ht,rfl⟩
   ·simp [run_bind',zBd ht,zR h3,z2b h2 rfl,pure,Sem.run]
   ·rw [run_bind',zDb ht];simp [load,Sem.run,h2.1]
  have hv:(zig t (.cell a ty)).run P w= .ok v w:=by
   simp only [zig,h1,run_bind',asAddr,pure,Sem.run,hl]
  rw [List.mapM_cons,run_bind',hv];simp only;rw [run_bind',zAf ha r vs h5];rfl
theorem zBf {P:Program} {l:Env} {w:World} {n:Nat} {t:Array Value} {fn:Func} {vs:List Value} (ha:zbb n t l) (h:zzf P l w fn.results.toList vs) :
    (results fn t).run P w= .ok (if h:vs.toArray.size=1 then vs.toArray[0] else .tuple vs.toArray) w:=by
 have e:results fn t=(fn.results.mapM (zig t) >>= λvs=>pure (if h:vs.size=1 then vs[0] else .tuple vs)):=rfl;rw [e,run_bind',<-cQ (xs:=fn.results),List.mapM_toArray,run_map,zAf ha fn.results.toList vs h];rfl
theorem retS {P:Program} {fn:Func} {R:Value->World->Prop} {l:Env} {w:World} {rs:List ResultVar} {v:Value} (hr:fn.results.toList=rs) (h:zzf P l w rs [v])
    (hR:R v w):retQ P fn R .ret l w:=by
 intro t ⟨n,ha⟩;subst hr;exact⟨v,zBf ha h,hR⟩
theorem zHc {P:Program} {fn:Func} {R:Value->World->Prop} {l:Env} {w:World} (h:retQ P fn R .ret l w):retQ P fn R .normal l w:=h
theorem retT {P:Program} {fn:Func} {R:Value->World->Prop} {l:Env} {w:World} {rs:List ResultVar} {vs:List Value} (hr:fn.results.toList=rs) (h:zzf P l w rs vs)
    (h1:Nat.beq vs.length 1=false) (hR:R (.tuple vs.toArray) w):retQ P fn R .ret l w:=by
 intro t ⟨n,ha⟩;subst hr;refine⟨.tuple vs.toArray,?_,hR⟩;rw [zBf ha h,dif_neg];intro hh;have:vs.length=1:=by simpa using hh
 rw [this] at h1;cases h1
end
theorem zOm {w:World} {b o:Nat} {v:Value} (h:w.cell? ⟨b,o,none⟩=some v):b<w.heap.size:=by
 rcases dB b w.heap.size with h' | h'
 ·exact h'
 ·unfold World.cell? at h; rw [dQ h'] at h; cases h
abbrev Ext (w w':World):Prop:=RowKit.Below w.heap.size w w'
theorem Ext.refl (w:World):Ext w w:=RowKit.Below.refl _ w
theorem Ext.trans {a b c:World} (h:Ext a b) (k:Ext b c):Ext a c:=RowKit.Below.trans h (k.mono h.size)
theorem Ext.cell {w w':World} (h:Ext w w') {b o:Nat} {v:Value} (hc:w.cell? ⟨b,o,none⟩=some v):w'.cell? ⟨b,o,none⟩=some v:=by
 have:=RowKit.Below.cell h (p:=⟨b,o,none⟩) (zOm hc);rw [this]; exact hc
theorem Ext.cells {w w':World} (h:Ext w w') {b:Nat}:∀ {o:Nat} {vs:List Value},zf w b o vs->zf w' b o vs
 | _,[],_=>trivial
 | _,_::_,hc=>⟨h.cell hc.1,h.cells hc.2⟩
def RegQ (P:Program) (n:Nat) (ops:Array Oper) (m:Nat) (C:World->Prop) (Q:Act->Prop) (i:Nat) (ge:GEnv) (w:World):Prop :=
 (∀ w',C w'->Ext w w')->∀ t,Inv n t ge->i<=m/\wpQuiet P ops C Q ((ops.toList.take m).drop i) ⟨t,[]⟩
theorem zCf {ops:Array Oper} {i m:Nat} {o:Oper} (h:ops[i]? =some o) (hm:i+1<=m):(ops.toList.take m).drop i=o::(ops.toList.take m).drop (i+1):=by
 have hlt:=getElem?_lt h;have h1:(ops.toList.take m)[i]? =some o:=by rw [dJ,if_pos O_,fV]; exact h
 obtain⟨h2,h3⟩:=cC.1 h1;rw [bO h2,h3]
theorem lawQ {P:Program} {ops:Array Oper} {m:Nat} {C:World->Prop} {Q:Act->Prop} :
    zne P ops (λi t=>i<=m/\wpQuiet P ops C Q ((ops.toList.take m).drop i) ⟨t,[]⟩):=by
 constructor
 ·intro i d o t v ho hd hw hr h;refine⟨eF h.1,?_⟩;show wpQuiet P ops C Q _ ⟨t,[]⟩;rw [zCf ho h.1];unfold wpQuiet;rw [if_pos hw];refine⟨v,λw _=> ?_,?_⟩
  ·have hr:∀ w,(execOp (Act.eval ⟨t,[]⟩) o).run P w= .ok (.value v) w:=hr;unfold Oper.quietAt; rw [hr w]; exact⟨rfl,rfl⟩
  ·rw [hd]; exact h.2
 ·intro i d o t ho hd hw h;refine⟨eF h.1,?_⟩;show wpQuiet P ops C Q _ ⟨t,[]⟩;rw [zCf ho h.1];unfold wpQuiet;rw [hw,if_neg D_,hd];exact h.2
theorem zZ {P:Program} {n id:Nat} {c:Code} {ops:Array Oper} {Q:Exit->Env->World->Prop} {l:Env} {w:World} (hc:c= .region id ops true)
    (hm:P.follows .mixedOrders=true) (hB:Region.lexB .any ops=true)
    (h:RegQ P n ops ops.size (Ext w) (λa=>∀ w',Ext w w'->zO n Q .normal a w') 0 (toG l) w):WpE P n c Q l w:=by
 subst hc;intro t ha;refine wp_region_quiet (C:=Ext w) hm hB ((RowKit.Below.refl _ w).drew) ?_;have:=(h (λ_ h=>h) t ha.inv).2;rw [fC,bF (by simp)] at this;exact this
theorem zjc {P:Program} {ops:Array Oper} {w:World} {Q:Act->Prop}:∀(l:List Oper) (a:Act),wpQuiet P ops (λw'=>w'=w) Q l a->wpStill P ops w Q l a
 | [],_,h=>h
 | o::l,a,h=>by
  unfold wpQuiet at h;unfold wpStill;by_cases hw:Region.wanted o (yielded ops a.tmps)=true
  ·rw [if_pos hw] at h ⊢;obtain⟨v,h1,h2⟩:=h;have h1:=h1 w rfl;have h2:=zjc l _ h2;unfold Oper.quietAt at h1;unfold Oper.still;generalize (execOp a.eval o).run P w=r at *
   cases r with
   | ok n w' =>
    cases n <;> simp only [Oper.quietUpon] at h1 <;> simp only [Oper.stillUpon]
    case value u=>obtain⟨e1,e2⟩:=h1; subst e2; exact⟨e1,h2⟩
    case skip=>obtain⟨e1,e2⟩:=h1; subst e2; exact⟨e1,h2⟩
    case enter f args=>obtain⟨e1,e2⟩:=h1; exact⟨e1,v,e2,h2⟩
   | halt x w'=>simp only [Oper.quietUpon] at h1
  ·rw [if_neg hw] at h ⊢;exact zjc l _ h
theorem zK {P:Program} {n id:Nat} {c:Code} {ops:Array Oper} {Q:Exit->Env->World->Prop} {l:Env} {w:World} (hc:c= .region id ops true)
    (m:Nat) (hm:P.follows .mixedOrders=true) (hB:Region.lexTailB .any ops m=true)
    (h:∀ w1,(∃ k,w1=w.drewN k)->RegQ P n ops m (λw'=>w'=w1) (λa=>wpOps P ops (zO n Q) (List.range' m (ops.size - m)) a w1) 0 (toG l) w1):WpE P n c Q l w:=by
 subst hc;intro t ha;have h:=(h w.drew ⟨1,rfl⟩ (λw' hw=>hw ▸ Ext.refl _) t ha.inv).2;rw [fC] at h;refine wp_region_still_tail (l:=ops.toList) m hm hB ?_;have e:List.range' m (ops.size - m)=List.range' m (ops.toList.drop m).length:=by simp
 rw [e] at h;have e2:=wpOps_eq_wpList (P:=P) (ops:=ops) (Q:=zO n Q) (ops.toList.drop m) m (λj=>by simp [dK]);rw [e2] at h;exact zjc _ _ h
section
variable {P:Program} {n:Nat} {ops:Array Oper} {m:Nat} {C:World->Prop} {Q:Act->Prop} {i:Nat} {ge:GEnv} {w:World}
theorem zyj (s:Nat) (b:Bool)
    (hs:zU ge s=some ([],.bool b)) (ht:b=true->RegQ P n ops m C Q i (resolve s true ge) w) (hf:b=false->RegQ P n ops m C Q i (resolve s false ge) w) :
    RegQ P n ops m C Q i ge w:=λhC=>zoe (X:=λi t=>i<=m/\wpQuiet P ops C Q ((ops.toList.take m).drop i) ⟨t,[]⟩) s b hs (λh=>ht h hC) (λh=>hf h hC)
theorem zEb {Q:Exit->Env->World->Prop} (hi:i=m) (h:RegG P n ops (zO n Q) i ge w) :
    RegQ P n ops m (λw'=>w'=w) (λa=>wpOps P ops (zO n Q) (List.range' m (ops.size - m)) a w) i ge w:=by
 subst hi;intro _ t hinv;refine⟨bC _,?_⟩;rw [eP (by simp; omega)];exact h t hinv
end
theorem zPl {P:Program} {n i:Nat} {ops:Array Oper} {Q:Exit->Env->World->Prop} {ge:GEnv} {w:World} (l:Env) (hi:ops.size=i)
    (hl:l.map (λp=>zU ge p.1)=l.map (λp=>some ([],p.2))) (h:∀ w',Ext w w'->Q .normal l w') :
    RegQ P n ops ops.size (Ext w) (λa=>∀ w',Ext w w'->zO n Q .normal a w') i ge w:=by
 intro _ t hinv;refine⟨O_,?_⟩;rw [eP (by simp; omega)];intro w' hw';refine zO.mk ⟨hinv.size,λp hp=> ?_⟩ (h w' hw');have:=fR.1 hl p hp;exact(hinv.ok _ _ _ this).1 (λp hp=>by cases hp)
theorem z3i {P:Program} {n:Nat} {ops:Array Oper} {m:Nat} {C:World->Prop} {Q:Act->Prop} {i:Nat} {ge:GEnv} {w:World} {op:Op} {ty:TypeId} {dst:Option Nat} (v:Value)
    (ho:opAt n ops ge i=some (op,ty,dst)) (hr:∀ w',C w'->Ext w w'->Oper.quietUpon P C w' v ((ex op ty (rho ge)).run P w'))
    (h:RegQ P n ops m C Q (i+1) (putG dst v ge) w):RegQ P n ops m C Q i ge w:=by
 intro hC t hinv;unfold opAt at ho;cases hoi:ops[i]? with
 | none=>rw [hoi] at ho; cases ho
 | some o =>
  rw [hoi] at ho;simp only at ho;obtain⟨hc,ho⟩:=ztb ho;simp only [aD] at hc;obtain⟨⟨⟨hg,hsel⟩,hav⟩,hdst⟩:=hc;simp only [aC,bI] at ho;obtain⟨hop,hty,hds⟩:=ho;have hH:Holds t []:=λp hp=>by cases hp
  have hexec:execOp (Act.eval ⟨t,[]⟩) o=execOp (rho ge) o:=zbc hinv hH hsel hav;have hw:=zX (ops:=ops) hinv hg
  have key:i+1<=m/\wpQuiet P ops C Q ((ops.toList.take m).drop (i+1)) (Act.put ⟨t,[]⟩ o.dst v):=by
   rw [hds] at hdst ⊢;cases dst with
   | none=>exact h hC t hinv
   | some d =>
    simp only [aD] at hdst;exact h hC _ (hinv.put (v:=v) (u:=v) hdst.1 hdst.2 (λp hp=>by cases hp) (λ_=>rfl) (λhh=>absurd hH hh))
  refine⟨eF key.1,?_⟩;rw [zCf hoi key.1];unfold wpQuiet;rw [if_pos hw];refine⟨v,λw' hw'=> ?_,key.2⟩;unfold Oper.quietAt;rw [hexec,ex_eq,hop,hty];exact hr w' hw' (hC w' hw')
theorem zkc {P:Program} {n:Nat} {ops:Array Oper} {m:Nat} {C:World->Prop} {Q:Act->Prop} {i:Nat} {ge:GEnv} {w:World} {op:Op} {ty:TypeId} {dst:Option Nat} (v:Value)
    (ho:opAt n ops ge i=some (op,ty,dst)) (hr:∀ w',Ext w w'->(ex op ty (rho ge)).run P w'= .ok (.value v) w')
    (h:RegQ P n ops m C Q (i+1) (putG dst v ge) w):RegQ P n ops m C Q i ge w :=
 z3i v ho (λw' _ he=>by rw [hr w' he]; exact⟨rfl,rfl⟩) h
theorem zzj {P:Program} {n:Nat} {ops:Array Oper} {m:Nat} {Q:Act->Prop} {i:Nat} {ge:GEnv} {w:World} {op:Op} {ty:TypeId} {dst:Option Nat} (f:FuncId) (args:Array Value) (v:Value)
    (ho:opAt n ops ge i=some (op,ty,dst)) (hx:∀ ww,(ex op ty (rho ge)).run P ww= .ok (.enter f args) ww)
    (hcall:∀ w',Ext w w'->Calls P f args w' (λe w''=>e= .returned v/\Ext w' w''))
    (h:RegQ P n ops m (Ext w) Q (i+1) (putG dst v ge) w):RegQ P n ops m (Ext w) Q i ge w :=
 z3i v ho (λw' hw he=>by
  rw [hx w'];exact⟨rfl,(hcall w' he).mono λe w'' hh=>⟨hh.1,he.trans hh.2⟩⟩) h
section
variable {P:Program} {n:Nat} {ops:Array Oper} {m:Nat} {C:World->Prop} {Q:Act->Prop} {i:Nat} {ge:GEnv} {w:World} {ty:TypeId} {dst:Option Nat}
theorem z5d {op:Op} (v:Value) (ho:opAt n ops ge i=some (op,ty,dst)) (hr:∀ ww,(ex op ty (rho ge)).run P ww= .ok (.value v) ww)
    (h:RegQ P n ops m C Q (i+1) (putG dst v ge) w):RegQ P n ops m C Q i ge w:=zkc v ho (λ_ _=>hr _) h
theorem zAj {t:TypeId} {a:Operand} {b o:Nat} {v:Value} (ho:opAt n ops ge i=some (.load t a,ty,dst)) (ha:rho ge a= .pointer (some ⟨b,o,none⟩))
    (ht:zVb P t=true) (hc:w.cell? ⟨b,o,none⟩=some v) (h:RegQ P n ops m C Q (i+1) (putG dst v ge) w):RegQ P n ops m C Q i ge w :=
 zkc v ho (λ_ he=>zxf ha ht (he.cell hc)) h
theorem zf.drewN {w:World} {b k:Nat}:∀ {vs:List Value} {o:Nat},zf w b o vs->zf (w.drewN k) b o vs
 | [],_,_=>trivial
 | _::_,_,h=>⟨h.1,zf.drewN h.2⟩
theorem zBj {t:TypeId} {a:Operand} {b o k:Nat} (vs:List Value) (ho:opAt n ops ge i=some (.load t a,ty,dst)) (ha:rho ge a= .pointer (some ⟨b,o,none⟩))
    (ht:aggT P t=true) (hs:zB P t=some k) (hk:vs.length=k) (hc:zf w b o vs) (h:RegQ P n ops m C Q (i+1) (putG dst (.agg vs.toArray) ge) w):RegQ P n ops m C Q i ge w :=
 zkc _ ho (λ_ he=>zyf ha ht hs hk (he.cells hc)) h
theorem zIc {t e:TypeId} {x ix:Operand} {b o l c sz:Nat} {k:IntKind} {j:Int} (ho:opAt n ops ge i=some (.indexAddr t x ix,ty,dst))
    (hx:rho ge x= .slice (some ⟨b,o,none⟩) l c) (hi:rho ge ix= .int k j) (ht:P.underlying t=some (.slice e)) (hs:zB P e=some sz)
    (h0:0<=j) (h1:j<l) (h:RegQ P n ops m C Q (i+1) (putG dst (.pointer (some ⟨b,o+j.toNat*sz,none⟩)) ge) w):RegQ P n ops m C Q i ge w :=
 zkc _ ho (λ_ _=>zpe hx hi ht hs h0 h1) h
theorem zzh {t e:TypeId} {x ix:Operand} {b o l c:Nat} {k:IntKind} {j:Int} (ho:opAt n ops ge i=some (.indexAddr t x ix,ty,dst))
    (hx:rho ge x= .slice (some ⟨b,o,none⟩) l c) (hi:rho ge ix= .int k j) (ht:P.underlying t=some (.slice e)) (hs:zB P e=some 1)
    (h0:0<=j) (h1:j<l) (h:RegQ P n ops m C Q (i+1) (putG dst (.pointer (some ⟨b,o+j.toNat,none⟩)) ge) w):RegQ P n ops m C Q i ge w :=
 zIc ho hx hi ht hs h0 h1 (by simpa using h)
theorem zui {t e:TypeId} {x ix:Operand} {b o len sz:Nat} {k:IntKind} {j:Int} (ho:opAt n ops ge i=some (.indexAddr t x ix,ty,dst))
    (hx:rho ge x= .pointer (some ⟨b,o,none⟩)) (hi:rho ge ix= .int k j) (ht:P.underlying t=some (.array len e)) (hs:zB P e=some sz)
    (h0:0<=j) (h1:j<len) (h:RegQ P n ops m C Q (i+1) (putG dst (.pointer (some ⟨b,o+j.toNat*sz,none⟩)) ge) w):RegQ P n ops m C Q i ge w :=
 zkc _ ho (λ_ _=>zqe hx hi ht hs h0 h1) h
theorem z2c {t e:TypeId} {x ix:Operand} {b o len:Nat} {k:IntKind} {j:Int} (ho:opAt n ops ge i=some (.indexAddr t x ix,ty,dst))
    (hx:rho ge x= .pointer (some ⟨b,o,none⟩)) (hi:rho ge ix= .int k j) (ht:P.underlying t=some (.array len e)) (hs:zB P e=some 1)
    (h0:0<=j) (h1:j<len) (h:RegQ P n ops m C Q (i+1) (putG dst (.pointer (some ⟨b,o+j.toNat,none⟩)) ge) w):RegQ P n ops m C Q i ge w :=
 zui ho hx hi ht hs h0 h1 (by simpa using h)
end
section
variable [Rnd]
section
variable {P:Program} {ge:GEnv} {ty xt yt:TypeId} {x y:Operand}
theorem zPm {k k':IntKind} {a b:Int} {m:Nat} (hx:rho ge x= .int k a) (hy:rho ge y= .int k' b) (hk:k.bits=m) (h0:0<=b) (w:World) :
    (ex (.binOp .shl xt x y yt) ty (rho ge)).run P w= .ok (.value (.int k (k.wrap (a*2 ^ (min b.toNat m))))) w:=by
 subst hk;unfold ex execOp;simp only [hx,hy];simp only [run_bind',eqGuard,binOp,Op.shift];have hb:¬ b<0:=O_;simp [Sem.run,pure,hb]
theorem zQm {k k':IntKind} {a b:Int} {m:Nat} (hx:rho ge x= .int k a) (hy:rho ge y= .int k' b) (hk:k.bits=m) (h0:0<=b) (w:World) :
    (ex (.binOp .shr xt x y yt) ty (rho ge)).run P w= .ok (.value (.int k (Int.fdiv a (2 ^ (min b.toNat m))))) w:=by
 subst hk;unfold ex execOp;simp only [hx,hy];simp only [run_bind',eqGuard,binOp,Op.shift];have hb:¬ b<0:=O_;simp [Sem.run,pure,hb]
theorem zRm {k:IntKind} {a b:Int} (hx:rho ge x= .int k a) (hy:rho ge y= .int k b) (h0:b≠0) (w:World) :
    (ex (.binOp .quo xt x y yt) ty (rho ge)).run P w= .ok (.value (.int k (k.wrap (Int.tdiv a b)))) w:=by
 unfold ex execOp;simp only [hx,hy];simp only [run_bind',eqGuard,binOp,Op.intDiv];simp [Sem.run,pure,h0]
theorem zNg {k:IntKind} {a b:Int} (hx:rho ge x= .int k a) (hy:rho ge y= .int k b) (h0:b≠0) (w:World) :
    (ex (.binOp .rem xt x y yt) ty (rho ge)).run P w= .ok (.value (.int k (Int.tmod a b))) w:=by
 unfold ex execOp;simp only [hx,hy];simp only [run_bind',eqGuard,binOp,Op.intDiv];simp [Sem.run,pure,h0]
end
end
section
variable [Rnd]
def zlc {H:Type} (P:Program) (t:TypeId) (d:DataW H):Prop:=∀ n∈d.weights P t,n<=reachBytes
theorem zDf {H:Type} {P:Program} {ts:List TypeId} {ds:List (DataW H)} (h:(DataW.weightsEach P ts ds).all (·<=reachBytes)=true) {j:Nat} {t:TypeId} {d:DataW H}
    (ht:ts[j]? =some t) (hd:ds[j]? =some d):zlc P t d:=λn hn=>by
 have:=bP.1 h n (DataW.weights_mem_each ht hd n hn);simpa using this
theorem zD {H:Type} {P:Program} {t:TypeId} {fs:Array Field} {xs:List (DataW H×List MemPlace)} (hs:P.underlying t=some (.struct fs)) (h:zlc P t (.agg (xs.map (·.1)))) {i:Nat} {f:Field} {y:DataW H×List MemPlace}
    (hf:fs[i]? =some f) (hy:xs[i]? =some y):zlc P f.type y.1:=λn hn=>by
 refine h n ?_;simp only [DataW.weights,hs];refine DataW.weights_mem_each (ts:=fs.toList.map (·.type)) (j:=i) (t:=f.type) (d:=y.1) ?_ ?_ n hn
 ·rw [aF,fV,hf]; rfl
 ·rw [aF,hy]; rfl
theorem zmc {H:Type} {P:Program} {e:TypeId}:∀ {l:List (DataW H)} {d:DataW H},d∈l->∀ n∈d.weights P e,n∈DataW.weightsAll P e l
 | x::l,d,hd,n,hn=>by
  simp only [DataW.weightsAll,aG];rcases aU.1 hd with rfl | hd
  ·exact .inl hn
  ·exact .inr (zmc hd n hn)
def OkSl (w:World) (s:Slc) (sz by_:Nat) (E:List Value->Prop):Prop :=
 (s.ptr=none/\s.len=0/\s.cap=0) \/
 (s.len<=s.cap/\s.cap<=9223372036854775807/\s.cap*by_<=140737488351232/\∃ a,s.ptr=some a/\∀ i,i<s.cap->∃ es,w.cells? 0 (a.add (i*sz)) sz=some es/\E es)
theorem z1e {H:Type} {enc:TypeId×Value->H} {P:Program} {w:World} {fuel:Nat} {t e:TypeId} {cs:List Value} {y:DataW H×List MemPlace} {sz by_:Nat} {E:List Value->Prop}
    (ht:P.underlying t=some (.slice e)) (hs:P.cellsOf e=sz) (hb:P.bytesOf e=by_) (h:DataW.trod enc P w 0 (λ_=>true) true fuel t cs=some y) (hl:zlc P t y.1)
    (hE:∀(n:Nat) (es:List Value) (z:DataW H×List MemPlace),DataW.trod enc P w 0 (λ_=>true) true n e es=some z->zlc P e z.1->E es) :
    ∃ s:Slc,cs=[.slice s.ptr s.len s.cap]/\OkSl w s sz by_ E:=by
 subst hs;subst hb;rcases DataW.trod_slice ht h with ⟨rfl,_⟩ | ⟨a,len,cap,elems,rest,n,_,rfl,hy,_,hlc,hm,hlen,hel,hsp,_⟩
 ·exact⟨⟨none,0,0⟩,rfl,.inl ⟨rfl,rfl,rfl⟩⟩
 ·obtain⟨hr,hj⟩:=hsp rfl;subst hy
  have hwt:(elems.length+rest.length)*P.bytesOf e<=reachBytes:=by
   have:=hl ((elems.length+rest.length)*P.bytesOf e) (by simp [DataW.weights,ht]);exact this
  have hall:∀ z∈elems++rest,zlc P e z.1:=by
   intro z hz k hk;refine hl k ?_;simp only [DataW.weights,ht,aU,aG];rcases aG.1 hz with hz | hz
   ·exact .inr (.inl (zmc (aQ.2 ⟨z,hz,rfl⟩) k hk))
   ·exact .inr (.inr (zmc (aQ.2 ⟨z,hz,rfl⟩) k hk))
  refine⟨⟨some a,len,cap⟩,rfl,.inr ⟨hlc,hm,?_,a,rfl,λi hi=> ?_⟩⟩
  ·have:elems.length+rest.length=cap:=O_;rw [this] at hwt;exact hwt
  have key:∀ {o:Option (DataW H×List MemPlace)},(w.cells? 0 (a.add (i*P.cellsOf e)) (P.cellsOf e)).bind (DataW.trod enc P w 0 (λ_=>true) true n e)=o->(∃ z,o=some z/\zlc P e z.1) ->
      ∃ es,w.cells? 0 (a.add (i*P.cellsOf e)) (P.cellsOf e)=some es/\E es:=by
   intro o ho hs;subst ho;cases hc:w.cells? 0 (a.add (i*P.cellsOf e)) (P.cellsOf e) with
   | none=>rw [hc] at hs; obtain⟨z,hz,_⟩:=hs; cases hz
   | some es =>
    rw [hc] at hs;simp only [fF] at hs;obtain⟨z,hz,hlz⟩:=hs;exact⟨es,rfl,hE n es z hz hlz⟩
  rcases dB i len with hlt | hge
  ·refine key (hel i hlt) ⟨elems[i]'O_,aA O_,hall _ (bB _ (fZ _))⟩
  ·have:=hj (i - len) (by simp only [Slc.cap] at hi; omega);rw [show len+(i - len)=i from by omega] at this;refine key this ⟨rest[i - len]'(by simp only [Slc.cap] at hi; omega),aA (by simp only [Slc.cap] at hi; omega),hall _ (aH _ (fZ _))⟩
theorem zEf {k:IntKind} {n:Int} (h:(Lit.int k n).wf=true):(match k with
    | .i8=> -128<=n/\n<=127 | .i16=> -32768<=n/\n<=32767 | .i32=> -2147483648<=n/\n<=2147483647 | .i64=> -9223372036854775808<=n/\n<=9223372036854775807
    | .u8=>0<=n/\n<=255 | .u16=>0<=n/\n<=65535 | .u32=>0<=n/\n<=4294967295 | .u64=>0<=n/\n<=18446744073709551615):=by
 cases k <;> simp [Lit.wf,IntKind.min,IntKind.max,IntKind.bits,IntKind.signed] at h ⊢ <;> omega
end
section
variable [Rnd]
def zp (k:Nat) (zs:List Value):Array Value:=(List.replicate k zs).flatten.toArray
theorem zJc (zs:List Value) (k:Nat):((Array.range (k*zs.length)).map (λi=>zs.toArray[i % zs.toArray.size]!))=zp k zs:=by
 apply gN;simp only [Array.toList_map,Array.toList_range,zp]
 induction k with
 | zero=>simp
 | succ k ih =>
  rw [List.replicate_succ',List.flatten_append,<-ih,cR,Nat.one_mul,List.range_add,aR];congr 1;simp only [dR,eG,List.flatten_nil,bZ];apply List.ext_getElem
  ·simp
  ·intro i h1 h2;simp only [List.length_map,gR] at h1;simp only [List.getElem_map,List.getElem_range,Function.comp,List.size_toArray];rw [gM,Nat.add_mul_mod_self_right,cM h1];simp [h1]
def zpd (P:Program) (t:TypeId):Option (List Value):=((P.info? t).bind (·.zero)).map (·.cells.toList)
def zZb (P:Program) (t:TypeId):Option Nat:=(P.info? t).map (·.bytes)
theorem z3b {P:Program} {t:TypeId} {zs:List Value} (h:zpd P t=some zs) (w:World):∃ v,(zeroValue t).run P w= .ok v w/\v.cells=zs.toArray:=by
 unfold zpd at h;cases hi:P.info? t with
 | none=>rw [hi] at h; cases h
 | some i =>
  rw [hi] at h;simp only [fF] at h;cases hz:i.zero with
  | none=>rw [hz] at h; cases h
  | some v =>
   rw [hz] at h;simp only [bY,aC] at h;refine⟨v,?_,by rw [<-h]⟩;simp [zeroValue,typeInfo,program,Sem.run,bind,Sem.bind,hi,hz,pure]
theorem zxb {P:Program} {t:TypeId} {by_:Nat} (h:zZb P t=some by_) (w:World):∃ i,(typeInfo t).run P w= .ok i w/\i.bytes=by_:=by
 unfold zZb at h;cases hi:P.info? t with
 | none=>rw [hi] at h; cases h
 | some i =>
  rw [hi] at h;simp only [bY,aC] at h;exact⟨i,by simp [typeInfo,program,Sem.run,bind,Sem.bind,hi,pure],h⟩
theorem run_askRoom (P:Program) (n:Nat) (w:World):(askRoom n).run P w= .ok () w:=by
 unfold askRoom mark;split <;> rfl
section
variable {P:Program} {n:Nat} {ops:Array Oper} {Q:Exit->Act->World->Prop} {i:Nat} {ge:GEnv} {w:World} {ty:TypeId} {dst:Option Nat}
theorem z6d {t e:TypeId} {lo co:Operand} {l c:Int} {sz by_:Nat} {zs:List Value} (ho:opAt n ops ge i=some (.makeSlice t lo co,ty,dst))
    (hl:rho ge lo= .int .i64 l) (hc:rho ge co= .int .i64 c) (ht:P.underlying t=some (.slice e)) (hs:zB P e=some sz) (hb:zZb P e=some by_) (hz:zpd P e=some zs)
    (hn:zs.length=sz) (hb1:Nat.ble 1 by_=true) (h0:0<=l) (h1:l<=c) (h2:(by_:Int)*c<=281474976710656)
    (h:∀ b w',b=w.heap.size->w'=w.alloc (Obj.cells (zp c.toNat zs) e (0,0))->RegG P n ops Q (i+1) (putG dst (.slice (some ⟨b,0,none⟩) l.toNat c.toNat) ge) w'):RegG P n ops Q i ge w:=by
 refine zlb ho ?_;subst hn;have hby:1<=by_:=aM hb1
 have hcb:c<=281474976710656:=by
  have:1*c<=(by_:Int)*c:=Int.mul_le_mul_of_nonneg_right O_ O_;omega
 have hwl:IntKind.i64.wrap l=l:=IntWalk.i64_in _ O_;have hwc:IntKind.i64.wrap c=c:=IntWalk.i64_in _ O_;obtain⟨v,hv,hvc⟩:=z3b hz w;obtain⟨inf,hinf,hbe⟩:=zxb hb w
 have hr:(ex (.makeSlice t lo co) ty (rho ge)).run P w= .ok (.value (.slice (some ⟨w.heap.size,0,none⟩) l.toNat c.toNat)) (w.alloc (Obj.cells (zp c.toNat zs) e (0,0))):=by
  unfold ex execOp Instr.makeSlice;simp only [hl,hc];simp only [run_bind',zd ht,asInt,asIntOf,pure,Sem.run,hinf,hbe,hwl,hwc]
  have k1:(decide (c<0)||decide ((by_:Int)*c>2 ^ 48))=false:=by
   simp only [cD,decide_eq_false_iff_not];have:(2:Int) ^ 48=281474976710656:=D_;rw [this]; omega
  have k2:¬ ((decide (c<0)||decide ((by_:Int)*c>2 ^ 48))=true\/l<0):=by
   rw [k1]; simp; omega
  simp only [k1,gD,cE,decide_eq_true_eq];rw [if_neg O_];simp only [run_bind',run_askRoom,zR hs];by_cases hz0:c.toNat*zs.length=0
  ·rw [if_pos hz0];simp only [pure,Sem.run,newRow,newObj,run_bind']
   have e1:zp c.toNat zs=#[]:=by
    rw [<-zJc,hz0]; simp
   have e2:∀ f:Nat->Value,Array.map f (Array.range 0)=#[]:=λf=>by simp
   rw [hz0,e1,e2];rfl
  ·rw [if_neg hz0];simp only [run_bind',hv,pure,Sem.run,newRow,newObj,hvc];rw [zJc];rfl
 unfold OpS;rw [hr];exact h _ _ rfl rfl
def Slc.cut (sz:Nat) (s:Slc) (lo hi mx:Int):Slc :=
 ⟨if mx.toNat=lo.toNat then s.ptr else s.ptr.map (·.add (lo.toNat*sz)),hi.toNat - lo.toNat,mx.toNat - lo.toNat⟩
theorem z3 {P:Program} {k:IntKind} {j:Int} {y:Nat} {code:BoundsCode} (h0:0<=j) (h1:j<=y) (w:World):(Instr.sliceBound (.int k j) y code).run P w= .ok j.toNat w:=by
 unfold Instr.sliceBound;simp only [run_bind',asIntOf,pure,Sem.run];rw [if_pos ⟨h0,h1⟩];rfl
theorem zdc {t e:TypeId} {x:Operand} {lo hi mx:Option Operand} {s:Slc} {sz:Nat} {l h m:Nat} (hx:rho ge x= .slice s.ptr s.len s.cap) (ht:P.underlying t=some (.slice e)) (hs:zB P e=some sz)
    (hb:(Instr.sliceBounds true s.len s.cap (lo.map (rho ge)) (hi.map (rho ge)) (mx.map (rho ge))).run P w= .ok (l,h,m) w) :
    (ex (.slice t x lo hi mx) ty (rho ge)).run P w= .ok (.value (.slice (if m=l then s.ptr else s.ptr.map (·.add (l*sz))) (h - l) (m - l))) w:=by
 unfold ex execOp Instr.sliceAt;simp only [hx];simp only [run_bind',zd ht,Instr.slice];simp only [run_bind',zd ht,hb,zR hs,pure,Sem.run]
theorem z7d {t e:TypeId} {x lo:Operand} {s:Slc} {sz:Nat} {k:IntKind} {a:Int} (hx:rho ge x= .slice s.ptr s.len s.cap) (hl:rho ge lo= .int k a) (ht:P.underlying t=some (.slice e)) (hs:zB P e=some sz)
    (hc:0<=a/\a<=((s.len:Nat):Int)/\((s.len:Nat):Int)<=((s.cap:Nat):Int)/\((s.cap:Nat):Int)<=((s.cap:Nat):Int)) :
    (ex (.slice t x (some lo) none none) ty (rho ge)).run P w= .ok (.value (.slice (Slc.cut sz s a s.len s.cap).ptr (Slc.cut sz s a s.len s.cap).len (Slc.cut sz s a s.len s.cap).cap)) w:=by
 rw [zdc (l:=a.toNat) (h:=s.len) (m:=s.cap) hx ht hs]
 ·unfold Slc.cut; simp
 ·simp only [Instr.sliceBounds,bY,gJ,hl,run_bind',pure,Sem.run,z3 hc.1 hc.2.1]
theorem zjg {t e:TypeId} {x lo hi:Operand} {s:Slc} {sz:Nat} {k k':IntKind} {a b:Int} (hx:rho ge x= .slice s.ptr s.len s.cap) (hl:rho ge lo= .int k a) (hh:rho ge hi= .int k' b) (ht:P.underlying t=some (.slice e)) (hs:zB P e=some sz)
    (hc:0<=a/\a<=b/\b<=((s.cap:Nat):Int)/\((s.cap:Nat):Int)<=((s.cap:Nat):Int)) :
    (ex (.slice t x (some lo) (some hi) none) ty (rho ge)).run P w= .ok (.value (.slice (Slc.cut sz s a b s.cap).ptr (Slc.cut sz s a b s.cap).len (Slc.cut sz s a b s.cap).cap)) w:=by
 rw [zdc (l:=a.toNat) (h:=b.toNat) (m:=s.cap) hx ht hs]
 ·unfold Slc.cut; simp
 ·simp only [Instr.sliceBounds,bY,gJ,hl,hh,run_bind',pure,Sem.run,z3 (show 0<=b by omega) hc.2.2.1];rw [z3 hc.1 O_]
theorem zFf {t e:TypeId} {x lo hi mx:Operand} {s:Slc} {sz:Nat} {k k' k'':IntKind} {a b c:Int} (hx:rho ge x= .slice s.ptr s.len s.cap) (hl:rho ge lo= .int k a) (hh:rho ge hi= .int k' b) (hm:rho ge mx= .int k'' c) (ht:P.underlying t=some (.slice e)) (hs:zB P e=some sz)
    (hc:0<=a/\a<=b/\b<=c/\c<=((s.cap:Nat):Int)) :
    (ex (.slice t x (some lo) (some hi) (some mx)) ty (rho ge)).run P w= .ok (.value (.slice (Slc.cut sz s a b c).ptr (Slc.cut sz s a b c).len (Slc.cut sz s a b c).cap)) w:=by
 rw [zdc (l:=a.toNat) (h:=b.toNat) (m:=c.toNat) hx ht hs]
 ·unfold Slc.cut; simp
 ·simp only [Instr.sliceBounds,bY,hl,hh,hm,run_bind',pure,Sem.run,z3 (show 0<=c by omega) hc.2.2.2];rw [z3 (show 0<=b by omega) O_];simp only;rw [z3 hc.1 O_]
theorem zyc {t e:TypeId} {x lo:Operand} {s:Slc} {sz:Nat} {k:IntKind} {a:Int} (ho:opAt n ops ge i=some (.slice t x (some lo) none none,ty,dst))
    (hx:rho ge x= .slice s.ptr s.len s.cap) (hl:rho ge lo= .int k a) (ht:P.underlying t=some (.slice e)) (hs:zB P e=some sz)
    (hc:0<=a/\a<=((s.len:Nat):Int)/\((s.len:Nat):Int)<=((s.cap:Nat):Int)/\((s.cap:Nat):Int)<=((s.cap:Nat):Int))
    (h:∀ r,r=Slc.cut sz s a s.len s.cap->RegG P n ops Q (i+1) (putG dst (.slice r.ptr r.len r.cap) ge) w):RegG P n ops Q i ge w :=
 zlb ho (by unfold OpS; rw [z7d hx hl ht hs hc]; exact h _ rfl)
theorem zCj {t e:TypeId} {x lo hi:Operand} {s:Slc} {sz:Nat} {k k':IntKind} {a b:Int} (ho:opAt n ops ge i=some (.slice t x (some lo) (some hi) none,ty,dst))
    (hx:rho ge x= .slice s.ptr s.len s.cap) (hl:rho ge lo= .int k a) (hh:rho ge hi= .int k' b) (ht:P.underlying t=some (.slice e)) (hs:zB P e=some sz)
    (hc:0<=a/\a<=b/\b<=((s.cap:Nat):Int)/\((s.cap:Nat):Int)<=((s.cap:Nat):Int))
    (h:∀ r,r=Slc.cut sz s a b s.cap->RegG P n ops Q (i+1) (putG dst (.slice r.ptr r.len r.cap) ge) w):RegG P n ops Q i ge w :=
 zlb ho (by unfold OpS; rw [zjg hx hl hh ht hs hc]; exact h _ rfl)
theorem zvi {t e:TypeId} {x lo hi mx:Operand} {s:Slc} {sz:Nat} {k k' k'':IntKind} {a b c:Int} (ho:opAt n ops ge i=some (.slice t x (some lo) (some hi) (some mx),ty,dst))
    (hx:rho ge x= .slice s.ptr s.len s.cap) (hl:rho ge lo= .int k a) (hh:rho ge hi= .int k' b) (hm:rho ge mx= .int k'' c) (ht:P.underlying t=some (.slice e)) (hs:zB P e=some sz)
    (hc:0<=a/\a<=b/\b<=c/\c<=((s.cap:Nat):Int))
    (h:∀ r,r=Slc.cut sz s a b c->RegG P n ops Q (i+1) (putG dst (.slice r.ptr r.len r.cap) ge) w):RegG P n ops Q i ge w :=
 zlb ho (by unfold OpS; rw [zFf hx hl hh hm ht hs hc]; exact h _ rfl)
theorem zAh {t e:TypeId} {x hi:Operand} {p:Option Addr} {l c sz:Nat} {k:IntKind} {j:Int} {m:Nat} {C:World->Prop} {Q:Act->Prop} (ho:opAt n ops ge i=some (.slice t x none (some hi) none,ty,dst))
    (hx:rho ge x= .slice p l c) (hh:rho ge hi= .int k j) (ht:P.underlying t=some (.slice e)) (hs:zB P e=some sz)
    (h0:0<=j) (h1:j<=c) (h:RegQ P n ops m C Q (i+1) (putG dst (.slice p j.toNat c) ge) w):RegQ P n ops m C Q i ge w :=
 zkc _ ho (λ_ _=>by
  rw [zdc (s:=⟨p,l,c⟩) (l:=0) (h:=j.toNat) (m:=c) hx ht hs]
  ·have hadd:p.map (λa=>a.add 0)=p:=by cases p <;> simp [Addr.add]
   simp [hadd]
  ·simp only [Instr.sliceBounds,bY,gJ,hh,run_bind',pure,Sem.run,z3 h0 h1]) h
def zsb (w:World) (x:Slc) (k sz:Nat) (src:List Value):Prop :=
 src.length=k*sz/\(src=[]\/(IsAt x.ptr/\zf w (pblk x.ptr) (poff x.ptr) src))
def zj (w:World) (x:Slc) (sz:Nat) (src:List Value):Prop:=zsb w x x.len sz src
def srcT (P:Program) (t:TypeId):Bool:=match P.underlying t with | some (.slice _) | some .string=>true | _=>false
def zG (sz by_:Nat) (e:TypeId) (zs:List Value) (s:Slc) (src:List Value) (k:Nat) (w:World) (K:Slc->World->Prop):Prop :=
 (s.len+k<=s.cap->(src=[]/\K ⟨s.ptr,s.len+k,s.cap⟩ w) \/
  (IsAt s.ptr/\zr w (pblk s.ptr) (poff s.ptr+s.len*sz) src.length/\zv src=true/\∀ w',w'=World.puts (pblk s.ptr) (poff s.ptr+s.len*sz) src w->K ⟨s.ptr,s.len+k,s.cap⟩ w')) /\
 (s.cap<s.len+k->Builtin.nextslicecap (s.len+k) s.cap*by_<=281474976710656/\∃ old,zj w s sz old/\∀ cap b w',s.len+k<=cap->cap<9223372036854775808->b=w.heap.size ->
  w'=(w.drew).alloc (Obj.cells (old++src++(zp (cap - (s.len+k)) zs).toList).toArray e (0,0))->K ⟨some ⟨b,0,none⟩,s.len+k,cap⟩ w')
theorem zG.mono {sz by_:Nat} {e:TypeId} {zs:List Value} {s:Slc} {src:List Value} {k:Nat} {w:World} {K K':Slc->World->Prop} (h:zG sz by_ e zs s src k w K)
    (hk:∀ r w',K r w'->K' r w'):zG sz by_ e zs s src k w K':=by
 refine⟨λhc=> ?_,λhc=> ?_⟩
 ·rcases h.1 hc with ⟨h1,h2⟩ | ⟨h1,h2,h3,h4⟩
  ·exact .inl ⟨h1,hk _ _ h2⟩
  ·exact .inr ⟨h1,h2,h3,λw' hw=>hk _ _ (h4 w' hw)⟩
 ·obtain⟨h1,old,h2,h3⟩:=h.2 hc;exact⟨h1,old,h2,λcap b w' ha hb hc hd=>hk _ _ (h3 cap b w' ha hb hc hd)⟩
theorem z4 {P:Program} {w:World} {x:Slc} {k sz:Nat} {src:List Value} (h:zsb w x k sz src):(Builtin.firstCells sz k (.slice x.ptr x.len x.cap)).run P w= .ok src.toArray w:=by
 obtain⟨hl,rfl | ⟨hp,hc⟩⟩:=h
 ·cases hp:x.ptr with
  | none=>simp [Builtin.firstCells,pure,Sem.run]
  | some a =>
   simp only [eC] at hl;simp only [Builtin.firstCells,<-hl];simp [loadCells,loadCellsFrom,pure,Sem.run]
 ·rw [hp];simp only [Builtin.firstCells];exact z2b hc hl
theorem zeroCells_eq (zs:List Value) (k:Nat):Builtin.zeroCells zs.toArray k=zp k zs:=by
 unfold Builtin.zeroCells;rw [<-zJc];simp
theorem zre {t tx e:TypeId} {a x:Operand} {s:Slc} {sz by_ k:Nat} {zs src:List Value} {xv:Value} {K:Value->World->Prop}
    (hs:rho ge a= .slice s.ptr s.len s.cap) (hx:rho ge x=xv) (ht:P.underlying t=some (.slice e)) (hsz:zB P e=some sz) (hb:zZb P e=some by_) (hz:zpd P e=some zs)
    (hb1:Nat.ble 1 by_=true) (hmk:srcT P tx=true)
    (hlen:∀ w,(Builtin.lenOf xv).run P w= .ok k w) (hsrc:(Builtin.firstCells sz k xv).run P w= .ok src.toArray w) (hsrc':(Builtin.firstCells sz k xv).run P (w.drew)= .ok src.toArray (w.drew))
    (h:zG sz by_ e zs s src k w (λr w'=>K (.slice r.ptr r.len r.cap) w')) :
    OpS P (.call { callee:= .builtin .append,args:=#[a,x],argTypes:=#[t,tx] }) ty (rho ge) w K:=by
 have hby:1<=by_:=aM hb1
 obtain⟨dx,hdx,hdx2⟩:∃ d,P.underlying tx=some d/\((∃ e',d= .slice e')\/d= .string):=by
  unfold srcT at hmk;cases hu:P.underlying tx with
  | none=>rw [hu] at hmk; cases hmk
  | some d =>
   rw [hu] at hmk;refine⟨d,rfl,?_⟩;cases d <;> first | (cases hmk; done) | exact .inl ⟨_,rfl⟩ | exact .inr rfl
 unfold OpS
 have hex:ex (.call { callee:= .builtin .append,args:=#[a,x],argTypes:=#[t,tx] }) ty (rho ge) =
     (do pure (.value (<-Builtin.append_ #[t,tx] ty #[.slice s.ptr s.len s.cap,xv])):Sem Next):=by
  unfold ex execOp;simp [Go.resolve,Go.invoke,Go.builtin,hs,hx,bind,Sem.bind,pure]
 rw [hex,run_bind'];unfold Builtin.append_;simp only [fW,cA,cB]
 have hnint:∀(α:Type) (u v:α),(match dx with | TypeDesc.int _=>u | _=>v)=v:=by
  intro α u v;rcases hdx2 with ⟨e',rfl⟩ | rfl <;> rfl
 rcases hdx2 with ⟨e',rfl⟩ | rfl
 all_goals
 simp only [run_bind',zd ht,zR hsz,zd hdx,pure,Sem.run,bW,if_false,hlen,Bool.not_false,if_true];by_cases hfit:s.len+k<=s.cap
 ·rw [if_pos hfit];simp only [run_bind',hsrc];rcases h.1 hfit with ⟨he,hK⟩ | ⟨hp,hw,h1,hK⟩
  ·subst he;cases hp:s.ptr with
   | none=>rw [hp] at hK; simp only [pure,Sem.run]; exact hK
   | some a=>rw [hp] at hK; simp only [storeCells,pure,Sem.run,run_bind']; exact hK
  ·have hK:=hK _ rfl;have hp':s.ptr=some ⟨pblk s.ptr,poff s.ptr,none⟩:=hp;clear hp;generalize pblk s.ptr=pb at *
   generalize poff s.ptr=po at *
   rw [hp'] at hK ⊢;simp only [run_bind',addr_add];have:=zrb (P:=P) (b:=pb) (o:=po+s.len*sz) src 0 w (by simpa using hw) h1;rw [this];simp only [pure,Sem.run];exact hK
 ·rw [if_neg hfit];obtain⟨hcap,old,hold,hK⟩:=h.2 O_;obtain⟨inf,hinf,hbe⟩:=zxb hb w;obtain⟨v,hv,hvc⟩:=z3b hz (w.drew)
  have hold':zsb (w.drew) s s.len sz old:=by
   obtain⟨h1,h2⟩:=hold;exact⟨h1,h2.imp id (λ⟨h3,h4⟩=>⟨h3,(zf.drewN (k:=1) h4)⟩)⟩
  simp only [run_bind',hinf,hbe]
  have k1:¬ (((s.len+k:Nat):Int)>IntKind.i64.max/\(False\/by_=0)):=by
   intro hh;rcases hh.2 with h3 | h3
   ·exact h3
   ·omega
  rw [if_neg k1];simp only [run_bind',pure,Sem.run]
  have k2:¬ (Builtin.nextslicecap (s.len+k) s.cap*by_>2 ^ 48):=by
   have:(2:Nat) ^ 48=281474976710656:=D_;omega
  rw [hinf];simp only [hbe];rw [if_neg k2];simp only [choose,Sem.run,Question.forced,bW,if_false,run_bind'];have hd:({ heap:=w.heap,tape:=w.tape,drawn:=w.drawn+1,os:=w.os,output:=w.output }:World)=w.drew:=rfl;rw [hd];generalize hcv:Question.cut (.appendCap (s.len+k) s.cap e) (w.tape w.drawn (.appendCap (s.len+k) s.cap e))=cap
  have hc1:s.len+k<=cap/\cap<9223372036854775808\/9223372036854775808<=s.len+k:=by
   rw [<-hcv];simp only [Question.cut];rcases dB (s.len+k) 9223372036854775808 with h9 | h9
   ·left;have:(2:Nat) ^ 63=9223372036854775808:=D_;rw [this];have:=eQ (w.tape w.drawn (.appendCap (s.len+k) s.cap e)) (show 0<9223372036854775808 - (s.len+k) by omega);omega
   ·exact .inr h9
  obtain⟨inf2,hinf2,hbe2⟩:=zxb hb (w.drew);rw [hinf2];simp only [run_askRoom];rw [z4 hold'];simp only [hsrc',hv,hvc,zeroCells_eq,newRow,newObj,run_bind',pure,Sem.run];have hle:=le_nextslicecap (show s.cap<s.len+k by omega)
  have hnc:s.len+k<9223372036854775808:=by
   have:Builtin.nextslicecap (s.len+k) s.cap*1<=Builtin.nextslicecap (s.len+k) s.cap*by_:=gK _ hby;omega
  rcases hc1 with ⟨ha,hb'⟩ | hb'
  ·have:=hK cap w.heap.size _ ha hb' rfl rfl;have e1:(w.drew).heap.size=w.heap.size:=rfl;rw [e1]
   have e2:(old.toArray++src.toArray++zp (cap - (s.len+k)) zs)=(old++src++(zp (cap - (s.len+k)) zs).toList).toArray:=by
    apply gN; simp
   rw [e2];exact this
  ·omega
theorem zkg {t tx e:TypeId} {a xo:Operand} {s x:Slc} {sz by_:Nat} {zs:List Value} (src:List Value)
    (ho:opAt n ops ge i=some (.call { callee:= .builtin .append,args:=#[a,xo],argTypes:=#[t,tx] },ty,dst))
    (hs:rho ge a= .slice s.ptr s.len s.cap) (hx:rho ge xo= .slice x.ptr x.len x.cap) (ht:P.underlying t=some (.slice e)) (hsz:zB P e=some sz) (hb:zZb P e=some by_) (hz:zpd P e=some zs)
    (hb1:Nat.ble 1 by_=true) (hmk:srcT P tx=true)
    (hsrc:zj w x sz src) (h:zG sz by_ e zs s src x.len w (λr w'=>RegG P n ops Q (i+1) (putG dst (.slice r.ptr r.len r.cap) ge) w')):RegG P n ops Q i ge w :=
 zlb ho (zre hs hx ht hsz hb hz hb1 hmk (λw=>rfl) (z4 hsrc)
  (z4 (w:=w.drew) ⟨hsrc.1,hsrc.2.imp id (λ⟨h3,h4⟩=>⟨h3,(zf.drewN (k:=1) h4)⟩)⟩) h)
def z6 (s:ByteArray):List Value:=s.data.toList.map λb=> .int .u8 b.toNat
theorem zOg {t tx e:TypeId} {a xo:Operand} {s:Slc} {str:ByteArray} {by_:Nat} {zs:List Value}
    (ho:opAt n ops ge i=some (.call { callee:= .builtin .append,args:=#[a,xo],argTypes:=#[t,tx] },ty,dst))
    (hs:rho ge a= .slice s.ptr s.len s.cap) (hx:rho ge xo= .string str) (ht:P.underlying t=some (.slice e)) (hsz:zB P e=some 1) (hb:zZb P e=some by_) (hz:zpd P e=some zs)
    (hb1:Nat.ble 1 by_=true) (hmk:srcT P tx=true)
    (h:zG 1 by_ e zs s (z6 str) str.size w (λr w'=>RegG P n ops Q (i+1) (putG dst (.slice r.ptr r.len r.cap) ge) w')):RegG P n ops Q i ge w:=by
 have key:∀ w:World,(Builtin.firstCells 1 str.size (.string str)).run P w= .ok (z6 str).toArray w:=by
  intro w;have e1:str.extract 0 str.size=str:=by simp
  simp only [Builtin.firstCells,e1,pure,Sem.run,z6];congr 1;apply gN;simp
 exact zlb ho (zre hs hx ht hsz hb hz hb1 hmk (λw=>rfl) (key w) (key _) h)
def zRc (d:Slc) (src:List Value) (w:World) (K:World->Prop):Prop :=
 (src=[]/\K w)\/(IsAt d.ptr/\zr w (pblk d.ptr) (poff d.ptr) src.length/\zv src=true/\∀ w',w'=World.puts (pblk d.ptr) (poff d.ptr) src w->K w')
theorem zRc.mono {d:Slc} {src:List Value} {w:World} {K K':World->Prop} (h:zRc d src w K) (hk:∀ w',K w'->K' w'):zRc d src w K':=by
 rcases h with ⟨h1,h2⟩ | ⟨h1,h2,h3,h4⟩
 ·exact .inl ⟨h1,hk _ h2⟩
 ·exact .inr ⟨h1,h2,h3,λw' hw=>hk _ (h4 w' hw)⟩
theorem zjd {t tx e:TypeId} {a xo:Operand} {d x:Slc} {sz:Nat} (src:List Value)
    (ho:opAt n ops ge i=some (.call { callee:= .builtin .copy,args:=#[a,xo],argTypes:=#[t,tx] },ty,dst))
    (hd:rho ge a= .slice d.ptr d.len d.cap) (hx:rho ge xo= .slice x.ptr x.len x.cap) (ht:P.underlying t=some (.slice e)) (hsz:zB P e=some sz)
    (hsrc:zsb w x (min x.len d.len) sz src) (h:zRc d src w (λw'=>RegG P n ops Q (i+1) (putG dst (.int .i64 ((min x.len d.len:Nat):Int)) ge) w')):RegG P n ops Q i ge w:=by
 refine zlb ho ?_;unfold OpS
 have hex:ex (.call { callee:= .builtin .copy,args:=#[a,xo],argTypes:=#[t,tx] }) ty (rho ge) =
     (do pure (.value (<-Builtin.copy_ #[t,tx] ty #[.slice d.ptr d.len d.cap,.slice x.ptr x.len x.cap])):Sem Next):=by
  unfold ex execOp;simp [Go.resolve,Go.invoke,Go.builtin,hd,hx,bind,Sem.bind,pure]
 rw [hex,run_bind'];unfold Builtin.copy_;simp only [fW,cA,cB];have hmin:Nat.min x.len d.len=min x.len d.len:=rfl;simp only [run_bind',zd ht,zR hsz,pure,Sem.run,Builtin.lenOf,hmin,z4 hsrc];rcases h with ⟨he,hK⟩ | ⟨hp,hw,h1,hK⟩
 ·subst he;cases hp:d.ptr with
  | none=>simp only [Sem.run,goInt]; exact hK
  | some a=>simp only [storeCells,pure,Sem.run,run_bind',goInt]; exact hK
 ·have hK:=hK _ rfl;have hp':d.ptr=some ⟨pblk d.ptr,poff d.ptr,none⟩:=hp;clear hp;generalize pblk d.ptr=pb at *
  generalize poff d.ptr=po at *
  rw [hp'];have:=zrb (P:=P) (b:=pb) (o:=po) src 0 w (by simpa using hw) h1;simp only [run_bind',this,Sem.run,goInt];exact hK
def zDe (P:Program) (t:TypeId):Bool:=match P.underlying t with | some (.pointer _)=>true | _=>false
def z8d (P:Program) (t:TypeId):Bool:=match P.underlying t with | some (.slice _)=>true | _=>false
def zBh (P:Program) (t:TypeId):Bool:=match P.underlying t with | some (.map ..)=>true | _=>false
end
section
variable {P:Program} {ge:GEnv} {ty xt yt:TypeId} {x y:Operand}
theorem zKc {op:BinOp} {r:Value} {w:World} (h1:(eqGuard op xt x y (rho ge x) (rho ge y)).run P w= .ok () w) (h2:(binOp op xt (rho ge x) (rho ge y)).run P w= .ok r w) :
    (ex (.binOp op xt x y yt) ty (rho ge)).run P w= .ok (.value r) w:=by
 unfold ex execOp;simp only [run_bind',h1,h2,pure,Sem.run]
theorem zGf (h:zDe P xt=true):∃ e,∀ w,(underlying xt).run P w= .ok (.pointer e) w:=by
 unfold zDe at h;cases hu:P.underlying xt with
 | none=>rw [hu] at h; cases h
 | some d=>rw [hu] at h; cases d <;> first | (cases h; done) | exact⟨_,zd hu⟩
theorem zPg (h:z8d P xt=true):∃ e,∀ w,(underlying xt).run P w= .ok (.slice e) w:=by
 unfold z8d at h;cases hu:P.underlying xt with
 | none=>rw [hu] at h; cases h
 | some d=>rw [hu] at h; cases d <;> first | (cases h; done) | exact⟨_,zd hu⟩
theorem zwi (h:zBh P xt=true):∃ d:TypeId×TypeId,∀ w,(underlying xt).run P w= .ok (.map d.1 d.2) w:=by
 unfold zBh at h;cases hu:P.underlying xt with
 | none=>rw [hu] at h; cases h
 | some d=>rw [hu] at h; cases d <;> first | (cases h; done) | exact⟨(_,_),zd hu⟩
theorem zeb {p:Option Addr} (hx:rho ge x= .pointer p) (hy:rho ge y= .pointer none) (ht:zDe P xt=true) (w:World) :
    (ex (.binOp .eql xt x y yt) ty (rho ge)).run P w= .ok (.value (.bool p.isNone)) w:=by
 obtain⟨d,hu⟩:=zGf ht
 have he:(Op.equal xt (.pointer p) (.pointer none)).run P w= .ok p.isNone w:=by
  show(Op.equalIn (9999+1) xt (.pointer p) (.pointer none)).run P w=_;unfold Op.equalIn;rw [run_bind',hu];cases p <;> rfl
 refine zKc (by rw [hx,hy]; rfl) ?_;rw [hx,hy];show(Op.equal xt (.pointer p) (.pointer none) >>= λr=>pure (Value.bool (r))).run P w=_;rw [run_bind',he];rfl
theorem z9d {p:Option Addr} (hx:rho ge x= .pointer p) (hy:rho ge y= .pointer none) (ht:zDe P xt=true) (w:World) :
    (ex (.binOp .neq xt x y yt) ty (rho ge)).run P w= .ok (.value (.bool (!p.isNone))) w:=by
 obtain⟨d,hu⟩:=zGf ht
 have he:(Op.equal xt (.pointer p) (.pointer none)).run P w= .ok p.isNone w:=by
  show(Op.equalIn (9999+1) xt (.pointer p) (.pointer none)).run P w=_;unfold Op.equalIn;rw [run_bind',hu];cases p <;> rfl
 refine zKc (by rw [hx,hy]; rfl) ?_;rw [hx,hy];show(Op.equal xt (.pointer p) (.pointer none) >>= λr=>pure (Value.bool (!r))).run P w=_;rw [run_bind',he];rfl
theorem zHf {p:Option Addr} {l c:Nat} (hx:rho ge x= .slice p l c) (hy:rho ge y= .slice none 0 0) (ht:z8d P xt=true) (w:World) :
    (ex (.binOp .eql xt x y yt) ty (rho ge)).run P w= .ok (.value (.bool p.isNone)) w:=by
 obtain⟨d,hu⟩:=zPg ht
 have he:(Op.equal xt (.slice p l c) (.slice none 0 0)).run P w= .ok p.isNone w:=by
  show(Op.equalIn (9999+1) xt (.slice p l c) (.slice none 0 0)).run P w=_;unfold Op.equalIn;rw [run_bind',hu];cases p <;> rfl
 refine zKc (by rw [hx,hy]; rfl) ?_;rw [hx,hy];show(Op.equal xt (.slice p l c) (.slice none 0 0) >>= λr=>pure (Value.bool (r))).run P w=_;rw [run_bind',he];rfl
theorem zQg {p:Option Nat} (hx:rho ge x= .map p) (hy:rho ge y= .map none) (ht:zBh P xt=true) (w:World) :
    (ex (.binOp .eql xt x y yt) ty (rho ge)).run P w= .ok (.value (.bool p.isNone)) w:=by
 obtain⟨d,hu⟩:=zwi ht
 have he:(Op.equal xt (.map p) (.map none)).run P w= .ok p.isNone w:=by
  show(Op.equalIn (9999+1) xt (.map p) (.map none)).run P w=_;unfold Op.equalIn;rw [run_bind',hu];cases p <;> rfl
 refine zKc (by rw [hx,hy]; rfl) ?_;rw [hx,hy];show(Op.equal xt (.map p) (.map none) >>= λr=>pure (Value.bool (r))).run P w=_;rw [run_bind',he];rfl
end
section
variable {P:Program} {n:Nat} {ops:Array Oper} {i:Nat} {ge:GEnv} {w:World} {ty:TypeId} {dst:Option Nat}
theorem zCh {α:Type} {t e:TypeId} {x ix:Operand} {k:IntKind} {j:Int} {len:Nat} {f:α->Value} {l:List α} {z:α}
    (hx:rho ge x= .agg (l.map f).toArray) (hi:rho ge ix= .int k j) (ht:P.underlying t=some (.array len e)) (hs:zB P e=some 1) (hp:zVb P e=true) (hl:l.length=len)
    (h0:0<=j) (h1:j<(len:Int)):(ex (.index t x ix) ty (rho ge)).run P w= .ok (.value (f (l.getD j.toNat z))) w:=by
 subst hl;have hj:j.toNat<l.length:=O_;unfold ex execOp Instr.index;simp only [hx,hi];simp only [run_bind',asIntOf,zd ht,Sem.run,pure];rw [if_pos ⟨h0,h1⟩];simp only [run_bind',zR hs,part,zDb hp,aW,Sem.run,pure];simp [hj,Sem.run,pure]
end
section
variable {P:Program} {n:Nat} {ops:Array Oper} {i:Nat} {ge:GEnv} {w:World} {ty:TypeId} {dst:Option Nat}
end
end
def zSc (ops:Array Oper) (i j:Nat):Bool:=match ops[i]? with
 | some o=>o.after.any λe=>Region.binds .any e&&Nat.beq e.on j
 | none=>false
def canB (ops:Array Oper) (L:List Nat) (i:Nat):Bool:=match ops[i]? with
 | some o=> !L.contains i&&o.after.all λe=> !Region.binds .any e||L.contains e.on
 | none=>false
def zae (ops:Array Oper) (L:List Nat) (e:Nat):Bool:=(List.range ops.size).all λj=>Nat.beq j e|| !canB ops L j
def mixB (ops:Array Oper):Bool :=
 Region.noSelect ops&&(List.range ops.size).all λi=>(match ops[i]? with
  | none=>true
  | some o=>(o.after.all λe=> !Region.binds .any e||Nat.blt e.on i)&&(List.range ops.size).all λj=>Nat.beq i j||(match (ops[j]?).bind (·.dst) with
   | none=>true
   | some d=>(o.dst != some d)&&(!(o.looksAt ops).contains d||zSc ops i j||zSc ops j i)))
def z3c (ops:Array Oper) (L:List Nat):List Nat->Bool
 | []=>true
 | i::r=>canB ops L i&&z3c ops (L++[i]) r
def zIf (ops:Array Oper) (π:List Nat):Bool:=z3c ops [] π
def zzc (ops:Array Oper) (e:Nat):List Nat->List Nat->Bool
 | _,[]=>true
 | seen,p::r=>(zSc ops e p||seen.any λq=>zSc ops q p)&&zzc ops e (p::seen) r
abbrev Pds:=List (Nat×(World->Prop))
def zgb:Pds->World->Prop
 | [],_=>True
 | p::r,w=>p.2 w/\zgb r w
theorem zgb.mem {w:World}:∀ {l:Pds},zgb l w->∀ p∈l,p.2 w
 | _::_,h,p,hp=>by
  rcases aU.1 hp with rfl | hp
  ·exact h.1
  ·exact zgb.mem h.2 p hp
def zib (D:List Nat) (pd:Pds):Pds:=pd.filter λp=> !D.contains p.1
theorem zDh {ops:Array Oper} (h:mixB ops=true) {i:Nat} {o:Oper} (hi:ops[i]? =some o):∀ e∈o.after,Region.binds .any e=true->e.on<i:=by
 simp only [mixB,aD] at h;have h1:=bP.1 h.2 i (dC.2 (getElem?_lt hi));simp only [hi,aD] at h1;intro e he hb;have h2:=eH.1 h1.1 e he;simpa [hb,fY] using h2
theorem zbe {ops:Array Oper} (h:mixB ops=true) {i j d:Nat} {o:Oper} (hi:ops[i]? =some o) (hj:(ops[j]?).bind (·.dst)=some d) (hne:i≠j) :
    o.dst≠some d/\(d∈o.looksAt ops->zSc ops i j=true\/zSc ops j i=true):=by
 simp only [mixB,aD] at h;have h1:=bP.1 h.2 i (dC.2 (getElem?_lt hi));simp only [hi,aD] at h1
 have hjl:j<ops.size:=by
  cases hj':ops[j]? with
  | none=>rw [hj'] at hj; cases hj
  | some x=>exact getElem?_lt hj'
 have h2:=bP.1 h1.2 j (dC.2 hjl);simp only [hj,cE] at h2;have h2:=h2.resolve_left (by simpa using hne);simp only [aD,bne_iff_ne,cE,dO,ne_eq] at h2;refine⟨h2.1,λhd=> ?_⟩;rcases h2.2 with (h3 | h3) | h3
 ·have:(o.looksAt ops).contains d=true:=by simpa using hd
  rw [this] at h3; cases h3
 ·exact .inl h3
 ·exact .inr h3
theorem znb {ops:Array Oper} (h:mixB ops=true) {i j d:Nat} (hi:(ops[i]?).bind (·.dst)=some d) (hj:(ops[j]?).bind (·.dst)=some d):i=j:=by
 by_cases hne:i=j
 ·exact hne
 ·cases hi':ops[i]? with
  | none=>rw [hi'] at hi; cases hi
  | some o =>
   rw [hi'] at hi;exact absurd hi (zbe h hi' hj hne).1
theorem zlg {ops:Array Oper} (h:mixB ops=true) {i:Nat} {o:Oper} (hi:ops[i]? =some o):∀ cs b,o.op≠ .select cs b:=by
 simp only [mixB,aD] at h;exact λcs b=>Region.noSelect_spec h.1 i o cs b hi
theorem zJb {ops:Array Oper} {i j:Nat} (h:zSc ops i j=true):∃ o,ops[i]? =some o/\∃ e∈o.after,Region.binds .any e=true/\e.on=j:=by
 unfold zSc at h;split at h
 ·rename_i o ho
  obtain⟨e,he,hb⟩:=Array.any_eq_true'.1 h;simp only [aD] at hb;exact⟨o,ho,e,he,hb.1,bH hb.2⟩
 ·cases h
theorem zJf {ops:Array Oper} {L:List Nat} {i:Nat} (h:canB ops L i=true):i∉L/\∃ o,ops[i]? =some o/\∀ e∈o.after,Region.binds .any e=true->e.on∈L:=by
 unfold canB at h;split at h
 ·rename_i o ho
  simp only [aD,dO] at h;refine⟨by simpa using h.1,o,ho,λe he hb=> ?_⟩;have:=eH.1 h.2 e he;simpa [hb] using this
 ·cases h
theorem zKf {ops:Array Oper} {o:Oper} (hsel:∀ cs b,o.op≠ .select cs b) {t t':Array Value} (h:∀ s∈o.looksAt ops,t.getD s undef=t'.getD s undef) :
    execOp (Act.eval ⟨t,[]⟩) o=execOp (Act.eval ⟨t',[]⟩) o/\Region.wanted o (yielded ops t)=Region.wanted o (yielded ops t'):=by
 refine⟨execOp_congr o hsel λx hx=> ?_,?_⟩
 ·cases x with
  | tmp s =>
   refine h s (bB _ (List.mem_filterMap.2 ⟨.tmp s,by simpa using hx,rfl⟩))
  | const u=>rfl
  | global g=>rfl
  | func f=>rfl
 ·unfold Region.wanted;cases hg:o.guard with
  | none=>rfl
  | some jw =>
   obtain⟨j,want⟩:=jw;simp only;cases hs:(ops[j]?).bind (·.dst) with
   | none=>simp [yielded,hs]
   | some s =>
    have he:=h s (aH _ (by simp [hg,hs]))
    have:yielded ops t j=yielded ops t' j:=by
     cases h1:yielded ops t j with
     | some b=>exact((zcb hs b).2 (he ▸ (zcb hs b).1 h1)).symm
     | none =>
      cases h2:yielded ops t' j with
      | none=>rfl
      | some b=>rw [(zcb hs b).2 (he.trans ((zcb hs b).1 h2))] at h1; cases h1
    rw [this]
structure MSt (P:Program) (n:Nat) (ops:Array Oper) (L:List Nat) (pd:Pds) (t0 tv:Array Value) (listed:Array Bool) (t:Array Value):Prop where
 stat:mixB ops=true
 lclosed:∀ i∈L,∀ o,ops[i]? =some o->∀ e∈o.after,Region.binds .any e=true->e.on∈L
 same:∀ s,(∀ j∈L,(ops[j]?).bind (·.dst)≠some s)->tv.getD s undef=t0.getD s undef
 size:listed.size=ops.size
 sub:∀ i,listed.getD i false=true->i∈L
 closed:∀ j oj,ops[j]? =some oj->listed.getD j false=true->∀ e∈oj.after,Region.binds .any e=true->listed.getD e.on false=true
 tsize:t.size=n
 vsize:tv.size=n
 agree1:∀ s j,listed.getD j false=true->(ops[j]?).bind (·.dst)=some s->t.getD s undef=tv.getD s undef
 agree0:∀ s,(∀ j,listed.getD j false=true->(ops[j]?).bind (·.dst)≠some s)->t.getD s undef=t0.getD s undef
 pend:∀ i∈L,listed.getD i false=false->∃ o v tvi C,ops[i]? =some o/\((i,C)∈pd\/C=λ_=>True)/\YieldsIf P ops C o v ⟨tvi,[]⟩/\(∀ d,o.dst=some d->tv.getD d undef=v/\d<n) /\
  ∀ s∈o.looksAt ops,(∀ j,zSc ops i j=true->(ops[j]?).bind (·.dst)=some s->tvi.getD s undef=tv.getD s undef) /\
   ((∀ j,zSc ops i j=true->(ops[j]?).bind (·.dst)≠some s)->tvi.getD s undef=t0.getD s undef)
theorem zP {t:Array Value} {dst:Option Nat} {v:Value} {s:Nat} (h:dst≠some s):(Act.put ⟨t,[]⟩ dst v).tmps.getD s undef=t.getD s undef:=by
 cases dst with
 | none=>rfl
 | some d =>
  show(t.setIfInBounds d v).getD s undef=_;rw [bA,bA,cP (λe=>h (by rw [e]))]
theorem zLc {t:Array Value} {v:Value} {s:Nat} (h:s<t.size):(Act.put ⟨t,[]⟩ (some s) v).tmps.getD s undef=v:=by
 show(t.setIfInBounds s v).getD s undef=_;rw [bA,bS h]; rfl
theorem z2e {t:Array Value} {dst:Option Nat} {v:Value}:(Act.put ⟨t,[]⟩ dst v).tmps.size=t.size:=by
 cases dst with
 | none=>rfl
 | some d=>show(t.setIfInBounds d v).size=_; simp
theorem zam {t:Array Value} {dst:Option Nat} {v:Value}:Act.put ⟨t,[]⟩ dst v=⟨(Act.put ⟨t,[]⟩ dst v).tmps,[]⟩:=by
 cases dst <;> rfl
def unl (ops:Array Oper) (listed:Array Bool):Nat:=((List.range ops.size).filter λi=> !listed.getD i true).length
theorem zLf {ops:Array Oper} {listed:Array Bool} {i:Nat} (hi:i<ops.size) (hl:listed.getD i true=false):unl ops (listed.setIfInBounds i true)<unl ops listed:=by
 unfold unl
 have hle:((List.range ops.size).filter λk=> !(listed.setIfInBounds i true).getD k true)=((List.range ops.size).filter λk=> !listed.getD k true).filter λk=>k != i:=by
  rw [List.filter_filter];refine gT λk hk=> ?_;by_cases hki:i=k
  ·subst hki
   have:(listed.setIfInBounds i true).getD i true=true:=by
    rw [bA];by_cases hs:i<listed.size
    ·rw [bS hs]; rfl
    ·rw [dQ (by simp; omega)]; rfl
   rw [this]; simp
  ·rw [getD_set_ne true hki];have:(k != i)=true:=by simpa using λh=>hki h.symm
   rw [this]; simp
 rw [hle,List.length_filter_lt_length_iff_exists];exact⟨i,bR.2 ⟨dC.2 hi,by rw [hl]; rfl⟩,by simp⟩
theorem zEe {ops:Array Oper} {listed:Array Bool} (hs:mixB ops=true) (hsz:listed.size=ops.size):∀ i,i<ops.size->listed.getD i false=false->Region.ready .any ops listed≠[]:=by
 intro i
 induction i using Nat.strongRecOn with
 | _ i ih =>
  intro hi hu hr;have ho:ops[i]? =some ops[i]:=fJ hi;by_cases h:∃ e∈(ops[i]).after,Region.binds .any e=true/\listed.getD e.on false=false
  ·obtain⟨e,he,hb,hf⟩:=h;have hlt:=zDh hs ho e he hb;exact ih e.on hlt O_ hf hr
  ·have:i∈Region.ready .any ops listed:=mem_ready.2 ⟨getD_in O_ hu,_,ho,λe he hb=>by
     cases hx:listed.getD e.on false with
     | true=>rfl
     | false=>exact absurd ⟨e,he,hb,hx⟩ h⟩
   rw [hr] at this; cases this
section
variable {P:Program} {n:Nat} {ops:Array Oper} {Q:Exit->Act->World->Prop}
theorem MSt.real {L:List Nat} {pd:Pds} {t0 tv:Array Value} {listed:Array Bool} {t:Array Value} {w:World} (m:MSt P n ops L pd t0 tv listed t) (hw:zgb pd w) {j:Nat}
    (hr:j∈Region.ready .any ops listed) (hj:j∈L) :
    ∃ t',(∀ K:Act->World->Prop,K ⟨t',[]⟩ w->wpOp P ops Q j K ⟨t,[]⟩ w)/\MSt P n ops L pd t0 tv (listed.setIfInBounds j true) t':=by
 obtain⟨hun,o',ho',hall⟩:=mem_ready.1 hr;have hunf:=getD_both hun;obtain⟨o,v,tvi,C,ho,hC,hy,hv,hl⟩:=m.pend j hj hunf;obtain rfl:o'=o:=aE (ho'.symm.trans ho);have hjl:=getElem?_lt ho;have hds:(ops[j]?).bind (·.dst)=o'.dst:=by rw [ho]; rfl
 have hCw:C w:=by
  rcases hC with hC | rfl
  ·exact hw.mem _ hC
  ·trivial
 have hagree:∀ s∈o'.looksAt ops,t.getD s undef=tvi.getD s undef:=by
  intro s hs;by_cases hex:∃ k,zSc ops j k=true/\(ops[k]?).bind (·.dst)=some s
  ·obtain⟨k,hk,hkd⟩:=hex;obtain⟨o2,ho2,e,he,hb,hon⟩:=zJb hk;obtain rfl:o2=o':=aE (ho2.symm.trans ho);have hlk:listed.getD k false=true:=hon ▸ hall e he hb;rw [m.agree1 s k hlk hkd,(hl s hs).1 k hk hkd]
  ·rw [(hl s hs).2 λk hk hkd=>hex ⟨k,hk,hkd⟩];refine m.agree0 s λk hlk hkd=> ?_;have hne:j≠k:=λe=>by subst e; rw [hunf] at hlk; cases hlk
   rcases (zbe m.stat ho hkd hne).2 hs with h1 | h1
   ·exact hex ⟨k,h1,hkd⟩
   ·obtain⟨o2,ho2,e,he,hb,hon⟩:=zJb h1;have:=m.closed k o2 ho2 hlk e he hb;rw [hon,hunf] at this; cases this
 obtain⟨h1,h2⟩:=zKf (zlg m.stat ho) hagree;have hy':YieldsIf P ops C o' v ⟨t,[]⟩:=hy.of_same h1 h2;refine⟨(Act.put ⟨t,[]⟩ o'.dst v).tmps,λK hK=>hy'.wpOp ho hCw (by rw [zam]; exact hK),?_⟩;refine⟨m.stat,m.lclosed,m.same,by simp [m.size],λi hi=> ?_,λi oi hoi hi e he hb=> ?_,by rw [z2e]; exact m.tsize,m.vsize,λs k hk hkd=> ?_,λs hk=> ?_,λi hi hil=> ?_⟩
 ·by_cases hij:j=i
  ·exact hij ▸ hj
  ·rw [getD_set_ne false hij] at hi; exact m.sub i hi
 ·by_cases hij:j=i
  ·subst hij;obtain rfl:oi=o':=aE (hoi.symm.trans ho);exact getD_set_true (hall e he hb)
  ·rw [getD_set_ne false hij] at hi;exact getD_set_true (m.closed i oi hoi hi e he hb)
 ·by_cases hjk:j=k
  ·subst hjk;rw [hds] at hkd;rw [hkd,zLc (by rw [m.tsize]; exact(hv s hkd).2)];exact(hv s hkd).1.symm
  ·rw [getD_set_ne false hjk] at hk;rw [zP (λh=>hjk (znb m.stat (hds.trans h) hkd))];exact m.agree1 s k hk hkd
 ·have hjs:o'.dst≠some s:=λh=>hk j (by
    rw [bA,bS (by rw [m.size]; exact hjl)]; rfl) (hds.trans h)
  rw [zP hjs];refine m.agree0 s λk hlk=>hk k (getD_set_true hlk)
 ·refine m.pend i hi ?_;by_cases hij:j=i
  ·subst hij;rw [bA,bS (by rw [m.size]; exact hjl)] at hil; cases hil
  ·rwa [getD_set_ne false hij] at hil
def MX (P:Program) (n:Nat) (ops:Array Oper) (Q:Exit->Act->World->Prop) (π:List Nat) (pd:Pds) (w:World) (i:Nat) (tv:Array Value):Prop :=
 i<=π.length/\(zIf ops π=true->∀ t0 listed t,MSt P n ops (π.take i) pd t0 tv listed t->zgb pd w->∀ fuel,unl ops listed<=fuel->wpAny P .any ops Q fuel listed ⟨t,[]⟩ w)
def RegM (P:Program) (n:Nat) (ops:Array Oper) (Q:Exit->Act->World->Prop) (π:List Nat) (pd:Pds) (i:Nat) (ge:GEnv) (w:World):Prop:=RegX (MX P n ops Q π pd w) n i ge
theorem z4b:∀ {r L:List Nat} {i:Nat} {x:Nat},z3c ops L r=true->r[i]? =some x->canB ops (L++r.take i) x=true
 | y::r,L,0,x,h,hx=>by
  simp only [z3c,aD] at h;simp only [cA,aC] at hx;subst hx;simpa using h.1
 | y::r,L,i+1,x,h,hx=>by
  simp only [z3c,aD] at h;simp only [cB] at hx;have:=z4b h.2 hx;simpa using this
theorem MX.pass {π:List Nat} {pd pd':Pds} {w:World} {k i:Nat} {tv:Array Value} {o:Oper} {v:Value} {C:World->Prop} (hk:π[k]? =some i) (ho:ops[i]? =some o)
    (hd:∀ d,o.dst=some d->d<n) (hpd:(i,C)∈pd'\/C=λ_=>True) (hsub:∀ p∈pd,p∈pd') (hpw:zgb pd w->zgb pd' w)
    (hy:tv.size=n->YieldsIf P ops C o v ⟨tv,[]⟩) (h:MX P n ops Q π pd' w (k+1) (Act.put ⟨tv,[]⟩ o.dst v).tmps):MX P n ops Q π pd w k tv:=by
 obtain⟨hle,h⟩:=h;refine⟨eF hle,λhord t0 listed t m hw fuel hf=> ?_⟩;have htk:π.take (k+1)=π.take k++[i]:=by rw [bL,hk]; rfl
 have hcan:=z4b hord hk;rw [eU] at hcan;obtain⟨hiL,o',ho',haft⟩:=zJf hcan;obtain rfl:o'=o:=aE (ho'.symm.trans ho);have hds:(ops[i]?).bind (·.dst)=o'.dst:=by rw [ho]; rfl
 refine h hord t0 listed t ?_ (hpw hw) fuel hf;rw [htk];have hmem:∀ {x},x∈π.take k++[i]↔x∈π.take k\/x=i:=λ{x}=>by simp
 have hwi:∀ x,x∈π.take k->zSc ops x i=true->False:=λx hx hxw=>by
  obtain⟨o2,ho2,e,he,hb,hon⟩:=zJb hxw;exact hiL (hon ▸ m.lclosed x hx o2 ho2 e he hb)
 have hself:zSc ops i i=true->False:=λhxw=>by
  obtain⟨o2,ho2,e,he,hb,hon⟩:=zJb hxw;have:=zDh m.stat ho2 e he hb;omega
 have hun:listed.getD i false=false:=by
  cases hx:listed.getD i false with
  | false=>rfl
  | true=>exact absurd (m.sub i hx) hiL
 refine⟨m.stat,λx hx ox hox e he hb=> ?_,λs hs=> ?_,m.size,λx hx=>hmem.2 (.inl (m.sub x hx)),m.closed,m.tsize,by rw [z2e]; exact m.vsize,λs j hj hjd=> ?_,m.agree0,λx hx hxl=> ?_⟩
 ·rcases hmem.1 hx with hx | rfl
  ·exact hmem.2 (.inl (m.lclosed x hx ox hox e he hb))
  ·obtain rfl:ox=o':=aE (hox.symm.trans ho);exact hmem.2 (.inl (haft e he hb))
 ·rw [zP (λh=>hs i (hmem.2 (.inr rfl)) (hds.trans h))];exact m.same s λj hj=>hs j (hmem.2 (.inl hj))
 ·rw [zP (λh=>by
    have:=znb m.stat hjd (hds.trans h);subst this; rw [hun] at hj; cases hj)]
  exact m.agree1 s j hj hjd
 ·rcases hmem.1 hx with hxk | rfl
  ·obtain⟨ox,vx,tvx,Cx,hox,hCx,hyx,hvx,hlx⟩:=m.pend x hxk hxl;have hxi:x≠i:=λe=>hiL (e ▸ hxk);refine⟨ox,vx,tvx,Cx,hox,hCx.imp (λh=>hsub _ h) id,hyx,λd hdx=> ?_,λs hs=>⟨λj hj hjd=> ?_,(hlx s hs).2⟩⟩
   ·rw [zP (λh=>hxi (znb m.stat (by rw [hox]; exact hdx) (hds.trans h)))];exact hvx d hdx
   ·rw [zP (λh=>by
      have:=znb m.stat hjd (hds.trans h);subst this; exact hwi x hxk hj)]
    exact(hlx s hs).1 j hj hjd
  ·refine⟨o',v,tv,C,ho,hpd,hy m.vsize,λd hdx=>⟨by rw [hdx,zLc (by rw [m.vsize]; exact hd d hdx)],hd d hdx⟩,λs hs=>⟨λj hj hjd=> ?_,λhno=> ?_⟩⟩
   ·rw [zP (λh=>by
      have:=znb m.stat hjd (hds.trans h);subst this; exact hself hj)]
   ·refine m.same s λj hj hjd=> ?_;have hne:x≠j:=λe=>hiL (e ▸ hj);rcases (zbe m.stat ho hjd hne).2 hs with h1 | h1
    ·exact hno j h1 hjd
    ·exact hwi j hj h1
theorem MX.done {π:List Nat} {pd:Pds} {w:World} {k:Nat} {tv:Array Value} (hk:k=π.length) (hall:((List.range ops.size).all λj=>π.contains j)=true)
    (h:∀ t,t.size=n->(∀ s,t.getD s undef=tv.getD s undef)->Q .normal ⟨t,[]⟩ w):MX P n ops Q π pd w k tv:=by
 subst hk;refine⟨bC _,λ_ t0 listed t m hw fuel hf=> ?_⟩;rw [cU] at m;have hin:∀ j,j<ops.size->j∈π:=λj hj=>by simpa using bP.1 hall j (dC.2 hj)
 induction fuel generalizing listed t with
 | zero =>
  have hz:unl ops listed=0:=Nat.le_zero.1 hf
  have hlist:∀ j,j<ops.size->listed.getD j true=true:=λj hj=>by
   cases hx:listed.getD j true with
   | true=>rfl
   | false =>
    have:unl ops (listed.setIfInBounds j true)<unl ops listed:=zLf hj hx;omega
  have hre:Region.ready .any ops listed=[]:=by
   cases hr:Region.ready .any ops listed with
   | nil=>rfl
   | cons x xs =>
    obtain⟨hx,ox,hox,_⟩:=mem_ready.1 (show x∈Region.ready .any ops listed by rw [hr]; exact aI ..);rw [hlist x (getElem?_lt hox)] at hx; cases hx
  refine⟨hre,h t m.tsize λs=> ?_⟩;by_cases hw:∃ j:Nat,(ops[j]?).bind (·.dst)=some s
  ·obtain⟨j,hj⟩:=hw
   have hjl:j<ops.size:=by
    cases hj':ops[j]? with
    | none=>rw [hj'] at hj; cases hj
    | some x=>exact getElem?_lt hj'
   refine m.agree1 s j ?_ hj;have:=hlist j hjl;rw [bA,fJ (by rw [m.size]; exact hjl)] at this ⊢;exact this
  ·rw [m.agree0 s λj _ hj=>hw ⟨j,hj⟩,m.same s λj _ hj=>hw ⟨j,hj⟩]
 | succ fuel ih =>
  refine⟨λhre=> ?_,λj hj=> ?_⟩
  ·have hlist:∀ j,j<ops.size->listed.getD j false=true:=λj hj=>by
     cases hx:listed.getD j false with
     | true=>rfl
     | false=>exact absurd hre (zEe m.stat m.size j hj hx)
   refine h t m.tsize λs=> ?_;by_cases hw:∃ j:Nat,(ops[j]?).bind (·.dst)=some s
   ·obtain⟨j,hj⟩:=hw
    have hjl:j<ops.size:=by
     cases hj':ops[j]? with
     | none=>rw [hj'] at hj; cases hj
     | some x=>exact getElem?_lt hj'
    exact m.agree1 s j (hlist j hjl) hj
   ·rw [m.agree0 s λj _ hj=>hw ⟨j,hj⟩,m.same s λj _ hj=>hw ⟨j,hj⟩]
  ·obtain⟨hun,oj,hoj,_⟩:=mem_ready.1 hj;have hjl:=getElem?_lt hoj;obtain⟨t',hK,m'⟩:=m.real (Q:=Q) hw hj (hin j hjl);exact hK _ (ih _ _ m' (by have:=zLf hjl hun; omega))
theorem zFe {listed:Array Bool} (hcl:∀ j oj,ops[j]? =some oj->listed.getD j false=true->∀ e∈oj.after,Region.binds .any e=true->listed.getD e.on false=true) {e:Nat}
    (he:∀ p,zSc ops e p=true->listed.getD p false=true):∀ {D seen:List Nat},zzc ops e seen D=true->(∀ q∈seen,listed.getD q false=true)->∀ p∈D,listed.getD p false=true
 | x::D,seen,h,hs,p,hp=>by
  simp only [zzc,aD,cE] at h
  have hx:listed.getD x false=true:=by
   rcases h.1 with h1 | h1
   ·exact he x h1
   ·obtain⟨q,hq,hw⟩:=dU.1 h1;obtain⟨o,ho,ed,hed,hb,hon⟩:=zJb hw;exact hon ▸ hcl q o ho (hs q hq) ed hed hb
  rcases aU.1 hp with rfl | hp
  ·exact hx
  ·exact zFe hcl he h.2 (λq hq=>by
     rcases aU.1 hq with rfl | hq
     ·exact hx
     ·exact hs q hq) p hp
def zRg (P:Program) (n:Nat) (ops:Array Oper) (Q:Exit->Act->World->Prop) (L:List Nat) (pd:Pds) (ge:GEnv) (w:World) (e:Nat):Prop :=
 ∀ tv,Inv n tv ge->∀ t0 listed t,MSt P n ops L pd t0 tv listed t->zgb pd w->∀ fuel,unl ops listed<=fuel+1->e∈Region.ready .any ops listed ->
  wpOp P ops Q e (wpAny P .any ops Q fuel (listed.setIfInBounds e true)) ⟨t,[]⟩ w
theorem zSg {π:List Nat} {pd:Pds} {k:Nat} {ge:GEnv} {w:World} {op:Op} {ty:TypeId} {dst:Option Nat} (j:Nat) (D:List Nat) (pd':Pds) {L:List Nat}
    (hord:zIf ops π=true) (hL:π.take k=L) (hk:π[k]? =some j) (hD:zzc ops j [] D=true) (hpd:zib D pd=pd')
    (ho:opAt n ops ge j=some (op,ty,dst)) (h:OpS P op ty (rho ge) w (λv w'=>zgb pd' w'/\RegM P n ops Q π pd' (k+1) (putG dst v ge) w')):zRg P n ops Q L pd ge w j:=by
 intro tv hinv t0 listed t m hw fuel hf hj;subst hpd;subst hL;unfold opAt at ho;cases hoi:ops[j]? with
 | none=>rw [hoi] at ho; cases ho
 | some oj =>
  rw [hoi] at ho;simp only at ho;obtain⟨hc,ho⟩:=ztb ho;simp only [aD] at hc;obtain⟨⟨⟨hg,hsel⟩,hav⟩,hdst⟩:=hc;simp only [aC,bI] at ho;obtain⟨hop,hty,hds⟩:=ho;have hH:Holds tv []:=λp hp=>by cases hp
  have hexec:execOp (Act.eval ⟨tv,[]⟩) oj=execOp (rho ge) oj:=zbc hinv hH hsel hav;have hwt:=zX (ops:=ops) hinv hg;have hdb:(ops[j]?).bind (·.dst)=oj.dst:=by rw [hoi]; rfl
  have hcan:=z4b hord hk;rw [eU] at hcan;obtain⟨heL,o',ho',haft⟩:=zJf hcan;obtain rfl:o'=oj:=aE (ho'.symm.trans hoi);have htk:π.take (k+1)=π.take k++[j]:=by rw [bL,hk]; rfl
  have hmem:∀ {x},x∈π.take k++[j]↔x∈π.take k\/x=j:=λ{x}=>by simp
  have hel:=getElem?_lt hoi
  have hwe:∀ x,x∈π.take k->zSc ops x j=true->False:=λx hx hxw=>by
   obtain⟨o2,ho2,ed,hed,hb,hon⟩:=zJb hxw;exact heL (hon ▸ m.lclosed x hx o2 ho2 ed hed hb)
  obtain⟨hj1,oz,hoz,hall⟩:=mem_ready.1 hj;obtain rfl:oz=o':=aE (hoz.symm.trans hoi)
  have hwl:∀ p,zSc ops j p=true->listed.getD p false=true:=λp hp=>by
   obtain⟨o2,ho2,ed,hed,hb,hon⟩:=zJb hp;obtain rfl:o2=oz:=aE (ho2.symm.trans hoi);exact hon ▸ hall ed hed hb
  have hdrop:=zFe m.closed hwl hD (λq hq=>by cases hq)
  have hagree:∀ s∈oz.looksAt ops,t.getD s undef=tv.getD s undef:=by
   intro s hs;by_cases hex:∃ x,listed.getD x false=true/\(ops[x]?).bind (·.dst)=some s
   ·obtain⟨x,hx,hxd⟩:=hex;exact m.agree1 s x hx hxd
   ·rw [m.agree0 s λx hx hxd=>hex ⟨x,hx,hxd⟩];refine(m.same s λx hx hxd=> ?_).symm;have hne:j≠x:=λe=>heL (e ▸ hx);rcases (zbe m.stat hoi hxd hne).2 hs with h1 | h1
    ·exact hex ⟨x,hwl x h1,hxd⟩
    ·exact hwe x hx h1
  obtain⟨h1,h2⟩:=zKf (zlg m.stat hoi) hagree
  have hput:∀ v w',zgb (zib D pd) w'/\RegM P n ops Q π (zib D pd) (k+1) (putG dst v ge) w' ->
      wpAny P .any ops Q fuel (listed.setIfInBounds j true) (Act.put ⟨t,[]⟩ oz.dst v) w':=by
   intro v w' ⟨hp',hr⟩
   have hdn:∀ d,oz.dst=some d->d<n/\zgg ge d=true:=λd hd=>by
    rw [hd] at hdst;simp only [aD,fY] at hdst;exact hdst
   have hinv':Inv n (Act.put ⟨tv,[]⟩ oz.dst v).tmps (putG dst v ge):=by
    rw [hds] at hdst ⊢;cases dst with
    | none=>exact hinv
    | some d =>
     simp only [aD] at hdst;exact hinv.put (v:=v) (u:=v) hdst.1 hdst.2 (λp hp=>by cases hp) (λ_=>rfl) (λhh=>absurd hH hh)
   rw [zam];refine(hr _ hinv').2 hord t0 _ _ ?_ hp' fuel (by have:=zLf hel hj1; omega);rw [htk];refine⟨m.stat,λx hx ox hox ed hed hb=> ?_,λs hs=> ?_,by simp [m.size],λx hx=> ?_,λx ox hox hx ed hed hb=> ?_,by rw [z2e]; exact m.tsize,by rw [z2e]; exact m.vsize,λs x hx hxd=> ?_,λs hs=> ?_,λx hx hxl=> ?_⟩
   ·rcases hmem.1 hx with hx | rfl
    ·exact hmem.2 (.inl (m.lclosed x hx ox hox ed hed hb))
    ·obtain rfl:ox=oz:=aE (hox.symm.trans hoi);exact hmem.2 (.inl (haft ed hed hb))
   ·rw [zP (λh=>hs j (hmem.2 (.inr rfl)) (hdb.trans h))];exact m.same s λx hx=>hs x (hmem.2 (.inl hx))
   ·by_cases hjx:j=x
    ·exact hmem.2 (.inr hjx.symm)
    ·rw [getD_set_ne false hjx] at hx; exact hmem.2 (.inl (m.sub x hx))
   ·by_cases hjx:j=x
    ·subst hjx;obtain rfl:ox=oz:=aE (hox.symm.trans hoi);exact getD_set_true (hall ed hed hb)
    ·rw [getD_set_ne false hjx] at hx;exact getD_set_true (m.closed x ox hox hx ed hed hb)
   ·by_cases hjx:j=x
    ·subst hjx;rw [hdb] at hxd;rw [hxd,zLc (by rw [m.tsize]; exact(hdn s hxd).1),zLc (by rw [m.vsize]; exact(hdn s hxd).1)]
    ·rw [getD_set_ne false hjx] at hx;have hne:oz.dst≠some s:=λh=>hjx (znb m.stat (hdb.trans h) hxd);rw [zP hne,zP hne];exact m.agree1 s x hx hxd
   ·have hjs:oz.dst≠some s:=λh=>hs j (by
      rw [bA,bS (by rw [m.size]; exact hel)]; rfl) (hdb.trans h)
    rw [zP hjs];exact m.agree0 s λx hx=>hs x (getD_set_true hx)
   ·have hjx:j≠x:=λe=>by
      subst e;rw [bA,bS (by rw [m.size]; exact hel)] at hxl; cases hxl
    rw [getD_set_ne false hjx] at hxl;have hxL:x∈π.take k:=(hmem.1 hx).resolve_right λe=>hjx e.symm;obtain⟨ox,vx,tvx,Cx,hox,hCx,hyx,hvx,hlx⟩:=m.pend x hxL hxl;have hxd:(ops[x]?).bind (·.dst)=ox.dst:=by rw [hox]; rfl
    refine⟨ox,vx,tvx,Cx,hox,hCx.imp (λh=>bR.2 ⟨h,?_⟩) id,hyx,λd hdx=> ?_,λs hs=>⟨λy hy hyd=> ?_,(hlx s hs).2⟩⟩
    ·have:x∉D:=λhxD=>by rw [hdrop x hxD] at hxl; cases hxl
     simpa using this
    ·rw [zP (λh=>hjx (znb m.stat (hdb.trans h) (hxd.trans hdx)))];exact hvx d hdx
    ·rw [zP (λh=>by
       have:=znb m.stat hyd (hdb.trans h);subst this; exact hwe x hxL hy)]
     exact(hlx s hs).1 y hy hyd
  unfold wpOp;simp only [hoi];rw [if_pos (h2.trans hwt)];refine .inl ?_;unfold Oper.wp;rw [h1,hexec,ex_eq,hop,hty];unfold OpS at h;generalize (ex op ty (rho ge)).run P w=r at h ⊢;cases r with
  | halt x w'=>exact h.elim
  | ok nx w' =>
   cases nx with
   | value v=>exact hput _ _ h
   | skip=>exact hput _ _ h
   | enter f args =>
    refine Calls.mono h ?_;rintro ev w'' ⟨v,rfl,hr⟩;exact hput _ _ hr
   | _=>exact h.elim
theorem zAc {π:List Nat} {pd:Pds} {k:Nat} {ge:GEnv} {w:World} (e0:Nat) (es:List Nat) (hk:π[k]? =some e0) (hB:((List.range ops.size).all λj=>es.contains j|| !canB ops (π.take k) j)=true)
    (h:∀ e∈es,zRg P n ops Q (π.take k) pd ge w e):RegM P n ops Q π pd k ge w:=by
 intro tv hinv
 have hkl:k+1<=π.length:=by
  have:=(cC.1 hk).1; omega
 refine⟨eF hkl,λhord t0 listed t m hw fuel hf=> ?_⟩;have hcan:=z4b hord hk;rw [eU] at hcan;obtain⟨heL,o',ho',haft⟩:=zJf hcan;have hel:=getElem?_lt ho'
 have hun:∀ {l:Array Bool} {t:Array Value},MSt P n ops (π.take k) pd t0 tv l t->l.getD e0 false=false:=λ{l t} m=>by
  cases hx:l.getD e0 false with
  | false=>rfl
  | true=>exact absurd (m.sub e0 hx) heL
 induction fuel generalizing listed t with
 | zero =>
  have h1:=zLf (listed:=listed) hel (getD_in (by rw [m.size]; exact hel) (hun m));omega
 | succ fuel ih =>
  refine⟨λhre=>absurd hre (zEe m.stat m.size e0 hel (hun m)),λj hj=> ?_⟩;by_cases hjL:j∈π.take k
  ·obtain⟨hj1,oj,hoj,_⟩:=mem_ready.1 hj;obtain⟨t',hK,m'⟩:=m.real (Q:=Q) hw hj hjL;exact hK _ (ih _ _ m' (by have:=zLf (getElem?_lt hoj) hj1; omega))
  ·obtain⟨hj1,oj,hoj,hall⟩:=mem_ready.1 hj
   have hje:j∈es:=by
    have h1:=bP.1 hB j (dC.2 (getElem?_lt hoj));simp only [cE,dO] at h1;rcases h1 with h1 | h1
    ·simpa using h1
    ·exfalso
     have:canB ops (π.take k) j=true:=by
      unfold canB;rw [hoj];simp only [aD,dO];refine⟨by simpa using hjL,eH.2 λed hed=> ?_⟩;cases hb:Region.binds .any ed with
      | false=>simp
      | true=>simpa using m.sub _ (hall ed hed hb)
     rw [this] at h1; cases h1
   exact h j hje tv hinv t0 listed t m hw fuel hf hj
theorem zKd {π:List Nat} {pd:Pds} {k:Nat} {ge:GEnv} {w:World} {op:Op} {ty:TypeId} {dst:Option Nat} (e:Nat) (D:List Nat) (pd':Pds)
    (hk:π[k]? =some e) (hB:zae ops (π.take k) e=true) (hD:zzc ops e [] D=true) (hpd:zib D pd=pd')
    (ho:opAt n ops ge e=some (op,ty,dst)) (h:OpS P op ty (rho ge) w (λv w'=>zgb pd' w'/\RegM P n ops Q π pd' (k+1) (putG dst v ge) w')):RegM P n ops Q π pd k ge w:=by
 intro tv hinv
 have hkl:k+1<=π.length:=by
  have:=(cC.1 hk).1; omega
 refine⟨eF hkl,λhord t0 listed t m hw fuel hf=> ?_⟩;refine(zAc (P:=P) (n:=n) (Q:=Q) (pd:=pd) (ge:=ge) (w:=w) e [e] hk ?_ (λe' he'=> ?_) tv hinv).2 hord t0 listed t m hw fuel hf
 ·rw [bP] at *
  intro j hj;have:=bP.1 hB j hj;simp only [cE] at this ⊢;rcases this with h1 | h1
  ·exact .inl (by have:=bH h1; simp [this])
  ·exact .inr h1
 ·obtain rfl:=bK.1 he';exact zSg e' D pd' hord rfl hk hD hpd ho h
theorem zx {id:Nat} {c:Code} {Q:Exit->Env->World->Prop} {l:Env} {w:World} (π:List Nat) (hc:c= .region id ops true)
    (hm:P.follows .mixedOrders=true) (hB:mixB ops=true) (hO:zIf ops π=true)
    (h:∀ w1,(∃ k,w1=w.drewN k)->RegM P n ops (zO n Q) π [] 0 (toG l) w1):WpE P n c Q l w:=by
 subst hc;intro t ha;refine wp_region_any hm ?_;have h:=(h w.drew ⟨1,rfl⟩ t ha.inv).2 hO t (Array.replicate ops.size false) t ?_ trivial ops.size ?_
 ·exact h
 ·refine⟨hB,λi hi=>(by simp at hi),λ_ _=>rfl,by simp,λi hi=> ?_,λj oj _ hl=> ?_,ha.1,ha.1,λs j hj=> ?_,λ_ _=>rfl,λi hi=>(by simp at hi)⟩
  ·rw [getD_replicate_false] at hi; cases hi
  ·rw [getD_replicate_false] at hl; cases hl
  ·rw [getD_replicate_false] at hj; cases hj
 ·unfold unl;exact cH (cI _ _) (by simp)
theorem lawM {π:List Nat} {pd:Pds} {w:World} {k i:Nat} (hk:π[k]? =some i):zLg P ops i (MX P n ops Q π pd w k) (MX P n ops Q π pd w (k+1)) (λd=>d<n):=by
 constructor
 ·intro d o t v ho hd hdn hw hr h;exact MX.pass (C:=λ_=>True) hk ho (λd' hd'=>by rw [hd] at hd'; obtain rfl:=aE hd'; exact hdn) (.inr rfl) (λ_ h=>h) (λh=>h) (λ_=> .inl ⟨hw,λw _=>hr w⟩) (by rw [hd]; exact h)
 ·intro d o t ho hd hdn hw h;exact MX.pass (C:=λ_=>True) hk ho (λd' hd'=>by rw [hd] at hd'; obtain rfl:=aE hd'; exact hdn) (.inr rfl) (λ_ h=>h) (λh=>h) (λ_=> .inr ⟨hw,rfl⟩) (by rw [hd]; exact h)
def zPc (P:Program) (n:Nat) (ops:Array Oper) (π:List Nat):List Mode->Nat->GEnv->Option GEnv
 | [],_,ge=>some ge
 | m::ms,k,ge=>match π[k]? with
  | none=>none
  | some i=>match zpi P n ops m i ge with
   | some ge'=>zPc P n ops π ms (k+1) ge'
   | none=>none
theorem zGe {π:List Nat} {pd:Pds} {w:World}:∀(ms:List Mode) (k:Nat) (ge ge':GEnv),
    zPc P n ops π ms k ge=some ge'->RegM P n ops Q π pd (k+ms.length) ge' w->RegM P n ops Q π pd k ge w
 | [],k,ge,ge',h,hn=>by simp only [zPc,aC] at h; subst h; exact hn
 | m::ms,k,ge,ge',h,hn=>by
  simp only [zPc] at h;cases hk:π[k]? with
  | none=>rw [hk] at h; cases h
  | some i =>
   rw [hk] at h;simp only at h;cases h1:zpi P n ops m i ge with
   | none=>rw [h1] at h; cases h
   | some g1 =>
    rw [h1] at h;exact zBe (lawM hk) h1 (zGe ms (k+1) g1 ge' h (by rw [aV] at hn; rwa [eY,gM 1]))
theorem zDj {π:List Nat} {pd:Pds} {w:World} {k:Nat} {ge:GEnv} (s:Nat) (b:Bool)
    (hs:zU ge s=some ([],.bool b)) (ht:b=true->RegM P n ops Q π pd k (resolve s true ge) w) (hf:b=false->RegM P n ops Q π pd k (resolve s false ge) w) :
    RegM P n ops Q π pd k ge w:=zoe s b hs ht hf
theorem zQl {Q:Exit->Env->World->Prop} {π:List Nat} {pd:Pds} {w:World} {k:Nat} {ge:GEnv} (l:Env) (hk:k=π.length) (hall:((List.range ops.size).all λj=>π.contains j)=true)
    (hl:l.map (λp=>zU ge p.1)=l.map (λp=>some ([],p.2))) (h:Q .normal l w):RegM P n ops (zO n Q) π pd k ge w:=by
 intro tv hinv;refine MX.done hk hall λt hs ht=>zO.mk ⟨hs,λp hp=> ?_⟩ h;have:=fR.1 hl p hp;rw [ht];exact(hinv.ok _ _ _ this).1 (λp hp=>by cases hp)
theorem z4c {π:List Nat} {pd:Pds} {w:World} {k i:Nat} {ge:GEnv} {op:Op} {ty:TypeId} {dst:Option Nat} (v:Value) (C:World->Prop) (hk:π[k]? =some i)
    (ho:opAt n ops ge i=some (op,ty,dst)) (hr:∀ w',C w'->(ex op ty (rho ge)).run P w'= .ok (.value v) w') (hC:C w)
    (h:RegM P n ops Q π ((i,C)::pd) (k+1) (putG dst v ge) w):RegM P n ops Q π pd k ge w:=by
 intro tv hinv;unfold opAt at ho;cases hoi:ops[i]? with
 | none=>rw [hoi] at ho; cases ho
 | some o =>
  rw [hoi] at ho;simp only at ho;obtain⟨hc,ho⟩:=ztb ho;simp only [aD] at hc;obtain⟨⟨⟨hg,hsel⟩,hav⟩,hdst⟩:=hc;simp only [aC,bI] at ho;obtain⟨hop,hty,hds⟩:=ho;have hH:Holds tv []:=λp hp=>by cases hp
  have hexec:execOp (Act.eval ⟨tv,[]⟩) o=execOp (rho ge) o:=zbc hinv hH hsel hav;have hwt:=zX (ops:=ops) hinv hg;refine MX.pass (v:=v) (C:=C) hk hoi (λd hd=> ?_) (.inl (aI ..)) (λ_ h=>aJ _ h) (λh=>⟨hC,h⟩) (λ_=> .inl ⟨hwt,λw' hw'=> ?_⟩) (h _ ?_)
  ·rw [hd] at hdst;simp only [aD,fY] at hdst;exact hdst.1
  ·rw [hexec,ex_eq,hop,hty]; exact hr w' hw'
  ·rw [hds] at hdst ⊢;cases dst with
   | none=>exact hinv
   | some d =>
    simp only [aD] at hdst;exact hinv.put (v:=v) (u:=v) hdst.1 hdst.2 (λp hp=>by cases hp) (λ_=>rfl) (λhh=>absurd hH hh)
theorem zce {π:List Nat} {pd:Pds} {w:World} {k i:Nat} {ge:GEnv} {op:Op} {ty:TypeId} {dst:Option Nat} (v:Value) (hk:π[k]? =some i)
    (ho:opAt n ops ge i=some (op,ty,dst)) (hr:∀ w',(ex op ty (rho ge)).run P w'= .ok (.value v) w')
    (h:RegM P n ops Q π pd (k+1) (putG dst v ge) w):RegM P n ops Q π pd k ge w:=by
 intro tv hinv;unfold opAt at ho;cases hoi:ops[i]? with
 | none=>rw [hoi] at ho; cases ho
 | some o =>
  rw [hoi] at ho;simp only at ho;obtain⟨hc,ho⟩:=ztb ho;simp only [aD] at hc;obtain⟨⟨⟨hg,hsel⟩,hav⟩,hdst⟩:=hc;simp only [aC,bI] at ho;obtain⟨hop,hty,hds⟩:=ho;have hH:Holds tv []:=λp hp=>by cases hp
  have hexec:execOp (Act.eval ⟨tv,[]⟩) o=execOp (rho ge) o:=zbc hinv hH hsel hav;have hwt:=zX (ops:=ops) hinv hg;refine MX.pass (v:=v) (C:=λ_=>True) hk hoi (λd hd=> ?_) (.inr rfl) (λ_ h=>h) (λh=>h) (λ_=> .inl ⟨hwt,λw' _=> ?_⟩) (h _ ?_)
  ·rw [hd] at hdst;simp only [aD,fY] at hdst;exact hdst.1
  ·rw [hexec,ex_eq,hop,hty]; exact hr w'
  ·rw [hds] at hdst ⊢;cases dst with
   | none=>exact hinv
   | some d =>
    simp only [aD] at hdst;exact hinv.put (v:=v) (u:=v) hdst.1 hdst.2 (λp hp=>by cases hp) (λ_=>rfl) (λhh=>absurd hH hh)
end
section
variable {P:Program} {n:Nat} {ops:Array Oper} {Q:Exit->Act->World->Prop} {π:List Nat} {pd:Pds} {ps i:Nat} {ge:GEnv} {w:World} {ty:TypeId} {dst:Option Nat}
theorem z4i {op:Op} (hk:π[ps]? =some i) (v:Value) (ho:opAt n ops ge i=some (op,ty,dst)) (hr:∀ ww,(ex op ty (rho ge)).run P ww= .ok (.value v) ww)
    (h:RegM P n ops Q π pd (ps+1) (putG dst v ge) w):RegM P n ops Q π pd ps ge w:=zce v hk ho hr h
theorem zEj {t:TypeId} {a:Operand} {b o:Nat} {v:Value} (hk:π[ps]? =some i) (ho:opAt n ops ge i=some (.load t a,ty,dst)) (ha:rho ge a= .pointer (some ⟨b,o,none⟩))
    (ht:zVb P t=true) (hc:w.cell? ⟨b,o,none⟩=some v) (h:RegM P n ops Q π ((i,λw'=>w'.cell? ⟨b,o,none⟩=some v)::pd) (ps+1) (putG dst v ge) w):RegM P n ops Q π pd ps ge w :=
 z4c v _ hk ho (λ_ hw=>zxf ha ht hw) hc h
theorem zmg {t:TypeId} {a:Operand} {b o k:Nat} (hk:π[ps]? =some i) (vs:List Value) (ho:opAt n ops ge i=some (.load t a,ty,dst)) (ha:rho ge a= .pointer (some ⟨b,o,none⟩))
    (ht:aggT P t=true) (hs:zB P t=some k) (hz:vs.length=k) (hc:zf w b o vs) (h:RegM P n ops Q π ((i,λw'=>zf w' b o vs)::pd) (ps+1) (putG dst (.agg vs.toArray) ge) w):RegM P n ops Q π pd ps ge w :=
 z4c _ _ hk ho (λ_ hw=>zyf ha ht hs hz hw) hc h
theorem zMc {t e:TypeId} {x ix:Operand} {b o l c sz:Nat} {k:IntKind} {j:Int} (hk:π[ps]? =some i) (ho:opAt n ops ge i=some (.indexAddr t x ix,ty,dst))
    (hx:rho ge x= .slice (some ⟨b,o,none⟩) l c) (hi:rho ge ix= .int k j) (ht:P.underlying t=some (.slice e)) (hs:zB P e=some sz)
    (h0:0<=j) (h1:j<l) (h:RegM P n ops Q π pd (ps+1) (putG dst (.pointer (some ⟨b,o+j.toNat*sz,none⟩)) ge) w):RegM P n ops Q π pd ps ge w :=
 zce _ hk ho (λ_=>zpe hx hi ht hs h0 h1) h
theorem zEh {t e:TypeId} {x ix:Operand} {b o l c:Nat} {k:IntKind} {j:Int} (hk:π[ps]? =some i) (ho:opAt n ops ge i=some (.indexAddr t x ix,ty,dst))
    (hx:rho ge x= .slice (some ⟨b,o,none⟩) l c) (hi:rho ge ix= .int k j) (ht:P.underlying t=some (.slice e)) (hs:zB P e=some 1)
    (h0:0<=j) (h1:j<l) (h:RegM P n ops Q π pd (ps+1) (putG dst (.pointer (some ⟨b,o+j.toNat,none⟩)) ge) w):RegM P n ops Q π pd ps ge w :=
 zMc hk ho hx hi ht hs h0 h1 (by simpa using h)
theorem zxi {t e:TypeId} {x ix:Operand} {b o len sz:Nat} {k:IntKind} {j:Int} (hk:π[ps]? =some i) (ho:opAt n ops ge i=some (.indexAddr t x ix,ty,dst))
    (hx:rho ge x= .pointer (some ⟨b,o,none⟩)) (hi:rho ge ix= .int k j) (ht:P.underlying t=some (.array len e)) (hs:zB P e=some sz)
    (h0:0<=j) (h1:j<len) (h:RegM P n ops Q π pd (ps+1) (putG dst (.pointer (some ⟨b,o+j.toNat*sz,none⟩)) ge) w):RegM P n ops Q π pd ps ge w :=
 zce _ hk ho (λ_=>zqe hx hi ht hs h0 h1) h
theorem zec {t e:TypeId} {x ix:Operand} {b o len:Nat} {k:IntKind} {j:Int} (hk:π[ps]? =some i) (ho:opAt n ops ge i=some (.indexAddr t x ix,ty,dst))
    (hx:rho ge x= .pointer (some ⟨b,o,none⟩)) (hi:rho ge ix= .int k j) (ht:P.underlying t=some (.array len e)) (hs:zB P e=some 1)
    (h0:0<=j) (h1:j<len) (h:RegM P n ops Q π pd (ps+1) (putG dst (.pointer (some ⟨b,o+j.toNat,none⟩)) ge) w):RegM P n ops Q π pd ps ge w :=
 zxi hk ho hx hi ht hs h0 h1 (by simpa using h)
theorem zF {op:Op} (e:Nat) (D:List Nat) (pd':Pds) (f:FuncId) (args:Array Value) (hk:π[ps]? =some e) (hB:zae ops (π.take ps) e=true) (hD:zzc ops e [] D=true) (hpd:zib D pd=pd')
    (ho:opAt n ops ge e=some (op,ty,dst)) (hr:∀ ww,(ex op ty (rho ge)).run P ww= .ok (.enter f args) ww)
    (h:Calls P f args w (λev w'=>∃ v,ev= .returned v/\zgb pd' w'/\RegM P n ops Q π pd' (ps+1) (putG dst v ge) w')):RegM P n ops Q π pd ps ge w :=
 zKd e D pd' hk hB hD hpd ho (by unfold OpS; rw [hr]; exact h)
theorem zFj {t:TypeId} {a x:Operand} {b o k:Nat} (e:Nat) (D:List Nat) (pd':Pds) (vs:List Value) (hk:π[ps]? =some e) (hB:zae ops (π.take ps) e=true) (hD:zzc ops e [] D=true) (hpd:zib D pd=pd')
    (ho:opAt n ops ge e=some (.store t a x,ty,dst)) (ha:rho ge a= .pointer (some ⟨b,o,none⟩))
    (hx:(rho ge x).cells=vs.toArray) (hs:zB P t=some k) (hz:vs.length=k) (h1:zv vs=true) (hw:zr w b o k)
    (h:∀ w',w'=World.puts b o vs w->zgb pd' w'/\RegM P n ops Q π pd' (ps+1) (putG dst undef ge) w'):RegM P n ops Q π pd ps ge w :=
 zKd e D pd' hk hB hD hpd ho (zwh ha hx hs hz h1 hw h)
theorem zQb {op:Op} (e:Nat) (D:List Nat) (pd':Pds) (f:Nat->Value) (o:Obj) (hk:π[ps]? =some e) (hB:zae ops (π.take ps) e=true) (hD:zzc ops e [] D=true) (hpd:zib D pd=pd')
    (ho:opAt n ops ge e=some (op,ty,dst)) (hr:(ex op ty (rho ge)).run P w= .ok (.value (f w.heap.size)) { w with heap:=w.heap.push o })
    (h:∀ b w',b=w.heap.size->w'=w.alloc o->zgb pd' w'/\RegM P n ops Q π pd' (ps+1) (putG dst (f b) ge) w'):RegM P n ops Q π pd ps ge w :=
 zKd e D pd' hk hB hD hpd ho (by unfold OpS; rw [hr]; exact h _ _ rfl rfl)
end
section
variable {P:Program} {n:Nat} {ops:Array Oper} {Q:Exit->Act->World->Prop} {π:List Nat} {pd:Pds} {k:Nat} {ge:GEnv} {w:World} {ty:TypeId} {dst:Option Nat}
theorem z5c {op:Op} {L:List Nat} (e:Nat) (D:List Nat) (pd':Pds) (f:FuncId) (args:Array Value) (hord:zIf ops π=true) (hL:π.take k=L) (hk:π[k]? =some e) (hD:zzc ops e [] D=true) (hpd:zib D pd=pd')
    (ho:opAt n ops ge e=some (op,ty,dst)) (hr:∀ ww,(ex op ty (rho ge)).run P ww= .ok (.enter f args) ww)
    (h:Calls P f args w (λev w'=>∃ v,ev= .returned v/\zgb pd' w'/\RegM P n ops Q π pd' (k+1) (putG dst v ge) w')):zRg P n ops Q L pd ge w e :=
 zSg e D pd' hord hL hk hD hpd ho (by unfold OpS; rw [hr]; exact h)
theorem zMf {op:Op} {L:List Nat} (e:Nat) (D:List Nat) (pd':Pds) (f:Nat->Value) (o:Obj) (hord:zIf ops π=true) (hL:π.take k=L) (hk:π[k]? =some e) (hD:zzc ops e [] D=true) (hpd:zib D pd=pd')
    (ho:opAt n ops ge e=some (op,ty,dst)) (hr:(ex op ty (rho ge)).run P w= .ok (.value (f w.heap.size)) { w with heap:=w.heap.push o })
    (h:∀ b w',b=w.heap.size->w'=w.alloc o->zgb pd' w'/\RegM P n ops Q π pd' (k+1) (putG dst (f b) ge) w'):zRg P n ops Q L pd ge w e :=
 zSg e D pd' hord hL hk hD hpd ho (by unfold OpS; rw [hr]; exact h _ _ rfl rfl)
theorem zde {C:Nat->Prop} {a b:Nat} (ha:C a) (hb:C b):∀ e∈[a,b],C e:=λe he=>by
 rcases aU.1 he with rfl | he
 ·exact ha
 ·rw [bK.1 he]; exact hb
end
section
variable [Rnd]
def intT (P:Program) (t:TypeId):Bool:=match P.underlying t with | some (.int _)=>true | _=>false
section
variable {P:Program} {n:Nat} {ops:Array Oper} {i:Nat} {ge:GEnv} {w:World} {ty e:TypeId} {dst:Option Nat}
theorem zNf {t tx e:TypeId} {a x:Operand} {s:Slc} {sz by_:Nat} {zs:List Value} {l:Int} {K:Value->World->Prop}
    (hs:rho ge a= .slice s.ptr s.len s.cap) (hx:rho ge x= .int .i64 l) (ht:P.underlying t=some (.slice e)) (hsz:zB P e=some sz) (hb:zZb P e=some by_) (hz:zpd P e=some zs)
    (hb1:Nat.ble 1 by_=true) (hmk:intT P tx=true) (hzl:zs.length=sz) (h0:0<=l) (hlb:l*(by_:Int)<=281474976710656)
    (h:zG sz by_ e zs s (zp l.toNat zs).toList l.toNat w (λr w'=>K (.slice r.ptr r.len r.cap) w')) :
    OpS P (.call { callee:= .builtin .append,args:=#[a,x],argTypes:=#[t,tx] }) ty (rho ge) w K:=by
 have hby:1<=by_:=aM hb1
 obtain⟨ki,hdx⟩:∃ d,P.underlying tx=some (.int d):=by
  unfold intT at hmk;cases hu:P.underlying tx with
  | none=>rw [hu] at hmk; cases hmk
  | some d =>
   rw [hu] at hmk;cases d <;> first | (cases hmk; done) | exact⟨_,rfl⟩
 have hl48:l<=281474976710656:=by
  have:l*1<=l*(by_:Int):=Int.mul_le_mul_of_nonneg_left O_ h0;omega
 have hwl:IntKind.i64.wrap l=l:=IntWalk.i64_in _ O_;generalize hkd:l.toNat=k at *
 generalize hsd:(zp k zs).toList=src at *
 have hsrc:∀ w:World,((if k*sz=0 then Sem.pure #[] else(zeroValue e >>= λv=>Sem.pure (Builtin.zeroCells v.cells k))):Sem (Array Value)).run P w= .ok src.toArray w:=by
  intro w;obtain⟨v,hv,hvc⟩:=z3b hz w;split
  ·rename_i hz0
   have:src=[]:=by
    rw [<-hsd,<-zJc,hzl,hz0]; simp
   rw [this]; rfl
  ·simp only [run_bind',hv,hvc,pure,Sem.run,zeroCells_eq];rw [<-hsd]
 unfold OpS
 have hex:ex (.call { callee:= .builtin .append,args:=#[a,x],argTypes:=#[t,tx] }) ty (rho ge) =
     (do pure (.value (<-Builtin.append_ #[t,tx] ty #[.slice s.ptr s.len s.cap,.int .i64 l])):Sem Next):=by
  unfold ex execOp;simp [Go.resolve,Go.invoke,Go.builtin,hs,hx,bind,Sem.bind,pure]
 rw [hex,run_bind'];unfold Builtin.append_;simp only [fW,cA,cB];simp only [run_bind',zd ht,zR hsz,zd hdx,pure,Sem.run,asInt,asIntOf,if_true,hwl];obtain⟨inf0,hinf0,hbe0⟩:=zxb hb w;rw [if_neg O_];simp only [run_bind',hinf0,hbe0]
 have k0:¬ (l*(by_:Int)>2 ^ 48):=by
  have:(2:Int) ^ 48=281474976710656:=D_;omega
 rw [if_neg k0];simp only [run_bind',pure,Sem.run,hkd,Bool.not_true,bW,if_false,if_true];by_cases hfit:s.len+k<=s.cap
 ·rw [if_pos hfit];simp only [run_bind',hsrc w];rcases h.1 hfit with ⟨he,hK⟩ | ⟨hp,hw,h1,hK⟩
  ·subst he;cases hp:s.ptr with
   | none=>rw [hp] at hK; simp only [pure,Sem.run]; exact hK
   | some a=>rw [hp] at hK; simp only [storeCells,pure,Sem.run,run_bind']; exact hK
  ·have hK:=hK _ rfl;have hp':s.ptr=some ⟨pblk s.ptr,poff s.ptr,none⟩:=hp;clear hp;generalize pblk s.ptr=pb at *
   generalize poff s.ptr=po at *
   rw [hp'] at hK ⊢;simp only [run_bind',addr_add];have:=zrb (P:=P) (b:=pb) (o:=po+s.len*sz) src 0 w (by simpa using hw) h1;rw [this];simp only [pure,Sem.run];exact hK
 ·rw [if_neg hfit];obtain⟨hcap,old,hold,hK⟩:=h.2 O_;obtain⟨inf,hinf,hbe⟩:=zxb hb w;obtain⟨v,hv,hvc⟩:=z3b hz (w.drew)
  have hold':zsb (w.drew) s s.len sz old:=by
   obtain⟨h1,h2⟩:=hold;exact⟨h1,h2.imp id (λ⟨h3,h4⟩=>⟨h3,(zf.drewN (k:=1) h4)⟩)⟩
  simp only [run_bind',hinf,hbe];have hle0:=le_nextslicecap (show s.cap<s.len+k by omega)
  have k1:¬ (((s.len+k:Nat):Int)>IntKind.i64.max/\(True\/by_=0)):=by
   intro hh;have h4:Builtin.nextslicecap (s.len+k) s.cap*1<=Builtin.nextslicecap (s.len+k) s.cap*by_:=gK _ hby;have hm:IntKind.i64.max=9223372036854775807:=D_;rw [hm] at hh;omega
  rw [if_neg k1];simp only [run_bind',pure,Sem.run]
  have k2:¬ (Builtin.nextslicecap (s.len+k) s.cap*by_>2 ^ 48):=by
   have:(2:Nat) ^ 48=281474976710656:=D_;omega
  rw [hinf];simp only [hbe];rw [if_neg k2];simp only [choose,Sem.run,Question.forced,bW,if_false,run_bind'];have hd:({ heap:=w.heap,tape:=w.tape,drawn:=w.drawn+1,os:=w.os,output:=w.output }:World)=w.drew:=rfl;rw [hd];generalize hcv:Question.cut (.appendCap (s.len+k) s.cap e) (w.tape w.drawn (.appendCap (s.len+k) s.cap e))=cap
  have hc1:s.len+k<=cap/\cap<9223372036854775808\/9223372036854775808<=s.len+k:=by
   rw [<-hcv];simp only [Question.cut];rcases dB (s.len+k) 9223372036854775808 with h9 | h9
   ·left;have:(2:Nat) ^ 63=9223372036854775808:=D_;rw [this];have:=eQ (w.tape w.drawn (.appendCap (s.len+k) s.cap e)) (show 0<9223372036854775808 - (s.len+k) by omega);omega
   ·exact .inr h9
  obtain⟨inf2,hinf2,hbe2⟩:=zxb hb (w.drew);rw [hinf2];simp only [run_askRoom];rw [z4 hold'];simp only [hsrc w.drew,hv,hvc,zeroCells_eq,newRow,newObj,run_bind',pure,Sem.run];have hle:=le_nextslicecap (show s.cap<s.len+k by omega)
  have hnc:s.len+k<9223372036854775808:=by
   have:Builtin.nextslicecap (s.len+k) s.cap*1<=Builtin.nextslicecap (s.len+k) s.cap*by_:=gK _ hby;omega
  rcases hc1 with ⟨ha,hb'⟩ | hb'
  ·have:=hK cap w.heap.size _ ha hb' rfl rfl;have e1:(w.drew).heap.size=w.heap.size:=rfl;rw [e1]
   have e2:(old.toArray++src.toArray++zp (cap - (s.len+k)) zs)=(old++src++(zp (cap - (s.len+k)) zs).toList).toArray:=by
    apply gN; simp
   rw [e2];exact this
  ·omega
end
section
variable {P:Program} {n:Nat} {ops:Array Oper} {Q:Exit->Act->World->Prop} {π:List Nat} {pd:Pds} {ps i:Nat} {ge:GEnv} {w:World} {ty:TypeId} {dst:Option Nat}
theorem zNc {t tx e:TypeId} {a xo:Operand} {s x:Slc} {sz by_:Nat} {zs:List Value} (oe:Nat) (D:List Nat) (pd':Pds) (src:List Value) (hk:π[ps]? =some oe) (hB:zae ops (π.take ps) oe=true) (hD:zzc ops oe [] D=true) (hpd:zib D pd=pd')
    (ho:opAt n ops ge oe=some (.call { callee:= .builtin .append,args:=#[a,xo],argTypes:=#[t,tx] },ty,dst))
    (hs:rho ge a= .slice s.ptr s.len s.cap) (hx:rho ge xo= .slice x.ptr x.len x.cap) (ht:P.underlying t=some (.slice e)) (hsz:zB P e=some sz) (hb:zZb P e=some by_) (hz:zpd P e=some zs)
    (hb1:Nat.ble 1 by_=true) (hmk:srcT P tx=true)
    (hsrc:zj w x sz src) (h:zG sz by_ e zs s src x.len w (λr w'=>zgb pd' w'/\RegM P n ops Q π pd' (ps+1) (putG dst (.slice r.ptr r.len r.cap) ge) w')):RegM P n ops Q π pd ps ge w :=
 zKd oe D pd' hk hB hD hpd ho (zre hs hx ht hsz hb hz hb1 hmk (λw=>rfl) (z4 hsrc)
  (z4 (w:=w.drew) ⟨hsrc.1,hsrc.2.imp id (λ⟨h3,h4⟩=>⟨h3,(zf.drewN (k:=1) h4)⟩)⟩) h)
theorem zGj {t e:TypeId} {x lo:Operand} {s:Slc} {sz:Nat} {k:IntKind} {a:Int} (hk:π[ps]? =some i) (ho:opAt n ops ge i=some (.slice t x (some lo) none none,ty,dst))
    (hx:rho ge x= .slice s.ptr s.len s.cap) (hl:rho ge lo= .int k a) (ht:P.underlying t=some (.slice e)) (hs:zB P e=some sz)
    (hc:0<=a/\a<=((s.len:Nat):Int)/\((s.len:Nat):Int)<=((s.cap:Nat):Int)/\((s.cap:Nat):Int)<=((s.cap:Nat):Int))
    (h:∀ r,r=Slc.cut sz s a s.len s.cap->RegM P n ops Q π pd (ps+1) (putG dst (.slice r.ptr r.len r.cap) ge) w):RegM P n ops Q π pd ps ge w :=
 zce _ hk ho (λ_=>z7d hx hl ht hs hc) (h _ rfl)
theorem zkd {m:Nat} {C:World->Prop} {Q:Act->Prop} {t e:TypeId} {x lo:Operand} {s:Slc} {sz:Nat} {k:IntKind} {a:Int} (ho:opAt n ops ge i=some (.slice t x (some lo) none none,ty,dst))
    (hx:rho ge x= .slice s.ptr s.len s.cap) (hl:rho ge lo= .int k a) (ht:P.underlying t=some (.slice e)) (hs:zB P e=some sz)
    (hc:0<=a/\a<=((s.len:Nat):Int)/\((s.len:Nat):Int)<=((s.cap:Nat):Int)/\((s.cap:Nat):Int)<=((s.cap:Nat):Int))
    (h:∀ r,r=Slc.cut sz s a s.len s.cap->RegQ P n ops m C Q (i+1) (putG dst (.slice r.ptr r.len r.cap) ge) w):RegQ P n ops m C Q i ge w :=
 zkc _ ho (λ_ _=>z7d hx hl ht hs hc) (h _ rfl)
theorem zFh {m:Nat} {C:World->Prop} {Q:Act->Prop} {t e:TypeId} {x lo hi mx:Operand} {s:Slc} {sz:Nat} {k k' k'':IntKind} {a b c:Int} (ho:opAt n ops ge i=some (.slice t x (some lo) (some hi) (some mx),ty,dst))
    (hx:rho ge x= .slice s.ptr s.len s.cap) (hl:rho ge lo= .int k a) (hh:rho ge hi= .int k' b) (hm:rho ge mx= .int k'' c) (ht:P.underlying t=some (.slice e)) (hs:zB P e=some sz)
    (hc:0<=a/\a<=b/\b<=c/\c<=((s.cap:Nat):Int))
    (h:∀ r,r=Slc.cut sz s a b c->RegQ P n ops m C Q (i+1) (putG dst (.slice r.ptr r.len r.cap) ge) w):RegQ P n ops m C Q i ge w :=
 zkc _ ho (λ_ _=>zFf hx hl hh hm ht hs hc) (h _ rfl)
theorem z0f (s:ByteArray):((s.data.toList.map λb=>(b.toNat:Int)).foldl (λr n=>r.push (UInt8.ofNat n.toNat)) ByteArray.empty)=s:=by
 have key:∀(l:List UInt8) (r:ByteArray),((l.map λb=>(b.toNat:Int)).foldl (λr n=>r.push (UInt8.ofNat n.toNat)) r).data.toList=r.data.toList++l:=by
  intro l
  induction l with
  | nil=>intro r; simp
  | cons b l ih =>
   intro r;rw [cG,List.foldl_cons,ih];simp
 have h:=key s.data.toList ByteArray.empty;have h2:(ByteArray.empty).data.toList=[]:=rfl;rw [h2,eU] at h;exact ByteArray.ext (gN h)
theorem zGh {t d e:TypeId} {x:Operand} {s:Slc} {st:ByteArray} (hx:rho ge x= .slice s.ptr s.len s.cap) (ht:P.underlying t=some (.slice e)) (hd:P.underlying d=some .string) (he:P.underlying e=some (.int .u8))
    (h:zj w s 1 (z6 st)):(ex (.convert t d x) ty (rho ge)).run P w= .ok (.value (.string st)) w:=by
 have hc:(Conv.bytesToString (.slice s.ptr s.len s.cap)).run P w= .ok (.string st) w:=by
  obtain⟨h1,h2⟩:=h
  have hl:st.size=s.len:=by
   have:(z6 st).length=st.size:=by simp [z6]
   omega
  cases hp:s.ptr with
  | none =>
   rcases h2 with h2 | h2
   ·have:st=ByteArray.empty:=by
      have h3:=h2;unfold z6 at h3;exact ByteArray.ext (gN (by simpa using h3))
    rw [this]; rfl
   ·rw [hp] at h2; cases h2.1
  | some a =>
   have hload:(loadCells a s.len).run P w= .ok ((st.data.toList.map λb=>(b.toNat:Int)).map (Value.int .u8)).toArray w:=by
    have e1:(st.data.toList.map λb=>(b.toNat:Int)).map (Value.int .u8)=z6 st:=by unfold z6; rw [dR]; rfl
    rw [e1];rcases h2 with h2 | ⟨hat,hcs⟩
    ·have:s.len=0:=by rw [h2] at h1; simp at h1; omega
     rw [this,h2]; rfl
    ·rw [hp] at hat hcs;have ha:a=⟨pblk (some a),poff (some a),none⟩:=aE hat;rw [ha];exact z2b hcs O_
   rw [run_bytesToString w a s.len s.cap _ hload,z0f]
 have hcv:(convert t d (.slice s.ptr s.len s.cap)).run P w= .ok (.string st) w:=by
  unfold convert;simp only [run_bind',zd ht,zd hd];simp only [run_bind',zd he];exact hc
 unfold ex execOp;simp only [hx,run_bind',hcv];rfl
theorem zHh {Q:Exit->Act->World->Prop} {t d e:TypeId} {x:Operand} {s:Slc} {st:ByteArray} (ho:opAt n ops ge i=some (.convert t d x,ty,dst)) (hx:rho ge x= .slice s.ptr s.len s.cap) (ht:P.underlying t=some (.slice e)) (hd:P.underlying d=some .string) (he:P.underlying e=some (.int .u8))
    (hs:zj w s 1 (z6 st)) (h:RegG P n ops Q (i+1) (putG dst (.string st) ge) w):RegG P n ops Q i ge w :=
 zlb ho (by unfold OpS; rw [zGh hx ht hd he hs]; exact h)
theorem zOf {t tx e:TypeId} {a xo:Operand} {s:Slc} {sz by_:Nat} {zs:List Value} {l:Int} (ho:opAt n ops ge i=some (.call { callee:= .builtin .append,args:=#[a,xo],argTypes:=#[t,tx] },ty,dst))
    (hs:rho ge a= .slice s.ptr s.len s.cap) (hx:rho ge xo= .int .i64 l) (ht:P.underlying t=some (.slice e)) (hsz:zB P e=some sz) (hb:zZb P e=some by_) (hz:zpd P e=some zs)
    (hb1:Nat.ble 1 by_=true) (hmk:intT P tx=true) (hzl:zs.length=sz) (h0:0<=l) (hlb:l*(by_:Int)<=281474976710656)
    (h:zG sz by_ e zs s (zp l.toNat zs).toList l.toNat w (λr w'=>RegG P n ops Q (i+1) (putG dst (.slice r.ptr r.len r.cap) ge) w')):RegG P n ops Q i ge w :=
 zlb ho (zNf hs hx ht hsz hb hz hb1 hmk hzl h0 hlb h)
theorem zIh {t tx e:TypeId} {a xo:Operand} {s:Slc} {sz by_:Nat} {zs:List Value} {l:Int} (oe:Nat) (D:List Nat) (pd':Pds) (hk:π[ps]? =some oe) (hB:zae ops (π.take ps) oe=true) (hD:zzc ops oe [] D=true) (hpd:zib D pd=pd') (ho:opAt n ops ge oe=some (.call { callee:= .builtin .append,args:=#[a,xo],argTypes:=#[t,tx] },ty,dst))
    (hs:rho ge a= .slice s.ptr s.len s.cap) (hx:rho ge xo= .int .i64 l) (ht:P.underlying t=some (.slice e)) (hsz:zB P e=some sz) (hb:zZb P e=some by_) (hz:zpd P e=some zs)
    (hb1:Nat.ble 1 by_=true) (hmk:intT P tx=true) (hzl:zs.length=sz) (h0:0<=l) (hlb:l*(by_:Int)<=281474976710656)
    (h:zG sz by_ e zs s (zp l.toNat zs).toList l.toNat w (λr w'=>zgb pd' w'/\RegM P n ops Q π pd' (ps+1) (putG dst (.slice r.ptr r.len r.cap) ge) w')):RegM P n ops Q π pd ps ge w :=
 zKd oe D pd' hk hB hD hpd ho (zNf hs hx ht hsz hb hz hb1 hmk hzl h0 hlb h)
end
def goFn (P:Program) (f:FuncId):Bool:=match P.funcs[f]? with
 | some fn=> !(fn.name== "runtime.NumGoroutine")&&fn.body.isSome
 | none=>false
theorem zHe {P:Program} {f:FuncId} {args:Array Value} {w:World} (h:goFn P f=true):(callFunc f args).run P w= .ok (.enter f args) w:=by
 unfold goFn at h;cases hf:P.funcs[f]? with
 | none=>rw [hf] at h; cases h
 | some fn =>
  rw [hf] at h;simp only [aD,dO] at h
  have hb:fn.body.isNone=false:=by
   cases hx:fn.body with
   | none=>rw [hx] at h; simp at h
   | some c=>rfl
  unfold callFunc;rw [run_bind'];have hp:(program).run P w= .ok P w:=by simp [program,Sem.run]
  rw [hp];simp only [hf,h.1,hb,bW,if_false];rfl
def zw {P:Program} (fv:Value) (args:Array Value) (w:World) (K:Ending->World->Prop):Prop :=
 ∃ f first captured,fv= .func (.func f) first captured/\goFn P f=true/\Calls P f (first++args++captured) w K
theorem zw.mk {P:Program} {f:FuncId} {first captured args all:Array Value} {w:World} {K:Ending->World->Prop} (hg:goFn P f=true) (ha:first++args++captured=all) (h:Calls P f all w K) :
    zw (P:=P) (.func (.func f) first captured) args w K:=⟨f,first,captured,rfl,hg,ha ▸ h⟩
theorem zw.mono {P:Program} {fv:Value} {args:Array Value} {w:World} {K K':Ending->World->Prop} (h:zw (P:=P) fv args w K) (hk:∀ e w',K e w'->K' e w'):zw (P:=P) fv args w K':=by
 obtain⟨f,first,captured,h1,h2,h3⟩:=h;exact⟨f,first,captured,h1,h2,Calls.mono h3 hk⟩
section
variable {P:Program} {n:Nat} {ops:Array Oper} {Q:Exit->Act->World->Prop} {i:Nat} {ge:GEnv} {w:World} {ty:TypeId} {dst:Option Nat}
theorem zng {K:Value->World->Prop} {fo:Operand} {aa:Array Operand} {ts:Array TypeId} {fv:Value} {args:Array Value} (hf:rho ge fo=fv) (ha:aa.map (rho ge)=args)
    (h:zw (P:=P) fv args w (λe w'=>∃ v,e= .returned v/\K v w')):OpS P (.call { callee:= .value fo,args:=aa,argTypes:=ts }) ty (rho ge) w K:=by
 obtain⟨f,first,captured,h1,h2,h3⟩:=h
 have hr:(ex (.call { callee:= .value fo,args:=aa,argTypes:=ts }) ty (rho ge)).run P w= .ok (.enter f (first++args++captured)) w:=by
  have he:ex (.call { callee:= .value fo,args:=aa,argTypes:=ts }) ty (rho ge)=callFunc f (first++args++captured):=by
   unfold ex execOp;simp [Go.resolve,Go.invoke,hf,ha,h1,bind,Sem.bind,pure,Deferred.ofValue]
  rw [he,zHe h2]
 unfold OpS;rw [hr];exact h3
theorem z8b {fo:Operand} {aa:Array Operand} {ts:Array TypeId} {fv:Value} (args:Array Value) (ho:opAt n ops ge i=some (.call { callee:= .value fo,args:=aa,argTypes:=ts },ty,dst)) (hf:rho ge fo=fv) (ha:aa.map (rho ge)=args)
    (h:zw (P:=P) fv args w (λe w'=>∃ v,e= .returned v/\RegG P n ops Q (i+1) (putG dst v ge) w')):RegG P n ops Q i ge w:=zlb ho (zng hf ha h)
end
end
section
variable [Rnd]
section
variable {P:Program}
def eq1 (d:TypeDesc) (a b:Value):Option Bool :=
 match d,a,b with
 | .bool,.bool x,.bool y=>some (x==y)
 | .int _,.int k x,.int k' y=>if k=k' then some (x==y) else none
 | .string,.string x,.string y=>some (x==y)
 | _,_,_=>none
def z5i (P:Program) (xs ys:List Value) (f:Field):Option Bool :=
 if f.name= "_" then none else
 match P.underlying f.type,xs[f.offset]?,ys[f.offset]? with
 | some d,some a,some b=>if zVb P f.type then eq1 d a b else none
 | _,_,_=>none
def eqF (P:Program) (xs ys:List Value):Bool->List Field->Option Bool
 | acc,[]=>some acc
 | acc,f::fs=>match z5i P xs ys f with | some r=>eqF P xs ys (acc&&r) fs | none=>none
def zTg (P:Program) (t:TypeId) (xs ys:List Value):Option Bool :=
 match P.underlying t with
 | some (.struct fs)=>match fs.toList with
  | []=>none
  | f::fs=>match z5i P xs ys f with | some r=>eqF P xs ys r fs | none=>none
 | _=>none
theorem zCk {n:Nat} {t:TypeId} {d:TypeDesc} {a b:Value} {r:Bool} (hd:P.underlying t=some d) (h:eq1 d a b=some r) (w:World):(Op.equalIn (n+1) t a b).run P w= .ok r w:=by
 unfold Op.equalIn;rw [run_bind',zd hd];unfold eq1 at h;split at h
 ·cases h; rfl
 ·split at h
  ·rename_i hk
   cases h;simp only [hk,if_true]; rfl
  ·cases h
 ·cases h; rfl
 ·cases h
theorem z3e {t:TypeId} {xs:List Value} {o:Nat} {v:Value} (ht:zVb P t=true) (hv:xs[o]? =some v) (w:World):(part t xs.toArray o).run P w= .ok v w:=by
 unfold part;rw [run_bind',zDb ht];have:xs.toArray[o]? =some v:=by simpa using hv
 simp only [bW,if_false,this];rfl
theorem zHj {n:Nat} {xs ys:List Value} {f:Field} {r:Bool} (h:z5i P xs ys f=some r) (w:World) :
    f.name≠ "_"/\(part f.type xs.toArray f.offset >>= λa=>part f.type ys.toArray f.offset >>= λb=>Op.equalIn (n+1) f.type a b).run P w= .ok r w:=by
 unfold z5i at h;split at h
 ·cases h
 ·rename_i hn
  refine⟨hn,?_⟩;split at h
  ·rename_i d a b hd ha hb
   split at h
   ·rename_i hp
    rw [run_bind',z3e hp ha];show(part f.type ys.toArray f.offset >>= λb=>Op.equalIn (n+1) f.type a b).run P w=_;rw [run_bind',z3e hp hb];exact zCk hd h w
   ·cases h
  ·cases h
theorem zJh {xs ys:List Value}:∀ {fs:List Field} {r:Bool},eqF P xs ys false fs=some r->r=false
 | [],r,h=>by cases h; rfl
 | f::fs,r,h=>by
  unfold eqF at h;split at h
  ·exact zJh (by simpa using h)
  ·cases h
theorem z6i {xs ys:List Value} {n:Nat} {w:World}:∀ {fs:List Field} {r:Bool},eqF P xs ys true fs=some r ->
    (forIn (m:=Sem) fs ((none,()):Option Bool×Unit) λf __s =>
        if f.name≠ "_" then do
         let __do_lift <-part f.type xs.toArray f.offset;let __do_lift_1 <-part f.type ys.toArray f.offset;let __do_lift <-Op.equalIn (n+1) f.type __do_lift __do_lift_1
         if(!__do_lift)=true then pure (ForInStep.done (some false,()))
          else pure (ForInStep.yield (none,()))
        else pure (ForInStep.yield (none,()))).run P w= .ok (if r=true then(none,()) else(some false,())) w
 | [],r,h=>by
  cases h;rfl
 | f::fs,r,h=>by
  unfold eqF at h;split at h
  ·rename_i r1 h1
   obtain⟨hn,hr⟩:=zHj (n:=n) h1 w
   have hbody:∀ {β:Type} (K:Bool->Sem β),(do
       let __do_lift <-part f.type xs.toArray f.offset;let __do_lift_1 <-part f.type ys.toArray f.offset;let __do_lift <-Op.equalIn (n+1) f.type __do_lift __do_lift_1
       K __do_lift).run P w=(K r1).run P w:=λK=>by
    have e:(do
     let __do_lift <-part f.type xs.toArray f.offset;let __do_lift_1 <-part f.type ys.toArray f.offset;let __do_lift <-Op.equalIn (n+1) f.type __do_lift __do_lift_1
     K __do_lift).run P w=((part f.type xs.toArray f.offset >>= λa=>part f.type ys.toArray f.offset >>= λb=>Op.equalIn (n+1) f.type a b) >>= K).run P w:=by
     simp only [run_bind'];cases (part f.type xs.toArray f.offset).run P w <;> try rfl
     rename_i a w1
     simp only;cases (part f.type ys.toArray f.offset).run P w1 <;> rfl
    rw [e,run_bind',hr]
   rw [List.forIn_cons,run_bind',if_pos hn,hbody];cases r1 with
   | false =>
    have:=zJh (by simpa using h);subst this;rfl
   | true =>
    show Sem.run P (forIn fs _ _) w=_;exact z6i (by simpa using h)
  ·cases h
theorem zKh {n:Nat} {t:TypeId} {xs ys:List Value} {r:Bool} (h:zTg P t xs ys=some r) (hs:P.stoodInHeld t=false) (w:World) :
    (Op.equalIn (n+2) t (.agg xs.toArray) (.agg ys.toArray)).run P w= .ok r w:=by
 unfold zTg at h;split at h
 ·rename_i fs hu
  have hf:eqF P xs ys true fs.toList=some r:=by
   split at h
   ·cases h
   ·rename_i f fs' he
    rw [he];unfold eqF;split at h
    ·rename_i r1 h1
     simpa using h
    ·cases h
  unfold Op.equalIn;rw [run_bind',zd hu];dsimp only;have hp:(program).run P w= .ok P w:=by simp [program,Sem.run]
  rw [run_bind',hp];dsimp only;rw [if_neg (by rw [hs]; decide),<-Array.forIn_toList,run_bind',z6i hf];cases r <;> rfl
 ·cases h
theorem zCd {op:BinOp} {t:TypeId} {x y:Operand} {xs ys:Array Value} (hg:P.eqGuardType P.depth t=false) (w:World):(eqGuard op t x y (.agg xs) (.agg ys)).run P w= .ok () w:=by
 have hp:(program).run P w= .ok P w:=by simp [program,Sem.run]
 have key : ∀ s, (do
     let p1 <-program;let p2 <-program
     if(!p1.eqGuardType p2.depth t)=true then pure ()
      else do
       let g <-Op.eqGuardIn Op.maxDepth t (Value.agg xs) (Value.agg ys)
       if g=true then unsupported (.noEntry s) else pure ():Sem Unit).run P w= .ok () w:=by
  intro s
  rw [run_bind',hp];dsimp only;rw [run_bind',hp];dsimp only;rw [hg];rfl
 cases op <;> first | rfl | exact key _
end
section
variable {P:Program} {ge:GEnv} {ty xt yt:TypeId} {x y:Operand}
theorem zDd {xs ys:List Value} {r:Bool} (hx:rho ge x= .agg xs.toArray) (hy:rho ge y= .agg ys.toArray) (h:zTg P xt xs ys=some r) (hs:P.stoodInHeld xt=false) (hg:P.eqGuardType P.depth xt=false) (w:World) :
    (ex (.binOp .eql xt x y yt) ty (rho ge)).run P w= .ok (.value (.bool r)) w:=by
 refine zKc (by rw [hx,hy]; exact zCd hg w) ?_;rw [hx,hy];show(Op.equal xt _ _ >>= λr=>pure (Value.bool (r))).run P w=_;rw [run_bind',show Op.equal xt (.agg xs.toArray) (.agg ys.toArray)=Op.equalIn (9998+2) xt (.agg xs.toArray) (.agg ys.toArray) from rfl,zKh h hs];rfl
end
end
section
variable [Rnd]
def zUg (w:World) (x y:Slc):Prop :=
 IsAt x.ptr/\IsAt y.ptr/\pblk x.ptr≠pblk y.ptr/\∃ TA kA TB kB,w.shape? (pblk x.ptr)=some (TA,kA)/\w.shape? (pblk y.ptr)=some (TB,kB)/\kB≠0/\∀ o,w.frozen? ⟨pblk x.ptr,o,none⟩=false
section
variable {P:Program} {n:Nat} {ops:Array Oper} {Q:Exit->Act->World->Prop} {i:Nat} {ge:GEnv} {w:World} {ty:TypeId} {dst:Option Nat}
theorem zVg {fo a b:Operand} {ts:Array TypeId} {f:FuncId} {fn:Func} {x y:Slc} {tS tR e:TypeId} {sz:Nat} (hfo:rho ge fo= .func (.func f) #[] #[]) (ha:rho ge a= .slice x.ptr x.len x.cap) (hb:rho ge b= .slice y.ptr y.len y.cap)
    (hf:P.funcs[f]? =some fn) (hname:(fn.name== "runtime.NumGoroutine")=false) (hbn:fn.body.isNone=true) (hn:Extern.findNext fn=none) (hex:Extern.find fn=some (Extern.SlicesOverlaps.overlaps #[tS,tS] #[tR]))
    (ht:P.underlying tS=some (.slice e)) (hz:zB P e=some sz) (h:zUg w x y) :
    (ex (.call { callee:= .value fo,args:=#[a,b],argTypes:=ts }) ty (rho ge)).run P w= .ok (.value (.bool false)) w:=by
 obtain⟨h1,h2,h3,TA,kA,TB,kB,h4,h5,h6,h7⟩:=h
 have he:ex (.call { callee:= .value fo,args:=#[a,b],argTypes:=ts }) ty (rho ge)=callFunc f #[.slice x.ptr x.len x.cap,.slice y.ptr y.len y.cap]:=by
  unfold ex execOp;simp [Go.resolve,Go.invoke,hfo,ha,hb,bind,Sem.bind,pure,Deferred.ofValue]
 have hx:x.ptr=some ⟨pblk x.ptr,poff x.ptr,none⟩:=h1;have hy:y.ptr=some ⟨pblk y.ptr,poff y.ptr,none⟩:=h2;rw [he,run_callFunc_extern hf hname hbn hn hex];generalize pblk x.ptr=pa at *
 generalize poff x.ptr=oa at *
 generalize pblk y.ptr=pb at *
 generalize poff y.ptr=ob at *
 rw [hx,hy,Lib.run_overlaps_apart w tS tR e ht sz (zR hz) ⟨pa,oa,none⟩ ⟨pb,ob,none⟩ x.len x.cap y.len y.cap h3 TA TB kA kB h4 h5 h6 (h7 _) (h7 _)];rfl
theorem zLh {fo a b:Operand} {ts:Array TypeId} (f:FuncId) {fn:Func} {x y:Slc} {tS tR e:TypeId} {sz:Nat} (ho:opAt n ops ge i=some (.call { callee:= .value fo,args:=#[a,b],argTypes:=ts },ty,dst))
    (hfo:rho ge fo= .func (.func f) #[] #[]) (ha:rho ge a= .slice x.ptr x.len x.cap) (hb:rho ge b= .slice y.ptr y.len y.cap)
    (hf:P.funcs[f]? =some fn) (hname:(fn.name== "runtime.NumGoroutine")=false) (hbn:fn.body.isNone=true) (hn:Extern.findNext fn=none) (hex:Extern.find fn=some (Extern.SlicesOverlaps.overlaps #[tS,tS] #[tR]))
    (ht:P.underlying tS=some (.slice e)) (hz:zB P e=some sz) (h:zUg w x y) (h':RegG P n ops Q (i+1) (putG dst (.bool false) ge) w):RegG P n ops Q i ge w :=
 zlb ho (by unfold OpS; rw [zVg hfo ha hb hf hname hbn hn hex ht hz h]; exact h')
end
end
end Go.Proofs.YtofjmclceflgiaaGreat
