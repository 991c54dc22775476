/-
  A part of the proof of TopCollects.
  Conditions: none.
-/
import Derived.Test.YtofjmclceflgiaaGreatCore
namespace Go.Proofs.YtofjmclceflgiaaGreat
open Go
set_option linter.defProp false
set_option linter.unusedSimpArgs false
set_option linter.unusedVariables false
set_option linter.unusedSectionVars false
section
variable [Rnd]
def zWg:Value->Bool
 | .nilIface=>true
 | _=>false
def IfV (x:Value):Prop:=x= .nilIface\/∃ t v,x= .iface t v
def zsp (T:TypeId) (x:Value):Prop:=x= .nilIface\/∃ t v,x= .iface t v/\t≠T
def zyi (P:Program) (t:TypeId):Bool:=match P.underlying t with | some (.interface _)=>true | _=>false
def ztp (P:Program) (t:TypeId):Bool:=match P.underlying t with | some (.interface _)=>false | some _=>true | none=>false
section
variable {P:Program} {ge:GEnv} {ty xt yt:TypeId} {x y:Operand}
theorem zIj (h:zyi P xt=true):∃ e,∀ w,(underlying xt).run P w= .ok (.interface e) w:=by
 unfold zyi at h;cases hu:P.underlying xt with
 | none=>rw [hu] at h; cases h
 | some d=>rw [hu] at h; cases d <;> first | (cases h; done) | exact⟨_,zd hu⟩
theorem zDk {p:Value} (hi:IfV p) (ht:zyi P xt=true) (w:World):(Op.equal xt p .nilIface).run P w= .ok (zWg p) w:=by
 obtain⟨d,hu⟩:=zIj ht;show(Op.equalIn (9999+1) xt p .nilIface).run P w=_;unfold Op.equalIn;rw [run_bind',hu];rcases hi with rfl | ⟨t,v,rfl⟩ <;> rfl
theorem zMh {p:Value} (hx:rho ge x=p) (hi:IfV p) (ht:zyi P xt=true) (w:World) :
    (ex (.binOp .eql xt x (.const .nilIface) yt) ty (rho ge)).run P w= .ok (.value (.bool (zWg p))) w:=by
 have he:=zDk (P:=P) hi ht w;refine zKc ?_ ?_
 ·rw [hx];rcases hi with rfl | ⟨t,v,rfl⟩
  ·clear hx; cases x <;> rfl
  ·rfl
 rw [hx]
 have:(binOp .eql xt p .nilIface)=(Op.equal xt p .nilIface >>= λr=>pure (Value.bool (r))):=by
  rcases hi with rfl | ⟨t,v,rfl⟩ <;> rfl
 show(binOp .eql xt p .nilIface).run P w=_;rw [this,run_bind',he];rfl
theorem zNh {T:TypeId} {p z:Value} (hx:rho ge x=p) (hn:zsp T p) (ht:ztp P T=true) (hz:∀ w,(zeroValue T).run P w= .ok z w) (w:World) :
    (ex (.typeAssert x xt T true) ty (rho ge)).run P w= .ok (.value (.tuple #[z,.bool false])) w:=by
 unfold ztp at ht;cases hu:P.underlying T with
 | none=>rw [hu] at ht; cases ht
 | some d =>
  rw [hu] at ht;have hu':=λw=>zd (P:=P) hu w;unfold ex execOp;show((Instr.typeAssert (rho ge x) xt T true) >>= λv=>pure (Next.value v)).run P w=_;rw [hx]
  have key:(Instr.typeAssert p xt T true).run P w= .ok (.tuple #[z,.bool false]) w:=by
   unfold Instr.typeAssert;rw [run_bind',hu'];rcases hn with rfl | ⟨t,v,rfl,hne⟩
   ·cases d <;> first | (cases ht; done) | (show((zeroValue T) >>= λz=>pure (Value.tuple #[z,.bool false])).run P w=_; rw [run_bind',hz]; rfl)
   ·cases d <;> first | (cases ht; done) | (simp only [if_neg hne]; show((zeroValue T) >>= λz=>pure (Value.tuple #[z,.bool false])).run P w=_; rw [run_bind',hz]; rfl)
  rw [run_bind',key];rfl
end
end
section
variable [Rnd]
def zFb (es:Array MapEntry) (k:Int):Bool:=es.toList.any λe=>match e.key with | .int .i64 j=>decide (j=k) | _=>false
def z6c (es:Array MapEntry):Prop:=∀ e∈es.toList,(∃ j,e.key= .int .i64 j)/\e.val= .agg #[]
def zhb (w:World) (m:Option Nat) (es:Array MapEntry):Prop:=(m=none/\es=#[])\/∃ r c,m=some r/\w.heap[r]? =some (.map es c)
theorem zse {es:Array MapEntry} (h:z6c es) {k:Int}:zFb es k=true↔∃ e∈es.toList,e.key= .int .i64 k:=by
 unfold zFb;rw [dU];constructor
 ·rintro⟨e,he,hk⟩;obtain⟨⟨j,hj⟩,_⟩:=h e he;rw [hj] at hk;have:j=k:=by simpa using hk
  exact⟨e,he,by rw [hj,this]⟩
 ·rintro⟨e,he,hk⟩;exact⟨e,he,by rw [hk]; simp⟩
section
variable {P:Program} {n:Nat} {ops:Array Oper} {i:Nat} {ge:GEnv} {w:World} {ty:TypeId} {dst:Option Nat} {t kt et:TypeId} {x k v:Operand}
theorem zzi {m:Option Nat} {es:Array MapEntry} {j:Int} (hx:rho ge x= .map m) (hk:rho ge k= .int .i64 j) (hu:P.underlying t=some (.map kt et)) (hkt:P.underlying kt=some (.int .i64)) (hz:∀ w,(zeroValue et).run P w= .ok (.agg #[]) w) (hm:zhb w m es) (hi:z6c es) :
    (ex (.lookup t x k true) ty (rho ge)).run P w= .ok (.value (.tuple #[.agg #[],.bool (zFb es j)])) w:=by
 have hc:∀ b,(Instr.checkKey b 10000 kt (.int .i64 j)).run P w= .ok () w:=λb=>MapKept.run_checkKey hkt (by simp [MapKept.IsKey]) b 9999;have hs:=MapKept.findNow_spec (d:= .int .i64) (k:= .int .i64 j) (by simp [MapKept.IsKey]) es.toList 0 (λe he=>by obtain⟨⟨q,hq⟩,_⟩:=hi e he; rw [hq]; simp [MapKept.IsKey])
 have key:(Instr.lookup t (.map m) (.int .i64 j) true).run P w= .ok (.tuple #[.agg #[],.bool (zFb es j)]) w:=by
  rcases hs with ⟨h1,h2⟩ | ⟨q,e,h1,h2,h3⟩
  ·have hf:=MapKept.run_findKey (P:=P) (w:=w) hkt h1
   have hb:zFb es j=false:=by
    cases hb:zFb es j with
    | false=>rfl
    | true=>obtain⟨e,he,hk⟩:=(zse hi).1 hb; exact absurd hk (h2 e he)
   rw [hb];rcases hm with ⟨rfl,rfl⟩ | ⟨r,c,rfl,hr⟩
   ·simp [Instr.lookup,zd hu,hc,hf,hz,Result.andThen]
   ·simp [Instr.lookup,zd hu,hc,hf,hz,MapKept.run_getObj_map hr,Result.andThen]
  ·have hf:=MapKept.run_findKey (P:=P) (w:=w) hkt h1;have he:=gF h2;have hb:zFb es j=true:=(zse hi).2 ⟨e,he,h3⟩;have hv:=(hi e he).2;rw [hb];rcases hm with ⟨rfl,rfl⟩ | ⟨r,c,rfl,hr⟩
   ·cases he
   ·simp [Instr.lookup,zd hu,hc,hf,hv,MapKept.run_getObj_map hr,Result.andThen]
 unfold ex execOp;simp only [hx,hk];rw [run_bind',key];rfl
theorem z1f {r c:Nat} {es:Array MapEntry} {j:Int} {vv:Value} (hx:rho ge x= .map (some r)) (hk:rho ge k= .int .i64 j) (hv:rho ge v=vv) (hu:P.underlying t=some (.map kt et)) (hkt:P.underlying kt=some (.int .i64)) (hz:∀ w,(zeroValue et).run P w= .ok (.agg #[]) w) (hm:w.heap[r]? =some (.map es c)) (hi:z6c es) (hn:zFb es j=false) :
    (ex (.mapUpdate t x k v) ty (rho ge)).run P w= .ok .skip { w with heap:=w.heap.setIfInBounds r (.map (es.push ⟨.int .i64 j,vv,c⟩) (c+1)) }:=by
 have hc:∀ b,(Instr.checkKey b 10000 kt (.int .i64 j)).run P w= .ok () w:=λb=>MapKept.run_checkKey hkt (by simp [MapKept.IsKey]) b 9999;have hs:=MapKept.findNow_spec (d:= .int .i64) (k:= .int .i64 j) (by simp [MapKept.IsKey]) es.toList 0 (λe he=>by obtain⟨⟨q,hq⟩,_⟩:=hi e he; rw [hq]; simp [MapKept.IsKey])
 have h1:Instr.findNow (.int .i64) (.int .i64 j) es.toList 0=some none:=by
  rcases hs with ⟨h1,_⟩ | ⟨q,e,_,h2,h3⟩
  ·exact h1
  ·have:=(zse hi).2 ⟨e,gF h2,h3⟩;rw [hn] at this; cases this
 have hf:=MapKept.run_findKey (P:=P) (w:=w) hkt h1
 have key:(Instr.mapUpdate t (.map (some r)) (.int .i64 j) vv).run P w= .ok () { w with heap:=w.heap.setIfInBounds r (.map (es.push ⟨.int .i64 j,vv,c⟩) (c+1)) }:=by
  simp [Instr.mapUpdate,zd hu,MapKept.run_getObj_map hm,hc,hf,MapKept.run_setObj_map _ hm,Result.andThen]
 unfold ex execOp;simp only [hx,hk,hv];rw [run_bind',key];rfl
theorem zOh {m:Option Nat} {es:Array MapEntry} {w':World} (h:zhb w m es) (e:Ext w w'):zhb w' m es:=by
 rcases h with h | ⟨r,c,h1,h2⟩
 ·exact .inl h
 ·exact .inr ⟨r,c,h1,(e.block r (dD.1 h2).1).trans h2⟩
end
section
variable {P:Program} {n:Nat} {ops:Array Oper} {i:Nat} {ge:GEnv} {w:World} {ty:TypeId} {dst:Option Nat} {t kt et:TypeId} {x k v:Operand}
theorem zPh {Q:Exit->Act->World->Prop} {π:List Nat} {pd:Pds} {ps:Nat} {m:Option Nat} {es:Array MapEntry} {j:Int} (hπ:π[ps]? =some i) (ho:opAt n ops ge i=some (.lookup t x k true,ty,dst)) (hx:rho ge x= .map m) (hk:rho ge k= .int .i64 j) (hu:P.underlying t=some (.map kt et)) (hkt:P.underlying kt=some (.int .i64)) (hz:∀ w,(zeroValue et).run P w= .ok (.agg #[]) w) (hm:zhb w m es) (hi:z6c es)
    (h:RegM P n ops Q π ((i,λw'=>zhb w' m es)::pd) (ps+1) (putG dst (.tuple #[.agg #[],.bool (zFb es j)]) ge) w):RegM P n ops Q π pd ps ge w :=
 z4c _ _ hπ ho (λw' hw=>zzi hx hk hu hkt hz hw hi) hm h
theorem z2f {Q:Exit->Act->World->Prop} {m:Option Nat} {es:Array MapEntry} {j:Int} {vv:Value} (r c:Nat) (ho:opAt n ops ge i=some (.mapUpdate t x k v,ty,dst)) (hx:rho ge x= .map m) (hr:m=some r) (hk:rho ge k= .int .i64 j) (hv:rho ge v=vv) (hu:P.underlying t=some (.map kt et)) (hkt:P.underlying kt=some (.int .i64)) (hz:∀ w,(zeroValue et).run P w= .ok (.agg #[]) w) (hm:w.heap[r]? =some (.map es c)) (hi:z6c es) (hn:zFb es j=false)
    (h:∀ w',w'={ w with heap:=w.heap.setIfInBounds r (.map (es.push ⟨.int .i64 j,vv,c⟩) (c+1)) }->RegG P n ops Q (i+1) (putG dst undef ge) w'):RegG P n ops Q i ge w :=
 zlb ho (by unfold OpS; rw [z1f (by rw [hx,hr]) hk hv hu hkt hz hm hi hn]; exact h _ rfl)
end
end
section
variable [Rnd]
section
variable {P:Program} {n:Nat} {ops:Array Oper} {i:Nat} {ge:GEnv} {w:World} {ty:TypeId} {dst:Option Nat}
end
end
section
variable [Rnd]
section
variable {P:Program} {n:Nat} {ops:Array Oper} {i:Nat} {ge:GEnv} {w:World} {ty:TypeId} {dst:Option Nat} {t kt et:TypeId} {x k v:Operand}
theorem zAi {Q:Exit->Act->World->Prop} {π:List Nat} {pd:Pds} {ps:Nat} {fo:Operand} {aa:Array Operand} {ts:Array TypeId} {fv:Value} (e:Nat) (D:List Nat) (pd':Pds) (args:Array Value) (hπ:π[ps]? =some e) (hB:zae ops (π.take ps) e=true) (hD:zzc ops e [] D=true) (hpd:zib D pd=pd')
    (ho:opAt n ops ge e=some (.call { callee:= .value fo,args:=aa,argTypes:=ts },ty,dst)) (hf:rho ge fo=fv) (ha:aa.map (rho ge)=args)
    (h:zw (P:=P) fv args w (λev w'=>∃ v,ev= .returned v/\zgb pd' w'/\RegM P n ops Q π pd' (ps+1) (putG dst v ge) w')):RegM P n ops Q π pd ps ge w :=
 zKd e D pd' hπ hB hD hpd ho (zng hf ha h)
end
end
section
variable [Rnd]
section
variable {P:Program}
def zXg (P:Program) (t:TypeId) (N:Nat) (k:IntKind):Bool:=match P.underlying t with
 | some (.array m e)=>decide (m=N)&&zVb P e&&(match P.underlying e with | some (.int k')=>decide (k=k') | _=>false)&&decide (zB P e=some 1)
 | _=>false
theorem zQh {t:TypeId} {N:Nat} {k:IntKind} (h:zXg P t N k=true):∃ e k',P.underlying t=some (.array N e)/\zVb P e=true/\P.underlying e=some (.int k')/\zB P e=some 1:=by
 unfold zXg at h;split at h
 ·rename_i m e hu
  simp only [aD,decide_eq_true_eq] at h;obtain⟨⟨⟨rfl,h2⟩,h3⟩,h4⟩:=h;split at h3
  ·rename_i k' hk
   exact⟨e,k',hu,h2,hk,h4⟩
  ·cases h3
 ·cases h
theorem zog {n:Nat} {e:TypeId} {k k':IntKind} (hd:P.underlying e=some (.int k')) (hp:zVb P e=true) {xs ys:List Int} (hl:xs.length=ys.length) {w:World}:∀(m s:Nat),s+m=xs.length ->
    (forIn (m:=Sem) (List.range' s m 1) ((none,()):Option Bool×Unit) λi __s=>do
        let __do_lift <-part e (List.map (Value.int k) xs).toArray (i*1);let __do_lift_1 <-part e (List.map (Value.int k) ys).toArray (i*1);let __do_lift <-Op.equalIn (n+1) e __do_lift __do_lift_1
        if(!__do_lift)=true then pure (ForInStep.done (some false,())) else pure (ForInStep.yield (none,()))).run P w= .ok (if(xs.drop s==ys.drop s)=true then(none,()) else(some false,())) w
 | 0,s,hs=>by
  rw [cL O_,cL O_];rfl
 | m+1,s,hs=>by
  have h1:s<xs.length:=O_;have h2:s<ys.length:=O_;have e1:(xs.map (Value.int k))[s*1]? =some (.int k xs[s]):=by rw [aW,aF,aA h1]; rfl
  have e2:(ys.map (Value.int k))[s*1]? =some (.int k ys[s]):=by rw [aW,aF,aA h2]; rfl
  have h3:(Op.equalIn (n+1) e (.int k xs[s]) (.int k ys[s])).run P w= .ok (xs[s]==ys[s]) w:=zCk hd (by unfold eq1; simp) w;rw [List.range'_succ,List.forIn_cons,run_bind'];rw [run_bind',z3e hp e1];dsimp only;rw [run_bind',z3e hp e2];dsimp only;rw [run_bind',h3];dsimp only;rw [bO h1,bO h2];by_cases hx:xs[s]=ys[s]
  ·rw [if_neg (by simp [hx])];have:=zog (n:=n) (k:=k) hd hp hl (w:=w) m (s+1) O_;show(forIn (m:=Sem) (List.range' (s+1) m 1) ((none,()):Option Bool×Unit) _).run P w=_;rw [this,List.cons_beq_cons,hx,beq_self_eq_true,dS]
  ·rw [if_pos (by simpa using hx),List.cons_beq_cons,beq_eq_false_iff_ne.2 hx,Bool.false_and];rfl
theorem zEk {n:Nat} {t:TypeId} {N:Nat} {xs ys:List Int} {k:IntKind} (ht:zXg P t N k=true) (hx:xs.length=N) (hy:ys.length=N) (w:World) :
    (Op.equalIn (n+2) t (.agg (xs.map (Value.int k)).toArray) (.agg (ys.map (Value.int k)).toArray)).run P w= .ok (xs==ys) w:=by
 obtain⟨e,k',h1,h2,h3,h4⟩:=zQh ht;unfold Op.equalIn;rw [run_bind',zd h1];dsimp only;rw [run_bind',zR h4];dsimp only;rw [Std.Legacy.Range.forIn_eq_forIn_range'];have hr:([:N]:Std.Legacy.Range).size=N:=by simp [Std.Legacy.Range.size]
 rw [hr,run_bind'];have:=zog (n:=n) (k:=k) h3 h2 (hx.trans hy.symm) (w:=w) N 0 O_;rw [fC,fC] at this;have hst:([:N]:Std.Legacy.Range).start=0:=rfl;have hsp:([:N]:Std.Legacy.Range).step=1:=rfl;rw [hst,hsp];rw [this];cases hb:(xs==ys) <;> rfl
end
section
variable {P:Program} {ge:GEnv} {ty xt yt:TypeId} {x y:Operand}
theorem zBi {xs ys:List Int} {N:Nat} {k:IntKind} (hx:rho ge x= .agg (xs.map (Value.int k)).toArray) (hy:rho ge y= .agg (ys.map (Value.int k)).toArray) (ht:zXg P xt N k=true) (h1:xs.length=N) (h2:ys.length=N) (hg:P.eqGuardType P.depth xt=false) (w:World) :
    (ex (.binOp .neq xt x y yt) ty (rho ge)).run P w= .ok (.value (.bool (!(xs==ys)))) w:=by
 refine zKc (by rw [hx,hy]; exact zCd hg w) ?_;rw [hx,hy];show(Op.equal xt _ _ >>= λr=>pure (Value.bool (!r))).run P w=_;rw [run_bind',show Op.equal xt (.agg (xs.map (Value.int k)).toArray) (.agg (ys.map (Value.int k)).toArray)=Op.equalIn (9998+2) xt (.agg (xs.map (Value.int k)).toArray) (.agg (ys.map (Value.int k)).toArray) from rfl,zEk ht h1 h2];rfl
end
def zLd:Value->Bool
 | .nilFunc=>true
 | _=>false
def FnV (x:Value):Prop:=x= .nilFunc\/∃ f a c,x= .func f a c
def zCi (P:Program) (t:TypeId):Bool:=match P.underlying t with | some (.func _ _ _)=>true | _=>false
section
variable {P:Program} {ge:GEnv} {ty xt yt:TypeId} {x y:Operand}
theorem zJj (h:zCi P xt=true):∃ a b c,∀ w,(underlying xt).run P w= .ok (.func a b c) w:=by
 unfold zCi at h;cases hu:P.underlying xt with
 | none=>rw [hu] at h; cases h
 | some d=>rw [hu] at h; cases d <;> first | (cases h; done) | exact⟨_,_,_,zd hu⟩
theorem zRl {p:Value} (hi:FnV p) (ht:zCi P xt=true) (w:World):(Op.equal xt p .nilFunc).run P w= .ok (zLd p) w:=by
 obtain⟨a,b,c,hu⟩:=zJj ht;show(Op.equalIn (9999+1) xt p .nilFunc).run P w=_;unfold Op.equalIn;rw [run_bind',hu];rcases hi with rfl | ⟨t,u,v,rfl⟩ <;> rfl
theorem zIe {p:Value} (hx:rho ge x=p) (hi:FnV p) (ht:zCi P xt=true) (w:World) :
    (ex (.binOp .eql xt x (.const .nilFunc) yt) ty (rho ge)).run P w= .ok (.value (.bool (zLd p))) w:=by
 have he:=zRl (P:=P) hi ht w;refine zKc ?_ ?_
 ·rw [hx];rcases hi with rfl | ⟨t,u,v,rfl⟩
  ·clear hx; cases x <;> rfl
  ·rfl
 rw [hx]
 have:(binOp .eql xt p .nilFunc)=(Op.equal xt p .nilFunc >>= λr=>pure (Value.bool (r))):=by
  rcases hi with rfl | ⟨t,u,v,rfl⟩ <;> rfl
 show(binOp .eql xt p .nilFunc).run P w=_;rw [this,run_bind',he];rfl
end
end
section
variable [Rnd]
structure zKb (P:Program) (kt:TypeId) (IsK:Value->Prop):Prop where
 check:∀(w:World) (em:Bool) {v:Value},IsK v->(Instr.checkKey em 10000 kt v).run P w= .ok () w
 find:∀(w:World) {x:Value},IsK x->∀ es:List MapEntry,(∀ e∈es,IsK e.key) ->
  ((Instr.findKey kt x es).run P w= .ok none w/\∀ e∈es,e.key≠x)\/∃ j e,(Instr.findKey kt x es).run P w= .ok (some (j,e.val)) w/\es[j]? =some e/\e.key=x
 stays:∀(w:World) {v:Value},IsK v->(Instr.keyThatStays v v).run P w= .ok v w
def isKS (v:Value):Prop:=∃ s,v= .string s
def isKI (v:Value):Prop:=∃ j,v= .int .i64 j
def isKP (v:Value):Prop:=∃ a b,v= .agg #[.int .i64 a,.int .i64 b]/\(-9223372036854775808<=a/\a<=9223372036854775807)/\(-9223372036854775808<=b/\b<=9223372036854775807)
theorem z7i {P:Program} {kt:TypeId} {d:TypeDesc} (hd:P.underlying kt=some d) (IsK:Value->Prop) (hk:∀ v,IsK v->MapKept.IsKey d v):zKb P kt IsK:=by
 refine⟨λw em v hv=>MapKept.run_checkKey hd (hk v hv) em 9999,λw x hx es he=> ?_,λw v hv=>MapKept.run_keyThatStays (hk v hv)⟩;rcases MapKept.findNow_spec (hk x hx) es 0 (λe h=>hk _ (he e h)) with ⟨h1,h2⟩ | ⟨q,e,h1,h2,h3⟩
 ·exact .inl ⟨MapKept.run_findKey hd h1,h2⟩
 ·exact .inr ⟨q,e,by have:=MapKept.run_findKey (P:=P) (w:=w) hd h1; rw [dE] at this; exact this,h2,h3⟩
theorem keyS {P:Program} {kt:TypeId} (h:P.underlying kt=some .string):zKb P kt isKS:=z7i h isKS λv ⟨s,e⟩=>by rw [e]; trivial
theorem keyI {P:Program} {kt:TypeId} (h:P.underlying kt=some (.int .i64)):zKb P kt isKI:=z7i h isKI λv ⟨s,e⟩=>by rw [e]; exact rfl
theorem keyP {P:Program} {kt et:TypeId} (hu:P.underlying kt=some (.array 2 et)) (he:P.underlying et=some (.int .i64)) (h1:P.cellsOf et=1) (h2:P.cellsOf kt=2) (hs:P.types.size=P.types.size - 1+1):zKb P kt isKP:=by
 have A:WideMaps.ArrKey P kt et 2:=⟨hu,by unfold Program.plainKey; rw [he],h1,h2⟩
 have K:=A.law
 have hl:∀ v,isKP v->∃ l,keyOf P kt v=some l:=λv ⟨a,b,e,ha,hb⟩=>by
  subst e
  have wf:∀ x:Int,(-9223372036854775808<=x/\x<=9223372036854775807)->(Lit.int .i64 x).wf=true:=λx hx=>by
   have hmin:IntKind.min .i64= -9223372036854775808:=by rfl
   have hmax:IntKind.max .i64=9223372036854775807:=by rfl
   show(decide (IntKind.min .i64<=x)&&decide (x<=IntKind.max .i64))=true;rw [hmin,hmax,decide_eq_true hx.1,decide_eq_true hx.2]; rfl
  refine⟨.string (keyBytes [.int .i64 a,.int .i64 b]),?_⟩
  have hf:Value.formed P kt (.agg #[.int .i64 a,.int .i64 b])=true:=by
   unfold Value.formed;simp only [hu,h2];rfl
  have e1:∀(d:Nat) (x:Int),(-9223372036854775808<=x/\x<=9223372036854775807)->P.keyLits (d+1) et [.int .i64 x]=some [.int .i64 x]:=λd x hx=>by
   unfold Program.keyLits;simp only [he];rw [if_pos ⟨trivial,wf x hx⟩]
  have e2:P.keyLits (P.types.size+1) kt [.int .i64 a,.int .i64 b]=some [.int .i64 a,.int .i64 b]:=by
   rw [hs];unfold Program.keyLits;simp only [hu];rw [if_pos (by rw [h2]; rfl),h1];have a1:=e1 (P.types.size - 1) a ha;have b1:=e1 (P.types.size - 1) b hb;simp only [List.range_succ,List.range_zero,eU,dV,List.mapM_cons,List.mapM_nil,fG,Nat.one_mul,fC,List.drop_succ_cons,List.take_succ_cons,gO,a1,b1];rfl
  unfold keyOf;simp only [hu];rw [if_pos (by rw [A.keyType ⟨_,hs⟩,hf]; rfl)];show(P.keyLits (P.types.size+1) kt [.int .i64 a,.int .i64 b]).map _=_;rw [e2]; rfl
 exact⟨λw em v hv=>(hl v hv).elim λl h=>K.check w em h,λw x hx es he=>(hl x hx).elim λl h=>K.find w h es λe h'=>hl _ (he e h'),λw v hv=>(hl v hv).elim λl h=>K.stays w h⟩
def zH (IsK:Value->Prop) (es:Array MapEntry):Prop:=∀ e∈es.toList,IsK e.key
open Classical in
noncomputable def zQ (es:Array MapEntry) (k:Value):Option Value:=(es.toList.find? λe=>decide (e.key=k)).map (·.val)
def LkIs (es:Array MapEntry) (k z u:Value) (b:Bool):Prop:=(zQ es k=none/\u=z/\b=false)\/(zQ es k=some u/\b=true)
def zee (es:Array MapEntry) (c:Nat) (k v:Value) (es2:Array MapEntry) (c2:Nat):Prop :=
 ((∀ e∈es.toList,e.key≠k)/\es2=es.push ⟨k,v,c⟩/\c2=c+1)\/∃ i e,es.toList[i]? =some e/\e.key=k/\(∀ j x,j<i->es.toList[j]? =some x->x.key≠k)/\es2=es.modify i (λe=>{ e with key:=k,val:=v })/\c2=c
def zRh (es:Array MapEntry) (k:Value) (es2:Array MapEntry):Prop :=
 ((∀ e∈es.toList,e.key≠k)/\es2=es)\/∃ i e,es.toList[i]? =some e/\e.key=k/\es2=es.eraseIdxIfInBounds i
theorem zld {es:Array MapEntry} {k:Value} (h:∀ e∈es.toList,e.key≠k):zQ es k=none:=by
 unfold zQ;rw [List.find?_eq_none.2 (λe he=>by simpa using h e he)]; rfl
theorem zte {p:MapEntry->Bool}:∀ {l:List MapEntry} {j:Nat} {e:MapEntry},l[j]? =some e->p e=true->(∀ i x,i<j->l[i]? =some x->p x=false)->l.find? p=some e
 | x::l,0,e,h,hp,_=>by
  have:x=e:=by simpa using h
  subst this;exact List.find?_cons_of_pos hp
 | x::l,j+1,e,h,hp,hi=>by
  rw [List.find?_cons_of_neg (by rw [hi 0 x (Nat.succ_pos _) rfl]; decide)];exact zte (by simpa using h) hp λi y hij hy=>hi (i+1) y (Nat.succ_lt_succ hij) (by simpa using hy)
section
variable {P:Program} {n:Nat} {ops:Array Oper} {i:Nat} {ge:GEnv} {w:World} {ty:TypeId} {dst:Option Nat} {t kt et:TypeId} {x k v:Operand} {IsK:Value->Prop}
theorem zLb {m:Option Nat} {es:Array MapEntry} {kv z u:Value} {b ok:Bool} (K:zKb P kt IsK) (hx:rho ge x= .map m) (hk:rho ge k=kv) (hu:P.underlying t=some (.map kt et)) (hz:∀ w,(zeroValue et).run P w= .ok z w) (hm:zhb w m es) (hi:zH IsK es) (hn:(es.toList.map (·.key)).Nodup) (hkv:IsK kv) (hl:LkIs es kv z u b) :
    (ex (.lookup t x k ok) ty (rho ge)).run P w= .ok (.value (if ok=true then .tuple #[u,.bool b] else u)) w:=by
 have hc:∀ em,(Instr.checkKey em 10000 kt kv).run P w= .ok () w:=λem=>K.check w em hkv
 have key:(Instr.lookup t (.map m) kv ok).run P w= .ok (if ok=true then .tuple #[u,.bool b] else u) w:=by
  rcases K.find w hkv es.toList hi with ⟨hf,h2⟩ | ⟨q,e,hf,h2,h3⟩
  ·have h0:=zld h2
   have hu':u=z/\b=false:=by
    rcases hl with ⟨_,a,c⟩ | ⟨a,_⟩
    ·exact⟨a,c⟩
    ·rw [h0] at a; cases a
   obtain⟨rfl,rfl⟩:=hu';rcases hm with ⟨rfl,rfl⟩ | ⟨r,c,rfl,hr⟩
   ·cases ok <;> simp [Instr.lookup,zd hu,hc,hf,hz,Result.andThen]
   ·cases ok <;> simp [Instr.lookup,zd hu,hc,hf,hz,MapKept.run_getObj_map hr,Result.andThen]
  ·have h1:zQ es kv=some e.val:=by
     classical
     unfold zQ
     rw [zte (j:=q) h2 (by simpa using h3) (λj y hj hy=>by
      refine decide_eq_false λhyk=> ?_;have a1:(es.toList.map (·.key))[j]? =some kv:=by rw [aF,hy]; exact congrArg some hyk
      have a2:(es.toList.map (·.key))[q]? =some kv:=by rw [aF,h2]; exact congrArg some h3
      have:=(dG (cC.1 a1).1 hn).1 (a1.trans a2.symm);omega)]
     rfl
   have hu':u=e.val/\b=true:=by
    rcases hl with ⟨a,_⟩ | ⟨a,c⟩
    ·rw [h1] at a; cases a
    ·rw [h1] at a; exact⟨(aE a).symm,c⟩
   obtain⟨rfl,rfl⟩:=hu';rcases hm with ⟨rfl,rfl⟩ | ⟨r,c,rfl,hr⟩
   ·simp at h2
   ·cases ok <;> simp [Instr.lookup,zd hu,hc,hf,MapKept.run_getObj_map hr,Result.andThen]
 unfold ex execOp;simp only [hx,hk];rw [run_bind',key];rfl
theorem zJe {Q:Exit->Act->World->Prop} {m:Option Nat} {es:Array MapEntry} {kv z u:Value} {b:Bool} (K:zKb P kt IsK) (ho:opAt n ops ge i=some (.lookup t x k true,ty,dst)) (hx:rho ge x= .map m) (hk:rho ge k=kv) (hu:P.underlying t=some (.map kt et)) (hz:∀ w,(zeroValue et).run P w= .ok z w) (hm:zhb w m es) (hi:zH IsK es) (hn:(es.toList.map (·.key)).Nodup) (hkv:IsK kv) (hl:LkIs es kv z u b)
    (h:RegG P n ops Q (i+1) (putG dst (.tuple #[u,.bool b]) ge) w):RegG P n ops Q i ge w :=
 zcc _ w ho (zLb (ok:=true) K hx hk hu hz hm hi hn hkv hl) h
theorem zSh {Q:Exit->Act->World->Prop} {m:Option Nat} {es:Array MapEntry} {kv z u:Value} {b:Bool} (K:zKb P kt IsK) (ho:opAt n ops ge i=some (.lookup t x k false,ty,dst)) (hx:rho ge x= .map m) (hk:rho ge k=kv) (hu:P.underlying t=some (.map kt et)) (hz:∀ w,(zeroValue et).run P w= .ok z w) (hm:zhb w m es) (hi:zH IsK es) (hn:(es.toList.map (·.key)).Nodup) (hkv:IsK kv) (hl:LkIs es kv z u b)
    (h:RegG P n ops Q (i+1) (putG dst u ge) w):RegG P n ops Q i ge w :=
 zcc _ w ho (zLb (ok:=false) K hx hk hu hz hm hi hn hkv hl) h
theorem zYg {m0:Nat} {C:World->Prop} {Q:Act->Prop} {m:Option Nat} {es:Array MapEntry} {kv z u:Value} {b:Bool} (K:zKb P kt IsK) (ho:opAt n ops ge i=some (.lookup t x k true,ty,dst)) (hx:rho ge x= .map m) (hk:rho ge k=kv) (hu:P.underlying t=some (.map kt et)) (hz:∀ w,(zeroValue et).run P w= .ok z w) (hm:zhb w m es) (hi:zH IsK es) (hn:(es.toList.map (·.key)).Nodup) (hkv:IsK kv) (hl:LkIs es kv z u b)
    (h:RegQ P n ops m0 C Q (i+1) (putG dst (.tuple #[u,.bool b]) ge) w):RegQ P n ops m0 C Q i ge w :=
 zkc _ ho (λw' e=>zLb (ok:=true) K hx hk hu hz (zOh hm e) hi hn hkv hl) h
theorem zOc {m0:Nat} {C:World->Prop} {Q:Act->Prop} {m:Option Nat} {es:Array MapEntry} {kv z u:Value} {b:Bool} (K:zKb P kt IsK) (ho:opAt n ops ge i=some (.lookup t x k false,ty,dst)) (hx:rho ge x= .map m) (hk:rho ge k=kv) (hu:P.underlying t=some (.map kt et)) (hz:∀ w,(zeroValue et).run P w= .ok z w) (hm:zhb w m es) (hi:zH IsK es) (hn:(es.toList.map (·.key)).Nodup) (hkv:IsK kv) (hl:LkIs es kv z u b)
    (h:RegQ P n ops m0 C Q (i+1) (putG dst u ge) w):RegQ P n ops m0 C Q i ge w :=
 zkc _ ho (λw' e=>zLb (ok:=false) K hx hk hu hz (zOh hm e) hi hn hkv hl) h
theorem zZg {Q:Exit->Act->World->Prop} {π:List Nat} {pd:Pds} {ps:Nat} {m:Option Nat} {es:Array MapEntry} {kv z u:Value} {b:Bool} (hπ:π[ps]? =some i) (K:zKb P kt IsK) (ho:opAt n ops ge i=some (.lookup t x k true,ty,dst)) (hx:rho ge x= .map m) (hk:rho ge k=kv) (hu:P.underlying t=some (.map kt et)) (hz:∀ w,(zeroValue et).run P w= .ok z w) (hm:zhb w m es) (hi:zH IsK es) (hn:(es.toList.map (·.key)).Nodup) (hkv:IsK kv) (hl:LkIs es kv z u b)
    (h:RegM P n ops Q π ((i,λw'=>zhb w' m es)::pd) (ps+1) (putG dst (.tuple #[u,.bool b]) ge) w):RegM P n ops Q π pd ps ge w :=
 z4c _ _ hπ ho (λw' hw=>zLb (ok:=true) K hx hk hu hz hw hi hn hkv hl) hm h
theorem z0g {Q:Exit->Act->World->Prop} {π:List Nat} {pd:Pds} {ps:Nat} {m:Option Nat} {es:Array MapEntry} {kv z u:Value} {b:Bool} (hπ:π[ps]? =some i) (K:zKb P kt IsK) (ho:opAt n ops ge i=some (.lookup t x k false,ty,dst)) (hx:rho ge x= .map m) (hk:rho ge k=kv) (hu:P.underlying t=some (.map kt et)) (hz:∀ w,(zeroValue et).run P w= .ok z w) (hm:zhb w m es) (hi:zH IsK es) (hn:(es.toList.map (·.key)).Nodup) (hkv:IsK kv) (hl:LkIs es kv z u b)
    (h:RegM P n ops Q π ((i,λw'=>zhb w' m es)::pd) (ps+1) (putG dst u ge) w):RegM P n ops Q π pd ps ge w :=
 z4c _ _ hπ ho (λw' hw=>zLb (ok:=false) K hx hk hu hz hw hi hn hkv hl) hm h
theorem zEd {K':Value->World->Prop} {m:Option Nat} {es:Array MapEntry} {kv vv:Value} {r c:Nat} (K:zKb P kt IsK) (hx:rho ge x= .map m) (hr:m=some r) (hk:rho ge k=kv) (hv:rho ge v=vv) (hu:P.underlying t=some (.map kt et)) (hm:w.heap[r]? =some (.map es c)) (hi:zH IsK es) (hn:(es.toList.map (·.key)).Nodup) (hkv:IsK kv)
    (h:∀ es2 c2 w',zee es c kv vv es2 c2->w'={ w with heap:=w.heap.setIfInBounds r (.map es2 c2) }->K' undef w'):OpS P (.mapUpdate t x k v) ty (rho ge) w K':=by
 subst hr;have hc:∀ em,(Instr.checkKey em 10000 kt kv).run P w= .ok () w:=λem=>K.check w em hkv
 have fin:∀ es2 c2,zee es c kv vv es2 c2->(Instr.mapUpdate t (.map (some r)) kv vv).run P w= .ok () { w with heap:=w.heap.setIfInBounds r (.map es2 c2) }->OpS P (.mapUpdate t x k v) ty (rho ge) w K':=λes2 c2 hs hrun=>by
  unfold OpS
  have e:(ex (.mapUpdate t x k v) ty (rho ge)).run P w= .ok .skip { w with heap:=w.heap.setIfInBounds r (.map es2 c2) }:=by
   unfold ex execOp;simp only [hx,hk,hv];rw [run_bind',hrun];rfl
  rw [e];exact h es2 c2 _ hs rfl
 rcases K.find w hkv es.toList hi with ⟨hf,h2⟩ | ⟨q,e,hf,h2,h3⟩
 ·refine fin (es.push ⟨kv,vv,c⟩) (c+1) (.inl ⟨h2,rfl,rfl⟩) ?_;simp [Instr.mapUpdate,zd hu,MapKept.run_getObj_map hm,hc,hf,MapKept.run_setObj_map _ hm,Result.andThen]
 ·refine fin (es.modify q λe=>{ e with key:=kv,val:=vv }) c (.inr ⟨q,e,h2,h3,λj y hj hy hyk=> ?_,rfl,rfl⟩) ?_
  ·have a1:(es.toList.map (·.key))[j]? =some kv:=by rw [aF,hy]; exact congrArg some hyk
   have a2:(es.toList.map (·.key))[q]? =some kv:=by rw [aF,h2]; exact congrArg some h3
   have:=(dG (cC.1 a1).1 hn).1 (a1.trans a2.symm);omega
  ·have hq:es[q]? =some e:=by rw [<-fV]; exact h2
   have hst:=K.stays w hkv;simp [Instr.mapUpdate,zd hu,MapKept.run_getObj_map hm,hc,hf,hq,h3,hst,MapKept.run_setObj_map _ hm,Result.andThen]
theorem znc {Q:Exit->Act->World->Prop} {m:Option Nat} {es:Array MapEntry} {kv vv:Value} (r c:Nat) (K:zKb P kt IsK) (ho:opAt n ops ge i=some (.mapUpdate t x k v,ty,dst)) (hx:rho ge x= .map m) (hr:m=some r) (hk:rho ge k=kv) (hv:rho ge v=vv) (hu:P.underlying t=some (.map kt et)) (hm:w.heap[r]? =some (.map es c)) (hi:zH IsK es) (hn:(es.toList.map (·.key)).Nodup) (hkv:IsK kv)
    (h:∀ es2 c2 w',zee es c kv vv es2 c2->w'={ w with heap:=w.heap.setIfInBounds r (.map es2 c2) }->RegG P n ops Q (i+1) (putG dst undef ge) w'):RegG P n ops Q i ge w :=
 zlb ho (zEd K hx hr hk hv hu hm hi hn hkv h)
theorem zPf {Q:Exit->Act->World->Prop} {π:List Nat} {pd:Pds} {ps:Nat} {m:Option Nat} {es:Array MapEntry} {kv vv:Value} (e:Nat) (D:List Nat) (pd':Pds) (r c:Nat) (K:zKb P kt IsK) (hπ:π[ps]? =some e) (hB:zae ops (π.take ps) e=true) (hD:zzc ops e [] D=true) (hpd:zib D pd=pd')
    (ho:opAt n ops ge e=some (.mapUpdate t x k v,ty,dst)) (hx:rho ge x= .map m) (hr:m=some r) (hk:rho ge k=kv) (hv:rho ge v=vv) (hu:P.underlying t=some (.map kt et)) (hm:w.heap[r]? =some (.map es c)) (hi:zH IsK es) (hn:(es.toList.map (·.key)).Nodup) (hkv:IsK kv)
    (h:∀ es2 c2 w',zee es c kv vv es2 c2->w'={ w with heap:=w.heap.setIfInBounds r (.map es2 c2) }->zgb pd' w'/\RegM P n ops Q π pd' (ps+1) (putG dst undef ge) w'):RegM P n ops Q π pd ps ge w :=
 zKd e D pd' hπ hB hD hpd ho (zEd K hx hr hk hv hu hm hi hn hkv h)
theorem zDi {K':Value->World->Prop} {tk:TypeId} {m:Option Nat} {es:Array MapEntry} {kv:Value} {r c:Nat} (K:zKb P kt IsK) (hx:rho ge x= .map m) (hr:m=some r) (hk:rho ge k=kv) (hu:P.underlying t=some (.map kt et)) (hm:w.heap[r]? =some (.map es c)) (hi:zH IsK es) (hkv:IsK kv)
    (h:∀ es2 w',zRh es kv es2->w'={ w with heap:=w.heap.setIfInBounds r (.map es2 c) }->K' (.tuple #[]) w'):OpS P (.call { callee:= .builtin .delete,args:=#[x,k],argTypes:=#[t,tk] }) ty (rho ge) w K':=by
 subst hr;have hc:∀ em,(Instr.checkKey em 10000 kt kv).run P w= .ok () w:=λem=>K.check w em hkv
 have hex:ex (.call { callee:= .builtin .delete,args:=#[x,k],argTypes:=#[t,tk] }) ty (rho ge)=(do pure (.value (<-Builtin.delete_ #[t,tk] ty #[.map (some r),kv])):Sem Next):=by
  unfold ex execOp;simp [Go.resolve,Go.invoke,Go.builtin,hx,hk,bind,Sem.bind,pure]
 have fin:∀ es2,zRh es kv es2->(Builtin.delete_ #[t,tk] ty #[.map (some r),kv]).run P w= .ok (.tuple #[]) { w with heap:=w.heap.setIfInBounds r (.map es2 c) }->OpS P (.call { callee:= .builtin .delete,args:=#[x,k],argTypes:=#[t,tk] }) ty (rho ge) w K':=λes2 hs hrun=>by
  unfold OpS;rw [hex,run_bind',hrun];exact h es2 _ hs rfl
 rcases K.find w hkv es.toList hi with ⟨hf,h2⟩ | ⟨q,e,hf,h2,h3⟩
 ·refine fin es (.inl ⟨h2,rfl⟩) ?_;unfold Builtin.delete_;simp [zd hu,MapKept.run_getObj_map hm,hc,hf,MapKept.run_setObj_map _ hm,Result.andThen]
 ·refine fin (es.eraseIdxIfInBounds q) (.inr ⟨q,e,h2,h3,rfl⟩) ?_;unfold Builtin.delete_;simp [zd hu,MapKept.run_getObj_map hm,hc,hf,MapKept.run_setObj_map _ hm,Result.andThen]
theorem zMd {Q:Exit->Act->World->Prop} {tk:TypeId} {m:Option Nat} {es:Array MapEntry} {kv:Value} (r c:Nat) (K:zKb P kt IsK) (ho:opAt n ops ge i=some (.call { callee:= .builtin .delete,args:=#[x,k],argTypes:=#[t,tk] },ty,dst)) (hx:rho ge x= .map m) (hr:m=some r) (hk:rho ge k=kv) (hu:P.underlying t=some (.map kt et)) (hm:w.heap[r]? =some (.map es c)) (hi:zH IsK es) (hkv:IsK kv)
    (h:∀ es2 w',zRh es kv es2->w'={ w with heap:=w.heap.setIfInBounds r (.map es2 c) }->RegG P n ops Q (i+1) (putG dst (.tuple #[]) ge) w'):RegG P n ops Q i ge w :=
 zlb ho (zDi K hx hr hk hu hm hi hkv h)
theorem zKj {Q:Exit->Act->World->Prop} {r c:Nat} {es:Array MapEntry} (ho:opAt n ops ge i=some (.range t x,ty,dst)) (hx:rho ge x= .map (some r)) (hu:P.underlying t=some (.map kt et)) (hm:w.heap[r]? =some (.map es c))
    (h:∀ b w',b=w.heap.size->w'=w.alloc (.mapIter (some r) c #[] c)->RegG P n ops Q (i+1) (putG dst (.pointer (some ⟨b,0,none⟩)) ge) w'):RegG P n ops Q i ge w :=
 zAk (λb=> .pointer (some ⟨b,0,none⟩)) (.mapIter (some r) c #[] c) ho (by
  unfold ex execOp;simp only [hx];rw [run_bind',run_range_map w t kt et r es c hu hm];rfl) h
theorem zFk {r bm since last:Nat} {seen:Array Nat} {es:Array MapEntry} {clock:Nat} (hi:w.heap[r]? =some (.mapIter (some bm) since seen last)) (hb:w.heap[bm]? =some (.map es clock)) (hold:∀ x∈es.toList,x.born<since) (hsc:since<=last) :
    ((∀ x∈es.toList,seen.contains x.born=true)/\(Instr.next (.pointer (some ⟨r,0,none⟩)) false ty).run P w= .ok (.tuple #[.bool false]) w) \/
    ∃ e∈es.toList,seen.contains e.born=false/\∃ w1:World,(∃ k,w1=w.drewN k)/\(Instr.next (.pointer (some ⟨r,0,none⟩)) false ty).run P w= .ok (.tuple #[.bool true,e.key,e.val]) { w1 with heap:=w1.heap.setIfInBounds r (.mapIter (some bm) since (seen.push e.born) clock) }:=by
 simp only [Instr.next,getObj,Sem.run_bind,Sem.run,hi,hb,Result.andThen,next_test_false seen es since last hold hsc,bW,if_false]
 have hmem:∀ x∈(Array.filter (λe=> !seen.contains e.born) es).toList,x.born<since/\x∈es.toList/\seen.contains x.born=false:=λx hx=>by
  have hx:x∈es/\seen.contains x.born=false:=by simpa using hx
  exact⟨hold x (by simpa using hx.1),by simpa using hx.1,hx.2⟩
 have hall:(Array.filter (λe=> !seen.contains e.born) es).size=0->∀ x∈es.toList,seen.contains x.born=true:=λh0 x hx=>by
  cases hc:seen.contains x.born with
  | true=>rfl
  | false =>
   have hx:x∈Array.filter (λe=> !seen.contains e.born) es:=Array.mem_filter.2 ⟨by simpa using hx,by rw [hc]; rfl⟩;have:=Array.size_pos_of_mem hx;omega
 generalize Array.filter (λe=> !seen.contains e.born) es=L at hmem hall ⊢;have e1:L.filter (λx=>decide (x.born<since))=L:=Array.filter_eq_self.2 (λx hx=>by simpa using (hmem x (by simpa using hx)).1)
 have e2:L.filter (λx=>decide (x.born>=since))=#[]:=by
  rw [Array.filter_eq_empty_iff];intro x hx;have:=(hmem x (by simpa using hx)).1;simp;omega
 simp only [e1,e2,Array.append_empty];by_cases h0:L.size=0
 ·left;refine⟨hall h0,?_⟩;have:L=#[]:=Array.eq_empty_of_size_eq_zero h0;subst this;simp [choose,Sem.run,Question.forced]
 ·right;have hne:L.isEmpty=false:=by simp [Array.isEmpty,h0]
  simp only [hne,bW,if_false,Array.empty_append,Array.size_map]
  have hch:∃(j:Nat) (w1:World),j<L.size/\(∃ k,w1=w.drewN k)/\(choose (Question.mapNext L.size)).run P w= .ok j w1:=by
   by_cases hf:L.size<=1
   ·exact⟨0,w,O_,⟨0,rfl⟩,by simp [choose,Sem.run,Question.forced,hf]⟩
   ·exact⟨_,w.drew,eQ _ O_,⟨1,rfl⟩,by
      simp only [choose,Sem.run,Question.forced,decide_eq_true_eq,hf,if_false,Question.cut];rfl⟩
  obtain⟨j,w1,hj,⟨k,rfl⟩,hrun⟩:=hch;have hL:L[j]∈L.toList:=by simp
  refine⟨L[j],(hmem _ hL).2.1,(hmem _ hL).2.2,w.drewN k,⟨k,rfl⟩,?_⟩
  have hset:(setObj r (.mapIter (some bm) since (seen.push L[j].born) clock)).run P (w.drewN k)= .ok () { (w.drewN k) with heap:=(w.drewN k).heap.setIfInBounds r (.mapIter (some bm) since (seen.push L[j].born) clock) }:=by
   have hi':(w.drewN k).heap[r]? =some (.mapIter (some bm) since seen last):=hi;simp only [setObj,Sem.run,hi']
  simp only [hrun,Array.getElem?_map,fJ hj,bY,Sem.run_bind,hset,Result.andThen];rfl
theorem zGk {Q:Exit->Act->World->Prop} {r bm since last:Nat} {seen:Array Nat} {es:Array MapEntry} {clock:Nat} (ho:opAt n ops ge i=some (.next x false,ty,dst)) (hx:rho ge x= .pointer (some ⟨r,0,none⟩)) (hi:w.heap[r]? =some (.mapIter (some bm) since seen last)) (hb:w.heap[bm]? =some (.map es clock)) (hold:∀ x∈es.toList,x.born<since) (hsc:since<=last)
    (h0:(∀ x∈es.toList,seen.contains x.born=true)->RegG P n ops Q (i+1) (putG dst (.tuple #[.bool false]) ge) w)
    (h1:∀ e w1 w',e∈es.toList->seen.contains e.born=false->(∃ k,w1=w.drewN k)->w'={ w1 with heap:=w1.heap.setIfInBounds r (.mapIter (some bm) since (seen.push e.born) clock) }->RegG P n ops Q (i+1) (putG dst (.tuple #[.bool true,e.key,e.val]) ge) w'):RegG P n ops Q i ge w:=by
 have hex:∀ {v:Value} {w':World},(Instr.next (.pointer (some ⟨r,0,none⟩)) false ty).run P w= .ok v w'->(ex (.next x false) ty (rho ge)).run P w= .ok (.value v) w':=λ{v w'} hr=>by
  unfold ex execOp;simp only [hx];rw [run_bind',hr];rfl
 rcases zFk (P:=P) (ty:=ty) hi hb hold hsc with ⟨a,hr⟩ | ⟨e,he,hs,w1,hw1,hr⟩
 ·exact zcc _ _ ho (hex hr) (h0 a)
 ·exact zcc _ _ ho (hex hr) (h1 e w1 _ he hs hw1 rfl)
theorem zLj {Q:Exit->Act->World->Prop} {r bm since clock:Nat} {seen:Array Nat} {es:Array MapEntry} {e:MapEntry} {kv vv:Value} (ho:opAt n ops ge i=some (.entry x,ty,dst)) (hx:rho ge x= .pointer (some ⟨r,0,none⟩)) (hi:w.heap[r]? =some (.mapIter (some bm) since (seen.push e.born) clock)) (hb:w.heap[bm]? =some (.map es clock)) (he:e∈es.toList) (hn:(es.toList.map (·.born)).Nodup) (hk:e.key=kv) (hv:e.val=vv)
    (h:RegG P n ops Q (i+1) (putG dst (.tuple #[kv,vv]) ge) w):RegG P n ops Q i ge w:=by
 subst hk hv;refine zcc (.tuple #[e.key,e.val]) w ho ?_ h;have hf:es.find? (·.born==e.born)=some e:=by rw [<-Array.find?_toList]; exact find_born e es.toList hn he
 unfold ex execOp;simp only [hx];rw [run_bind'];simp only [Instr.entry,getObj,Sem.run_bind,Sem.run,hi,hb,Result.andThen,Array.back?_push,bne_self_eq_false,bW,if_false,hf];rfl
end
section
variable {P:Program} {n:Nat} {ops:Array Oper} {i:Nat} {ge:GEnv} {w:World} {ty:TypeId} {dst:Option Nat} {Q:Exit->Act->World->Prop} {π:List Nat} {pd:Pds} {ps:Nat}
theorem z1g {α:Type} {t e:TypeId} {x ix:Operand} {k:IntKind} {j:Int} {len:Nat} (hk:π[ps]? =some i) (f:α->Value) (l:List α) (z:α)
    (ho:opAt n ops ge i=some (.index t x ix,ty,dst))
    (hx:rho ge x= .agg (l.map f).toArray) (hi:rho ge ix= .int k j) (ht:P.underlying t=some (.array len e)) (hs:zB P e=some 1) (hp:zVb P e=true) (hl:l.length=len)
    (h0:0<=j) (h1:j<(len:Int)) (h:RegM P n ops Q π pd (ps+1) (putG dst (f (l.getD j.toNat z)) ge) w):RegM P n ops Q π pd ps ge w :=
 zce _ hk ho (λ_=>zCh (z:=z) hx hi ht hs hp hl h0 h1) h
end
end
section
variable [Rnd]
def PtrB (w:World) (p q:Option Addr) (r:Bool):Prop:=∃ a b,p=some a/\q=some b/\((a=b/\r=true)\/(a≠b/\r=false/\(∃ ca ta,w.heap[a.block]? =some (.cells ca ta (0,0)))/\∃ cb tb,w.heap[b.block]? =some (.cells cb tb (0,0))))
def zHk (P:Program) (t:TypeId):Bool:=match P.underlying t with
 | some (.pointer e)=>(match P.info? e with | some j=>decide (j.size≠0) | none=>false)
 | _=>false
section
variable {P:Program} {n:Nat} {ops:Array Oper} {i:Nat} {ge:GEnv} {w:World} {ty xt yt:TypeId} {dst:Option Nat} {x y:Operand} {op:Op} {Q:Exit->Act->World->Prop}
theorem zEi (h:zHk P xt=true):∃ e j,P.underlying xt=some (.pointer e)/\P.info? e=some j/\j.size≠0:=by
 unfold zHk at h;cases hu:P.underlying xt with
 | none=>rw [hu] at h; cases h
 | some d =>
  rw [hu] at h;cases d with
  | pointer e =>
   simp only at h;cases hj:P.info? e with
   | none=>rw [hj] at h; cases h
   | some j=>rw [hj] at h; exact⟨e,j,rfl,hj,of_decide_eq_true h⟩
  | _=>cases h
theorem zTh {p q:Option Addr} {r:Bool} (hx:rho ge x= .pointer p) (hy:rho ge y= .pointer q) (ht:zHk P xt=true) (hr:PtrB w p q r) :
    (ex (.binOp .neq xt x y yt) ty (rho ge)).run P w= .ok (.value (.bool (!r))) w:=by
 obtain⟨e,j,hp,hte,hsz⟩:=zEi ht;obtain⟨a,b,rfl,rfl,hab⟩:=hr
 have hd:∀ d:Nat,(Op.equalIn (d+1) xt (.pointer (some a)) (.pointer (some b))).run P w= .ok r w:=λd=>by
  rcases hab with ⟨rfl,rfl⟩ | ⟨hne,rfl,⟨ca,ta,ha⟩,cb,tb,hb⟩
  ·simp [Op.equalIn,zd hp,sizeOf,typeInfo,hte,run_sameAddr_same]
  ·simp [Op.equalIn,zd hp,sizeOf,typeInfo,hte,hsz,run_sameAddr_other w hne ha hb]
 have he:(Op.equal xt (.pointer (some a)) (.pointer (some b))).run P w= .ok r w:=hd 9999;refine zKc (by rw [hx,hy]; rfl) ?_;rw [hx,hy];show(Op.equal xt (.pointer (some a)) (.pointer (some b)) >>= λr=>pure (Value.bool (!r))).run P w=_;rw [run_bind',he];rfl
theorem zSl (v:Value) (ho:opAt n ops ge i=some (op,ty,dst)) (hr:(ex op ty (rho ge)).run P w= .ok (.value v) w) (h:RegG P n ops Q (i+1) (putG dst v ge) w):RegG P n ops Q i ge w:=zcc v w ho hr h
end
end
abbrev zBc (lp:Nat):Value:= .func (.yield lp) #[] #[]
abbrev zQe (ro:Option Nat) (ds:List Deferred) (esc:Act->World->Prop):Rnd:=⟨ro,ds,true,esc⟩
abbrev zUh:Act->World->Prop:=λ_ _=>False
def zWb {P:Program} (fv:Value) (args:Array Value) (w:World) (K:Ending->World->Prop):Prop :=
 zw (P:=P) fv args w K\/∃ lp fn tmps assign body,fv=zBc lp/\(Instr.yield lp args).run P w= .ok (.round lp fn tmps assign body) w/\RoundIn Fence.wide 0 P lp fn tmps assign body w K
theorem zWb.mono {P:Program} {fv:Value} {args:Array Value} {w:World} {K K':Ending->World->Prop} (h:zWb (P:=P) fv args w K) (hk:∀ e w',K e w'->K' e w'):zWb (P:=P) fv args w K':=by
 rcases h with h | ⟨lp,fn,tmps,assign,body,h1,h2,h3⟩
 ·exact .inl (h.mono hk)
 ·exact .inr ⟨lp,fn,tmps,assign,body,h1,h2,h3.mono hk⟩
section
variable [Rnd] {P:Program} {n:Nat} {ops:Array Oper} {Q:Exit->Act->World->Prop} {i:Nat} {ge:GEnv} {w:World} {ty:TypeId} {dst:Option Nat}
theorem zpg (hy:(Rnd.y:Bool)=true) {fo:Operand} {aa:Array Operand} {ts:Array TypeId} {fv:Value} (args:Array Value) (ho:opAt n ops ge i=some (.call { callee:= .value fo,args:=aa,argTypes:=ts },ty,dst)) (hf:rho ge fo=fv) (ha:aa.map (rho ge)=args)
    (h:zWb (P:=P) fv args w (λe w'=>∃ v,e= .returned v/\RegG P n ops Q (i+1) (putG dst v ge) w')):RegG P n ops Q i ge w:=by
 rcases h with h | ⟨lp,fn,tmps,assign,body,h1,h2,h3⟩
 ·exact z8b args ho hf ha h
 intro t hinv;unfold opAt at ho;cases hoi:ops[i]? with
 | none=>rw [hoi] at ho; cases ho
 | some o =>
  rw [hoi] at ho;simp only at ho;obtain⟨hc,ho⟩:=ztb ho;simp only [aD] at hc;obtain⟨⟨⟨hg,hsel⟩,hav⟩,hdst⟩:=hc;simp only [aC,bI] at ho;obtain⟨hop,hty,hds⟩:=ho;have hH:Holds t []:=λp hp=>by cases hp
  have hexec:execOp (Act.eval ⟨t,Rnd.ds⟩) o=execOp (rho ge) o:=zbc hinv hH hsel hav;have hw:=zX (ops:=ops) hinv hg;rw [zFc (getElem?_lt hoi)]
  have hput:∀ v w',RegG P n ops Q (i+1) (putG dst v ge) w'->OpsR P ops Q (List.range' (i+1) (ops.size - (i+1))) (Act.put ⟨t,Rnd.ds⟩ o.dst v) w':=by
   intro v w' hr;rw [hds] at hdst ⊢;cases dst with
   | none=>exact hr t hinv
   | some d =>
    simp only [aD] at hdst;exact hr _ (hinv.put (v:=v) (u:=v) hdst.1 hdst.2 (λp hp=>by cases hp) (λ_=>rfl) (λhh=>absurd hH hh))
  have hr:(ex (.call { callee:= .value fo,args:=aa,argTypes:=ts }) ty (rho ge)).run P w= .ok (.round lp fn tmps assign body) w:=by
   have he:ex (.call { callee:= .value fo,args:=aa,argTypes:=ts }) ty (rho ge)=Instr.yield lp args:=by
    unfold ex execOp;simp [Go.resolve,Go.invoke,hf,ha,h1,bind,Sem.bind,pure,Deferred.ofValue]
   rw [he]; exact h2
  unfold OpsR at hput ⊢;simp only [hy] at hput ⊢;simp only [wpOpsIn,hoi];rw [if_pos hw];refine⟨λ_ _=>trivial,?_⟩;rw [Oper.semAt_eq _ _ _ (z0c hsel),hexec,ex_eq,hop,hty,hr];refine⟨nofun,RoundIn.mono h3 ?_⟩;rintro e w'' ⟨v,rfl,hr⟩;exact hput _ _ hr
end
def escY (P:Program) (fn:Func) (R:Value->World->Prop):Act->World->Prop:=λa w =>
 ∃ D,a.defers=[{ target:= .collected D,args:=#[] }]/\w.heap[D]? =some (.deferred (some []))/\∃ v,(results fn a.tmps).run P (w.putObj D (.deferred none))= .ok v (w.putObj D (.deferred none))/\R v (w.putObj D (.deferred none))
abbrev rndY (P:Program) (fn:Func) (R:Value->World->Prop):Rnd:=zQe none [] (escY P fn R)
abbrev rndD (P:Program) (fn:Func) (R:Value->World->Prop) (D:Nat):Rnd:=zQe none [{ target:= .collected D,args:=#[] }] (escY P fn R)
theorem zKe {P:Program} {f:FuncId} {fn:Func} {c:Code} {args:List Value} {w:World} {R:Value->World->Prop}
    (hf:P.funcs[f]? =some fn) (hb:fn.body=some c) (n:Nat) (hn:fn.ntmps=n) (hsz:Nat.ble args.length n=true) (l:Env) (hl:z1d args=l)
    (h:@WpE (rndY P fn R) P n c (retQ P fn R) l w):Calls P f args.toArray w (λe w'=>∃ v,e= .returned v/\R v w'):=by
 refine(callsIn_wide (n:=0)).1 (callsIn_of_wp_marks hf hb trivial ?_ rfl);have hsz':args.length<=n:=aM hsz
 have hag:zbb n (args.toArray++Array.replicate (fn.ntmps - args.toArray.size) undef) l:=by
  subst hl;refine⟨by simp; omega,λp hp=> ?_⟩;simp only [z1d,aQ] at hp;obtain⟨⟨v,i⟩,hm,rfl⟩:=hp;have hi:=gI.1 hm;simp only at hi ⊢;have hlt:i<args.length:=(cC.1 hi).1;rw [bA,Array.getElem?_append_left (by simpa using hlt)];simp [hi]
 have h:c.wpIn Fence.wide 0 P (@zO (rndY P fn R) n (retQ P fn R)) ⟨args.toArray++Array.replicate (fn.ntmps - args.toArray.size) undef,[]⟩ w:=h _ hag;refine wpIn_mono h λe a w' he=> ?_;rcases he with ⟨hd,l',h1,h2⟩ | ⟨rfl,D,hd,hk,v,hv,hR⟩
 ·have hd:a.defers=[]:=hd;cases e with
  | normal =>
   obtain⟨v,hv,hR⟩:=h2 a.tmps ⟨n,h1⟩;show LeavesInM _ _ _ _ _ _ a.defers _ _;rw [hd]; exact⟨v,hv,v,rfl,hR⟩
  | ret =>
   obtain⟨v,hv,hR⟩:=h2 a.tmps ⟨n,h1⟩;show LeavesInM _ _ _ _ _ _ a.defers _ _;rw [hd]; exact⟨v,hv,v,rfl,hR⟩
  | exit id=>exact h2.elim
  | goto id=>exact h2.elim
  | panic ch=>exact h2.elim
  | outgrown=>exact h2.elim
 ·show LeavesInM _ _ _ _ _ _ a.defers _ _;rw [hd];exact⟨by simp,.inl ⟨D,_,rfl,run_takeDeferred hk,v,hv,v,rfl,hR⟩⟩
theorem zTl {P:Program} {fn:Func} {R:Value->World->Prop} {D n:Nat} {c:Code} {Q:Exit->Env->World->Prop} {l:Env} {w:World} (hc:c= .ret)
    (hD:w.heap[D]? =some (.deferred (some []))) (h:retQ P fn R .ret l (w.putObj D (.deferred none))):@WpE (rndD P fn R D) P n c Q l w:=by
 subst hc;intro t ha;refine @z9l (rndD P fn R D) P _ _ _ (.inr ⟨rfl,D,rfl,hD,?_⟩);exact h t ⟨n,ha⟩
def penv:List Nat->List Value->Env->Env
 | p::ps,x::xs,l=>penv ps xs ((p,x)::l)
 | _,_,l=>l
def pok (n:Nat):List Nat->List Nat->Bool
 | p::ps,ks=>Nat.blt p n&& !(ks.any (Nat.beq p))&&pok n ps (p::ks)
 | [],_=>true
theorem zMj {n p:Nat} {x:Value} {t:Array Value} {l:Env} (ha:zbb n t l) (hp:Nat.blt p n=true) (hf:((l.map (·.1)).any (Nat.beq p))=false):zbb n (t.setIfInBounds p x) ((p,x)::l):=by
 have hlt:p<t.size:=by rw [ha.1]; simpa [fY] using hp
 refine⟨by simpa using ha.1,λq hq=> ?_⟩;rcases aU.1 hq with rfl | hq
 ·show(t.setIfInBounds p x).getD p undef=x;rw [bA,bS hlt]; rfl
 ·have hne:p≠q.1:=λe=>by
    have:((l.map (·.1)).any (Nat.beq p))=true:=dU.2 ⟨q.1,aQ.2 ⟨q,hq,rfl⟩,by rw [e]; simp⟩;rw [hf] at this; cases this
  rw [bA,cP hne,<-bA];exact ha.2 q hq
theorem zQf {n:Nat}:∀ {ps:List Nat} {xs:List Value} {t:Array Value} {l:Env},xs.length=ps.length->pok n ps (l.map (·.1))=true->zbb n t l ->
    zbb n ((ps.zip xs).foldl (λt p=>t.setIfInBounds p.1 p.2) t) (penv ps xs l)
 | [],[],t,l,_,_,ha=>ha
 | [],_::_,_,_,h,_,_=>by simp at h
 | _::_,[],_,_,h,_,_=>by simp at h
 | p::ps,x::xs,t,l,h,hp,ha=>by
  unfold pok at hp;simp only [aD,dO] at hp;exact zQf (ps:=ps) (xs:=xs) (by simpa using h) (show pok n ps (((p,x)::l).map (·.1))=true from hp.2) (zMj ha hp.1.1 hp.1.2)
theorem zUl (ps:List Nat) (xs:List Value) (t:Array Value):(ps.toArray.zip xs.toArray).foldl (λt (p,v)=>t.setIfInBounds p v) t=(ps.zip xs).foldl (λt p=>t.setIfInBounds p.1 p.2) t:=by
 rw [List.zip_toArray];simp
abbrev Recs:=LoopState->Option Code->Loop
def zbm (rec:Recs) (lp:Nat) (K:Ending->World->Prop):Exit->Env->World->Prop
 | .normal,_,W=>W.heap[lp]? =some (.loop (rec .busy none))/\K (.returned (.bool true)) (W.putObj lp (.loop (rec .ready none)))
 | .ret,_,W=>W.heap[lp]? =some (.loop (rec .busy none))/\K (.returned (.bool false)) (W.putObj lp (.loop (rec .done (some .ret))))
 | .exit id,_,W=>W.heap[lp]? =some (.loop (rec .busy none))/\K (.returned (.bool false)) (W.putObj lp (.loop (rec .done (some (.exit id)))))
 | _,_,_=>False
def zVh (P:Program) (n:Nat) (body:Code) (rec:Recs) (lp:Nat) (K:Ending->World->Prop):Exit->Env->World->Prop
 | .normal,l,W=>W.heap[lp]? =some (.loop (rec .ready none))/\∀ W1,W1=W.putObj lp (.loop (rec .busy none))->@WpE (zQe (some lp) [] zUh) P n body (zbm rec lp K) l W1
 | _,_,_=>False
theorem zFi {P:Program} {n lp:Nat} {f:FuncId} {t:Array Value} {ps:List Nat} {xs:List Value} {assign body:Code} {rec:Recs} {l:Env} {W:World} {K:Ending->World->Prop}
    (hrec:∃ base:Loop,rec=λst pe=>{ base with state:=st,pending:=pe }) (hxs:xs.length=ps.length) (hp:pok n ps (l.map (·.1))=true) (ha:zbb n t l)
    (h:@WpE (zQe (some lp) [] zUh) P n assign (zVh P n body rec lp K) (penv ps xs l) W) :
    RoundIn Fence.wide 0 P lp f ((ps.zip xs).foldl (λt p=>t.setIfInBounds p.1 p.2) t) assign body W K:=by
 obtain⟨base,rfl⟩:=hrec;refine roundIn_of_wpIn trivial ?_;have h1:assign.wpIn (Fence.wide.inRound lp) 0 P (@zO (zQe (some lp) [] zUh) n (zVh P n body (λst pe=>{ base with state:=st,pending:=pe }) lp K)) ⟨(ps.zip xs).foldl (λt p=>t.setIfInBounds p.1 p.2) t,[]⟩ W:=h _ (zQf hxs hp ha);refine wpIn_mono h1 λe a w' he=> ?_;rcases he with ⟨hd,l',hag,hq⟩ | ⟨_,he⟩
 rotate_left
 ·exact he.elim
 obtain⟨t',d'⟩:=a;have hd:d'=[]:=hd;subst hd;cases e with
 | normal =>
  obtain⟨hl,hb⟩:=hq;have hbr:=run_beginRound (P:=P) hl rfl;refine⟨_,hbr,?_⟩;have h2:body.wpIn (Fence.wide.inRound lp) 0 P (@zO (zQe (some lp) [] zUh) n (zbm (λst pe=>{ base with state:=st,pending:=pe }) lp K)) ⟨t',[]⟩ (w'.putObj lp (.loop { base with state:= .busy,pending:=none })):=hb _ rfl t' hag;refine wpIn_mono h2 λe a w' he=> ?_;rcases he with ⟨hd,l',hag,hq⟩ | ⟨_,he⟩
  rotate_left
  ·exact he.elim
  cases e with
  | normal =>
   obtain⟨hl,hK⟩:=hq;have:=run_endRound (P:=P) none hl;exact⟨_,_,this,hK⟩
  | ret =>
   obtain⟨hl,hK⟩:=hq;have:=run_endRound (P:=P) (some .ret) hl;exact⟨_,_,this,hK⟩
  | exit id =>
   obtain⟨hl,hK⟩:=hq;have:=run_endRound (P:=P) (some (.exit id)) hl;exact⟨_,_,this,hK⟩
  | goto id=>exact hq.elim
  | panic ch=>exact hq.elim
  | outgrown=>exact hq.elim
 | ret=>exact hq.elim
 | exit id=>exact hq.elim
 | goto id=>exact hq.elim
 | panic ch=>exact hq.elim
 | outgrown=>exact hq.elim
def zcm (P:Program) (fn:Func) (R:Value->World->Prop) (n id D:Nat) (rest:Code) (l:Env) (w:World):Option Code->Prop
 | none=>@WpE (rndD P fn R D) P n rest (λ_ _ _=>False) l w
 | some (.exit i)=>i=id/\@WpE (rndD P fn R D) P n rest (λ_ _ _=>False) l w
 | some .ret=>w.heap[D]? =some (.deferred (some []))/\retQ P fn R .ret l (w.putObj D (.deferred none))
 | _=>False
def zVl (J:Env->World->Prop):Exit->Env->World->Prop
 | .normal,l,w=>J l w
 | _,_,_=>False
def zIk (P:Program) (fn:Func) (R:Value->World->Prop) (n id:Nat) (g:Operand) (ps:List Nat) (assign body rest:Code):Env->World->Prop:=λl w =>
 pok n ps (l.map (·.1))=true/\∃ gv,zuj l g=some gv/\∀(rec:Recs) (D:Nat) (w1:World),D=w.heap.size->w1=(w.alloc (.deferred (some []))).alloc (.loop (rec .ready none)) ->
  (∀(xs:List Value) (W:World) (K:Ending->World->Prop),xs.length=ps.length->W.heap[D+1]? =some (.loop (rec .ready none)) ->
   @WpE (zQe (some (D+1)) [] zUh) P n assign (zVh P n body rec (D+1) K) (penv ps xs l) W->zWb (P:=P) (zBc (D+1)) xs.toArray W K) ->
  zw (P:=P) gv #[zBc (D+1)] w1 (λe w2=>(∃ v,e= .returned v)/\∃ st pe,w2.heap[D+1]? =some (.loop (rec st pe))/\st≠ .busy/\zcm P fn R n id D rest l (w2.putObj (D+1) (.loop (rec .exhausted pe))) pe)
theorem zJk {P:Program} {fn:Func} {R:Value->World->Prop} {n id:Nat} {g:Operand} {ps:List Nat} {assign body rest:Code} {l:Env} {w:World} {gv:Value} (hp:pok n ps (l.map (·.1))=true) (hg:zuj l g=some gv)
    (h:∀(rec:Recs) (D:Nat) (w1:World),D=w.heap.size->w1=(w.alloc (.deferred (some []))).alloc (.loop (rec .ready none)) ->
    (∀(xs:List Value) (W:World) (K:Ending->World->Prop),xs.length=ps.length->W.heap[D+1]? =some (.loop (rec .ready none)) ->
     @WpE (zQe (some (D+1)) [] zUh) P n assign (zVh P n body rec (D+1) K) (penv ps xs l) W->zWb (P:=P) (zBc (D+1)) xs.toArray W K) ->
    zw (P:=P) gv #[zBc (D+1)] w1 (λe w2=>(∃ v,e= .returned v)/\∃ st pe,w2.heap[D+1]? =some (.loop (rec st pe))/\st≠ .busy/\zcm P fn R n id D rest l (w2.putObj (D+1) (.loop (rec .exhausted pe))) pe)) :
    zVl (zIk P fn R n id g ps assign body rest) .normal l w:=⟨hp,gv,hg,h⟩
theorem z2g {P:Program} {fn:Func} {R:Value->World->Prop} {n id:Nat} {c x r1 b rg rest assign body:Code} {g:Operand} {ps:List Nat} {psa:Array Nat} {Q:Exit->Env->World->Prop} {l:Env} {w:World}
    (hc:c= .seq x rest) (hx:x= .seq r1 b) (hb:b= .block id rg) (hr:rg= .rangeFunc g psa assign body) (hps:psa=ps.toArray)
    (h1:@WpE (rndY P fn R) P n r1 (zVl (zIk P fn R n id g ps assign body rest)) l w):@WpE (rndY P fn R) P n c Q l w:=by
 subst hc; subst hx; subst hb; subst hr; subst hps;intro t ha;have h1:r1.wpIn Fence.wide 0 P (@zO (rndY P fn R) n (zVl (zIk P fn R n id g ps assign body rest))) ⟨t,[]⟩ w:=h1 t ha;show(Code.seq (.seq r1 (.block id (.rangeFunc g ps.toArray assign body))) rest).wpIn Fence.wide 0 P (@zO (rndY P fn R) n Q) ⟨t,[]⟩ w;refine wpIn_seq (wpIn_seq (wpIn_mono h1 λe a w' he=> ?_));rcases he with ⟨hd,l',hag,hq⟩ | ⟨rfl,he⟩
 rotate_left
 ·exact .inr ⟨rfl,he⟩
 obtain⟨t',d'⟩:=a;have hd:d'=[]:=hd;subst hd;cases e with
 | ret=>exact hq.elim
 | exit id=>exact hq.elim
 | goto id=>exact hq.elim
 | panic ch=>exact hq.elim
 | outgrown=>exact hq.elim
 | normal =>
 obtain⟨hpok,gv,hg,hJ⟩:=hq;refine wpIn_block (wpIn_rangeFunc ?_);intro fn' hfn;obtain⟨rec,hrec⟩:∃ rec:Recs,rec=λst pe=>{ state:=st,pending:=pe,fn:=fn',tmps:=t',params:=ps.toArray,assign,body,defers:=w'.heap.size }:=⟨_,rfl⟩
 obtain⟨w1,hw1⟩:∃ w1,w1=(w'.alloc (.deferred (some []))).alloc (.loop (rec .ready none)):=⟨_,rfl⟩
 have hB:∀(xs:List Value) (W:World) (K:Ending->World->Prop),xs.length=ps.length->W.heap[w'.heap.size+1]? =some (.loop (rec .ready none)) ->
     @WpE (zQe (some (w'.heap.size+1)) [] zUh) P n assign (zVh P n body rec (w'.heap.size+1) K) (penv ps xs l') W->zWb (P:=P) (zBc (w'.heap.size+1)) xs.toArray W K:=by
  intro xs W K hxs hl hwp;have hy:=run_yield (P:=P) (args:=xs.toArray) hl (by rw [hrec]; simpa using hxs);refine .inr ⟨w'.heap.size+1,fn',_,assign,body,rfl,?_,zFi (f:=fn') (t:=t') ⟨{ state:= .ready,pending:=none,fn:=fn',tmps:=t',params:=ps.toArray,assign,body,defers:=w'.heap.size },hrec⟩ hxs hpok hag hwp⟩;rw [hy,hrec];rw [zUl]
 obtain⟨gf,first,captured,rfl,hgo,hcall⟩:=hJ rec _ w1 rfl hw1 hB;have hev:Act.eval ⟨t',[]⟩ g= .func (.func gf) first captured:=zcg hag hg
 refine⟨w'.heap.size+1,[{ target:= .collected w'.heap.size,args:=#[] }],w1,{ target:= .fn (.func gf) captured,args:=first++#[zBc (w'.heap.size+1)] },w1,gf,first++#[zBc (w'.heap.size+1)]++captured,w1,?_,?_,λ_ _=>trivial,?_,nofun,?_⟩
 ·rw [hw1,hrec]; exact run_enterLoop_outer _ _ _ _ _
 ·simp only [Go.resolve,hev];simp [go_sem,Deferred.ofValue]
 ·simp [invoke,go_sem,zHe hgo]
 ·refine callsIn_wide.2 (Calls.mono hcall ?_);rintro e w2 ⟨⟨v,rfl⟩,st,pe,hl,hst,haft⟩;have hend:=run_endLoop (P:=P) hl (by rw [hrec]; exact hst);rw [show({ rec st pe with state:= .exhausted }:Loop)=rec .exhausted pe from by rw [hrec],show(rec st pe).pending=pe from by rw [hrec]] at hend;refine⟨pe,_,hend,?_⟩
  have goon:@WpE (rndD P fn R w'.heap.size) P n rest (λ_ _ _=>False) l' (w2.putObj (w'.heap.size+1) (.loop (rec .exhausted pe))) ->
      rest.wpIn Fence.wide 0 P (@zO (rndY P fn R) n Q) ⟨t',[{ target:= .collected w'.heap.size,args:=#[] }]⟩ (w2.putObj (w'.heap.size+1) (.loop (rec .exhausted pe))):=λh=>by
   have h:rest.wpIn Fence.wide 0 P (@zO (rndD P fn R w'.heap.size) n (λ_ _ _=>False)) ⟨t',[{ target:= .collected w'.heap.size,args:=#[] }]⟩ (w2.putObj (w'.heap.size+1) (.loop (rec .exhausted pe))):=h t' hag;refine wpIn_mono h λe a w3 he=> ?_;rcases he with ⟨_,l3,_,hq⟩ | he
   ·exact hq.elim
   ·exact .inr he
  cases pe with
  | none=>exact goon haft
  | some c =>
   cases c with
   | exit i =>
    obtain⟨rfl,haft⟩:=haft;refine wpIn_exit ?_;show Exit.inBlock i _ (.exit i) _ _;simp only [Exit.inBlock,if_true];exact goon haft
   | ret =>
    obtain⟨hD,haft⟩:=haft;refine wpIn_ret ?_;show @zO (rndY P fn R) n Q .ret _ _;exact .inr ⟨rfl,w'.heap.size,rfl,hD,haft t' ⟨n,hag⟩⟩
   | _=>exact haft.elim
def z3g (ops:Array Oper):Bool:=ops.all λo=>match o.op with | .defer .. =>false | _=>true
theorem zWh {ops:Array Oper} (h:z3g ops=true) {i:Nat} {o:Oper} (ho:ops[i]? =some o):∀ c,o.op≠ .defer c:=by
 intro c he;unfold z3g at h;rw [Array.all_eq_true'] at h;have:=h o (Array.mem_of_getElem? ho);rw [he] at this;cases this
theorem zKk {P:Program} {ops:Array Oper} {F:Fence} {ro:Option Nat} {ds:List Deferred} {Q Q':Exit->Act->World->Prop} (hF:F={ Fence.wide with round:=ro }) (hnd:z3g ops=true) (hno:∀ a w,¬ Q .outgrown a w)
    (hq:∀ t dl w,Q .normal ⟨t,dl⟩ w->Q' .normal ⟨t,dl++ds⟩ w) (hp:∀ ch t dl w,Q (.panic ch) ⟨t,dl⟩ w->Q' (.panic ch) ⟨t,dl++ds⟩ w) :
    ∀(fuel:Nat) (listed:Array Bool) (t:Array Value) (dl:List Deferred) (w:World),wpAny P .any ops Q fuel listed ⟨t,dl⟩ w->wpAnyIn F 0 P .any ops Q' fuel listed ⟨t,dl++ds⟩ w:=by
 subst hF;intro fuel
 induction fuel with
 | zero=>intro listed t dl w h; exact⟨h.1,hq _ _ _ h.2⟩
 | succ fuel ih =>
  intro listed t dl w h;refine⟨λhr=>hq _ _ _ (h.1 hr),λi hi=> ?_⟩;have h:=h.2 i hi;unfold wpOp at h;unfold wpOpIn;cases ho:ops[i]? with
  | none=>rw [ho] at h; exact ih _ _ _ _ h
  | some o =>
   rw [ho] at h;simp only at h ⊢;have hy:∀ d1 d2,yielded ops (Act.mk t d1).tmps=yielded ops (Act.mk t d2).tmps:=λ_ _=>rfl;by_cases hw:Region.wanted o (yielded ops t)=true
   ·rw [if_pos hw] at h ⊢;rcases h with h | ⟨_,a0,w0,h⟩
    rotate_left
    ·exact absurd h (hno _ _)
    refine⟨λ_ _=>trivial,?_⟩;rw [Oper.semAt_eq _ _ _ (zWh hnd ho)];unfold Oper.wp at h
    have he:execOp (Act.eval ⟨t,dl++ds⟩) o=execOp (Act.eval ⟨t,dl⟩) o:=by
     have:Act.eval ⟨t,dl++ds⟩=Act.eval ⟨t,dl⟩:=by
      funext x;cases x <;> rfl
     rw [this]
    rw [he]
    have hput:∀(v:Value) (d2:List Deferred) w',wpAny P .any ops Q fuel (listed.setIfInBounds i true) (Act.put ⟨t,d2⟩ o.dst v) w'->wpAnyIn { Fence.wide with round:=ro } 0 P .any ops Q' fuel (listed.setIfInBounds i true) (Act.put ⟨t,d2++ds⟩ o.dst v) w':=λv d2 w' hk=>by
     cases hd:o.dst with
     | none=>rw [hd] at hk; exact ih _ _ _ _ hk
     | some d=>rw [hd] at hk; exact ih _ _ _ _ hk
    generalize (execOp (Act.eval ⟨t,dl⟩) o).run P w=r at h ⊢;cases r with
    | halt x w' =>
     cases x with
     | panic v=>exact hp _ _ _ _ h
     | _=>exact h.elim
    | ok nx w' =>
     cases nx with
     | value v=>exact hput _ _ _ h
     | skip=>exact hput _ _ _ h
     | defer d=>exact hput _ (d::dl) _ h
     | enter f args =>
      refine⟨nofun,callsIn_wide.2 (Calls.mono h ?_)⟩;intro e w'' hr;cases e with
      | returned v=>exact hput _ _ _ hr
      | panicked ch=>exact hp _ _ _ _ hr
      | outgrown=>obtain⟨a0,w0,hr⟩:=hr; exact absurd hr (hno _ _)
     | row row args =>
      refine⟨nofun,λc cs _=> ?_⟩;obtain⟨v,w2,hR,hs⟩:=h c cs;exact⟨v,w2,hput _ _ _ hR,stepsIn_wide.2 hs⟩
     | _=>exact h.elim
   ·rw [if_neg hw] at h ⊢;refine⟨λ_ _=>trivial,?_⟩;cases hd:o.dst with
    | none=>rw [hd] at h; exact ih _ _ _ _ h
    | some d=>rw [hd] at h; exact ih _ _ _ _ h
theorem z5 {ro:Option Nat} {ds:List Deferred} {esc:Act->World->Prop} {P:Program} {n id:Nat} {c:Code} {ops:Array Oper} {Q:Exit->Env->World->Prop} {l:Env} {w:World} (π:List Nat) (hc:c= .region id ops true)
    (hm:P.follows .mixedOrders=true) (hB:mixB ops=true) (hO:zIf ops π=true) (hnd:z3g ops=true)
    (h:∀ w1,(∃ k,w1=w.drewN k)->RegM P n ops (@zO rnd0 n (zVl (Q .normal))) π [] 0 (toG l) w1):@WpE (zQe ro ds esc) P n c Q l w:=by
 subst hc;intro t ha;show(Code.region id ops true).wpIn { Fence.wide with round:=ro } 0 P (@zO (zQe ro ds esc) n Q) ⟨t,ds⟩ w;refine wpIn_region_any hm ?_;have h:=(h w.drew ⟨1,rfl⟩ t ha.inv).2 hO t (Array.replicate ops.size false) t ?_ trivial ops.size ?_
 ·refine zKk (ds:=ds) rfl hnd (λa w h=> ?_) (λt dl w h=> ?_) (λch t dl w h=> ?_) _ _ _ [] _ h
  ·rcases h with ⟨_,_,_,h⟩ | ⟨h,_⟩
   ·exact h.elim
   ·cases h
  ·rcases h with ⟨hd,l',hag,h⟩ | ⟨h,_⟩
   ·have hd:dl=[]:=hd;subst hd;exact .inl ⟨rfl,l',hag,h⟩
   ·cases h
  ·rcases h with ⟨_,_,_,h⟩ | ⟨h,_⟩
   ·exact h.elim
   ·cases h
 ·refine⟨hB,λi hi=>(by simp at hi),λ_ _=>rfl,by simp,λi hi=> ?_,λj oj _ hl=> ?_,ha.1,ha.1,λs j hj=> ?_,λ_ _=>rfl,λi hi=>(by simp at hi)⟩
  ·rw [getD_replicate_false] at hi; cases hi
  ·rw [getD_replicate_false] at hl; cases hl
  ·rw [getD_replicate_false] at hj; cases hj
 ·unfold unl;exact cH (cI _ _) (by simp)
section
variable [Rnd]
abbrev sv_ (x:Slc):Value:= .slice x.ptr x.len x.cap
abbrev pv_ (b:Nat):Value:= .pointer (some ⟨b,0,none⟩)
section
variable {P:Program} {n:Nat} {c:Code} {Q:Exit->Env->World->Prop} {l:Env} {w:World} {ops:Array Oper} {X:Exit->Act->World->Prop} {i:Nat} {ge:GEnv}
def Code.rid:Code->Nat
 | .region i _ _=>i
 | _=>0
noncomputable abbrev cr_:=Code.r
noncomputable abbrev cl_:=Code.l
noncomputable abbrev co_:=Code.ops
noncomputable abbrev cb_ (f:Func):Code:=f.body.getD Code.skip
def Pl (k:Nat):List Mode:=List.replicate k .plain
def P1:List Mode:=[.plain]
def P2:List Mode:=[.plain,.plain]
def P3:List Mode:=[.plain,.plain,.plain]
def P4:List Mode:=[.plain,.plain,.plain,.plain]
end
end
section
variable [Rnd]
def stG (P:Program) (n:Nat) (ops:Array Oper) (ms:List Mode) (i:Nat) (ge:GEnv):GEnv:=(zfb P n ops ms i ge).getD []
def stM (P:Program) (n:Nat) (ops:Array Oper) (π:List Nat) (ms:List Mode) (i:Nat) (ge:GEnv):GEnv:=(zPc P n ops π ms i ge).getD []
def enE:List Nat->GEnv->Env
 | [],_=>[]
 | s::ks,ge=>match zU ge s with
  | some ([],v)=>(s,v)::enE ks ge
  | _=>enE ks ge
theorem zLk {ge:GEnv}:∀ {ks:List Nat},∀ p∈enE ks ge,zU ge p.1=some ([],p.2)
 | [],p,h=>by cases h
 | s::ks,p,h=>by
  unfold enE at h;split at h
  ·rename_i v hv
   rcases aU.1 h with rfl | h
   ·exact hv
   ·exact zLk p h
  ·exact zLk p h
theorem zGi (ks:List Nat) (ge:GEnv):(enE ks ge).map (λp=>zU ge p.1)=(enE ks ge).map (λp=>some ([],p.2)) :=
 gL λp hp=>zLk p hp
def zC (n:Nat) (ops:Array Oper) (ge:GEnv) (i:Nat):Option Nat:=(opAt n ops ge i).bind (·.2.2)
def Code.cnd:Code->Operand
 | .cond o _ _=>o
 | _=> .tmp 0
def gdOf (ge:GEnv) (s:Nat):Gd:=match zU ge s with
 | some x=>x.1
 | none=>[]
abbrev pa_ (p:Option Addr):Option Addr:=some ⟨pblk p,poff p,none⟩
abbrev sl_ (l c b:Nat):Value:= .slice (some ⟨b,0,none⟩) l c
theorem zCc {n:Nat} {t:Array Value} {ge:GEnv} {s:Nat} {v v':Value} (hv:v=v') (hg:zU ge s=some (gdOf ge s,v)) (h:Inv n t ge):Inv n t ((s,gdOf ge s,v')::ge):=by
 subst hv;refine⟨h.size,λs' ψ x hx=> ?_⟩;simp only [zU] at hx;cases hb:Nat.beq s' s with
 | true =>
  rw [hb] at hx;have:s'=s:=bH hb;subst this;simp only [cond_true,aC,bI] at hx;obtain⟨rfl,rfl⟩:=hx;exact h.ok _ _ _ hg
 | false =>
  rw [hb] at hx;exact h.ok _ _ _ hx
def ld1 (P:Program) (ge:GEnv):Op->Option (Value×Bool)
 | .load t a=>some (rho ge a,zVb P t)
 | _=>none
def ldN (P:Program) (ge:GEnv):Op->Option (Value×Bool×Option Nat)
 | .load t a=>some (rho ge a,aggT P t,zB P t)
 | _=>none
def stO (P:Program) (ge:GEnv):Op->Option (Value×Array Value×Option Nat)
 | .store t a x=>some (rho ge a,(rho ge x).cells,zB P t)
 | _=>none
def ixT (P:Program) (t:TypeId):Option TypeId:=match P.underlying t with
 | some (.slice e)=>some e
 | _=>none
def ixA (P:Program) (ge:GEnv):Op->Option (Value×Value×Option (Option Nat))
 | .indexAddr t x ix=>some (rho ge x,rho ge ix,(ixT P t).map (zB P))
 | _=>none
def vB:Value->Nat
 | .slice (some a) _ _=>a.block
 | _=>0
def vO:Value->Nat
 | .slice (some a) _ _=>a.off
 | _=>0
def vC:Value->Nat
 | .slice _ _ c=>c
 | _=>0
def ldZ (P:Program) (n:Nat) (ops:Array Oper) (ge:GEnv) (i:Nat):Nat:=match (opAt n ops ge i).bind (λy=>ldN P ge y.1) with
 | some (_,_,some z)=>z
 | _=>0
def ixX (P:Program) (n:Nat) (ops:Array Oper) (ge:GEnv) (i:Nat):Value:=match opAt n ops ge i with
 | some (.indexAddr _ x _,_,_)=>rho ge x
 | _=>undef
def ixZ (P:Program) (n:Nat) (ops:Array Oper) (ge:GEnv) (i:Nat):Nat:=match opAt n ops ge i with
 | some (.indexAddr t _ _,_,_)=>(match (ixT P t).map (zB P) with | some (some z)=>z | _=>0)
 | _=>0
theorem z8i {P:Program} {t e:TypeId} (h:ixT P t=some e):P.underlying t=some (.slice e):=by
 unfold ixT at h;split at h
 ·rename_i e' he
  rw [he,aE h]
 ·cases h
theorem zfc {n:Nat} {ops:Array Oper} {ge:GEnv} {i:Nat} {op:Op} {ty:TypeId} {d:Option Nat} (h:opAt n ops ge i=some (op,ty,d)):zC n ops ge i=d:=by
 unfold zC; rw [h]; rfl
section
variable {P:Program} {n:Nat} {c:Code} {l:Env} {w:World} {ops:Array Oper} {X:Exit->Act->World->Prop} {i:Nat} {ge:GEnv}
section
variable {Q:Exit->Env->World->Prop}
theorem Ys (h:WpE P n (Code.l c) (seqQ P n (Code.r c) Q) l w) (hc:c= .seq (Code.l c) (Code.r c):=by kernel_rfl):WpE P n c Q l w:=zki hc h
theorem Yr (h:RegG P n (Code.ops c) (zO n Q) 0 (toG l) w) (hc:c= .region (Code.rid c) (Code.ops c) false:=by kernel_rfl):WpE P n c Q l w:=zfg hc h
theorem Yt (h:RegG P n (Code.ops (Code.l c)) (zO n (seqQ P n (Code.r c) Q)) 0 (toG l) w) (hc:c= .seq (.region (Code.rid (Code.l c)) (Code.ops (Code.l c)) false) (Code.r c):=by kernel_rfl):WpE P n c Q l w:=zki hc (zfg rfl h)
theorem Yn (ms:List Mode) (hn:RegG P n ops X (i+ms.length) (stG P n ops ms i ge) w) (h:(zfb P n ops ms i ge).isSome=true:=by kernel_rfl):RegG P n ops X i ge w:=by
 unfold stG at hn;cases hq:zfb P n ops ms i ge with
 | none=>rw [hq] at h; cases h
 | some g =>
  rw [hq] at hn;exact z1c lawG ms i ge g hq hn
theorem Yf (ms:List Mode) (ks:List Nat) (h:Q .normal (enE ks (stG P n ops ms i ge)) w) (hc:(Nat.beq ops.size (i+ms.length)&&(zfb P n ops ms i ge).isSome)=true:=by kernel_rfl):RegG P n ops (zO n Q) i ge w:=by
 simp only [aD] at hc;exact Yn ms (zyk _ (bH hc.1) (zGi ks _) h) hc.2
theorem Yg {y:Code} (ms:List Mode) (ks:List Nat) (h:WpE P n y Q (enE ks (stG P n ops ms i ge)) w) (hc:(Nat.beq ops.size (i+ms.length)&&(zfb P n ops ms i ge).isSome)=true:=by kernel_rfl):RegG P n ops (zO n (seqQ P n y Q)) i ge w :=
 Yf ms ks h hc
theorem Yp (ms:List Mode) (ks:List Nat) (k:WpE P n (Code.r c) Q (enE ks (stG P n (Code.ops (Code.l c)) ms 0 (toG l))) w) (hc:c= .seq (.region (Code.rid (Code.l c)) (Code.ops (Code.l c)) false) (Code.r c):=by kernel_rfl)
    (hi:(Nat.beq (Code.ops (Code.l c)).size (0+ms.length)&&(zfb P n (Code.ops (Code.l c)) ms 0 (toG l)).isSome)=true:=by kernel_rfl):WpE P n c Q l w:=Yt (Yg ms ks k hi) hc
theorem Yc {b:Bool} {A B:Prop} (h:(b=true->A)/\(b=false->B)) (ht:A->WpE P n (Code.l c) Q l w) (hf:B->WpE P n (Code.r c) Q l w) (hc:c= .cond (Code.cnd c) (Code.l c) (Code.r c):=by kernel_rfl)
    (hb:zuj l (Code.cnd c)=some (.bool b):=by kernel_rfl):WpE P n c Q l w:=zNl hc hb (λe=>ht (h.1 e)) (λe=>hf (h.2 e))
theorem Yd (id:Nat) (h:WpE P n (Code.l c) (zZc id Q) l w) (hc:c= .block id (Code.l c):=by kernel_rfl):WpE P n c Q l w:=ztk hc h
theorem Yk {y:Code} (h:WpE P n y Q l w) (hc:c= .skip:=by kernel_rfl):WpE P n c (seqQ P n y Q) l w:=zZi hc h
theorem z4g (id:Nat) (h:Q (.exit id) l w) (hc:c= .exit id:=by kernel_rfl):WpE P n c Q l w:=zMl hc h
theorem zA (h:Q .normal l w) (hc:c= .skip:=by kernel_rfl):WpE P n c Q l w:=zZi hc h
theorem zqd (IE:Nat->Env->World->Prop) {m:Nat} {l':Env} (h0:IE m l' w) (round:∀ m l w,IE m l w->WpE P n (Code.l c) (zuk IE m Q) l w) (hc:c= .loop (Code.l c):=by kernel_rfl)
    (hs:l'.map (λp=>zAb l p.1)=l'.map (λp=>some p.2):=by kernel_rfl):WpE P n c Q l w:=zOl hc IE (Sub.mk hs) h0 round
theorem Ycut (J:Env->World->Prop) (h:WpE P n (Code.l c) (cutQ (λl w=>∃ l',Sub l l'/\J l' w) Q) l w) (hy:∀ l w,J l w->WpE P n (Code.r c) Q l w) (hc:c= .seq (Code.l c) (Code.r c):=by kernel_rfl):WpE P n c Q l w :=
 zli hc J h hy
end
theorem Yspl {b:Bool} {A B:Prop} (s:Nat) (h:(b=true->A)/\(b=false->B)) (ht:A->RegG P n ops X i (resolve s true ge) w) (hf:B->RegG P n ops X i (resolve s false ge) w)
    (hs:zU ge s=some ([],.bool b):=by kernel_rfl):RegG P n ops X i ge w:=zzk s b hs (λe=>ht (h.1 e)) (λe=>hf (h.2 e))
theorem Yv {p:Option Addr} {G:Prop} (s:Nat) (h:IsAt p/\G) (k:IsAt p->G->RegG P n ops X i ((s,gdOf ge s,.pointer (pa_ p))::ge) w) (hg:zU ge s=some (gdOf ge s,.pointer p):=by kernel_rfl):RegG P n ops X i ge w :=
 λt ht=>k h.1 h.2 t (zCc (congrArg Value.pointer h.1) hg ht)
theorem Yu {α:Type} {p q:α} (s:Nat) (f:α->Value) (e:p=q) (k:RegG P n ops X i ((s,gdOf ge s,f q)::ge) w) (hg:zU ge s=some (gdOf ge s,f p):=by kernel_rfl):RegG P n ops X i ge w :=
 λt ht=>k t (zCc (congrArg f e) hg ht)
theorem z5g {b o:Nat} {op:Op} (h:ld1 P ge op=some (.pointer (some ⟨b,o,none⟩),true)):∃ t a,op= .load t a/\rho ge a= .pointer (some ⟨b,o,none⟩)/\zVb P t=true:=by
 cases op with
 | load t a =>
  simp only [ld1,aC,bI] at h;exact⟨t,a,rfl,h.1,h.2⟩
 | _=>cases h
theorem z6g {b o:Nat} {op:Op} {z:Nat} (h:ldN P ge op=some (.pointer (some ⟨b,o,none⟩),true,some z)):∃ t a,op= .load t a/\rho ge a= .pointer (some ⟨b,o,none⟩)/\aggT P t=true/\zB P t=some z:=by
 cases op with
 | load t a =>
  simp only [ldN,aC,bI] at h;exact⟨t,a,rfl,h.1,h.2.1,h.2.2⟩
 | _=>cases h
theorem zu {α:Type} {f:Op->Option α} {x:α} (h:(opAt n ops ge i).bind (λy=>f y.1)=some x):∃ op ty d,opAt n ops ge i=some (op,ty,d)/\f op=some x/\zC n ops ge i=d:=by
 cases ho:opAt n ops ge i with
 | none=>rw [ho] at h; cases h
 | some y =>
  obtain⟨op,ty,d⟩:=y;rw [ho] at h;exact⟨op,ty,d,rfl,h,zfc ho⟩
theorem Yl {α:Type} {b o:Nat} {f:α->Value} {G:α->Prop} (h:∃ v,w.cell? ⟨b,o,none⟩=some (f v)/\G v) (k:∀ v,G v->RegG P n ops X (i+1) (putG (zC n ops ge i) (f v) ge) w)
    (ho:(opAt n ops ge i).bind (λy=>ld1 P ge y.1)=some (.pointer (some ⟨b,o,none⟩),true):=by kernel_rfl):RegG P n ops X i ge w:=by
 obtain⟨op,ty,d,h1,h2,h3⟩:=zu ho;obtain⟨t,a,rfl,h4,h5⟩:=z5g h2;obtain⟨v,hc,hG⟩:=h;rw [h3] at k;exact zBk h1 h4 h5 hc (k v hG)
theorem YL {α:Type} {b o:Nat} {f:α->List Value} {G:α->Prop} (h:∃ v,zf w b o (f v)/\G v) (k:∀ v,G v->RegG P n ops X (i+1) (putG (zC n ops ge i) (.agg (f v).toArray) ge) w)
    (hz:∀ v,(f v).length=ldZ P n ops ge i:=by intro v; kernel_rfl) (ho:(opAt n ops ge i).bind (λy=>ldN P ge y.1)=some (.pointer (some ⟨b,o,none⟩),true,some (ldZ P n ops ge i)):=by kernel_rfl):RegG P n ops X i ge w:=by
 obtain⟨op,ty,d,h1,h2,h3⟩:=zu ho;obtain⟨t,a,rfl,h4,h5,h6⟩:=z6g h2;obtain⟨v,hc,hG⟩:=h;rw [h3] at k;exact z4d (f v) h1 h4 h5 h6 (hz v) hc (k v hG)
theorem Yo {b o z:Nat} {vs:List Value} {G:World->Prop} (h:zr w b o z/\∀ w',w'=World.puts b o vs w->G w') (k:∀ w',G w'->RegG P n ops X (i+1) (putG (zC n ops ge i) undef ge) w')
    (hz:(Nat.beq vs.length z&&zv vs)=true:=by kernel_rfl) (ho:(opAt n ops ge i).bind (λy=>stO P ge y.1)=some (.pointer (some ⟨b,o,none⟩),vs.toArray,some z):=by kernel_rfl):RegG P n ops X i ge w:=by
 obtain⟨op,ty,d,h1,h2,h3⟩:=zu ho;simp only [aD] at hz;rw [h3] at k;cases op with
 | store t a x =>
  simp only [stO,aC,bI] at h2;exact zxc vs h1 h2.1 h2.2.1 h2.2.2 (bH hz.1) hz.2 h.1 λw' hw=>k w' (h.2 w' hw)
 | _=>cases h2
theorem Yw (f:Nat->Value) {o:Obj} {G:Nat->World->Prop} (h:∀ b w',b=w.heap.size->w'=w.alloc o->G b w') (k:∀ b w',G b w'->RegG P n ops X (i+1) (putG (zC n ops ge i) (f b) ge) w')
    (hr:(opAt n ops ge i).map (λx=>(ex x.1 x.2.1 (rho ge)).run P w)=some (.ok (.value (f w.heap.size)) { w with heap:=w.heap.push o }):=by kernel_rfl):RegG P n ops X i ge w:=by
 cases ho:opAt n ops ge i with
 | none=>rw [ho] at hr; cases hr
 | some x =>
  obtain⟨op,ty,d⟩:=x;rw [ho] at hr;simp only [bY,aC] at hr;rw [zfc ho] at k;exact zAk f o ho hr λb w' hb hw=>k b w' (h b w' hb hw)
theorem z9i {f:FuncId} {args:Array Value} (h:Calls P f args w (λe w'=>∃ v,e= .returned v/\RegG P n ops X (i+1) (putG (zC n ops ge i) v ge) w'))
    (hr:∀ ww,(opAt n ops ge i).map (λx=>(ex x.1 x.2.1 (rho ge)).run P ww)=some (.ok (.enter f args) ww)):RegG P n ops X i ge w:=by
 cases ho:opAt n ops ge i with
 | none=>have:=hr w; rw [ho] at this; cases this
 | some x =>
  obtain⟨op,ty,d⟩:=x;rw [zfc ho] at h;exact zvc f args ho (λww=>by have:=hr ww; rw [ho] at this; simpa only [bY,aC] using this) h
theorem Ym0 {f:FuncId} {args:Array Value} {v:Value} {G:World->Prop} (h:Calls P f args w (λe w'=>e= .returned v/\G w')) (k:∀ w',G w'->RegG P n ops X (i+1) (putG (zC n ops ge i) v ge) w')
    (hr:∀ ww,(opAt n ops ge i).map (λx=>(ex x.1 x.2.1 (rho ge)).run P ww)=some (.ok (.enter f args) ww):=by intro ww; kernel_rfl):RegG P n ops X i ge w :=
 z9i (Calls.mono h λe w' ⟨he,hg⟩=>⟨v,he,k w' hg⟩) hr
theorem Ym1 {α:Type} {f:FuncId} {args:Array Value} {g:α->Value} {G:α->World->Prop} (h:Calls P f args w (λe w'=>∃ r,e= .returned (g r)/\G r w')) (k:∀ r w',G r w'->RegG P n ops X (i+1) (putG (zC n ops ge i) (g r) ge) w')
    (hr:∀ ww,(opAt n ops ge i).map (λx=>(ex x.1 x.2.1 (rho ge)).run P ww)=some (.ok (.enter f args) ww):=by intro ww; kernel_rfl):RegG P n ops X i ge w :=
 z9i (Calls.mono h λe w' ⟨r,he,hg⟩=>⟨g r,he,k r w' hg⟩) hr
theorem Ym2 {α β:Type} {f:FuncId} {args:Array Value} {g:α->β->Value} {G:α->β->World->Prop} (h:Calls P f args w (λe w'=>∃ r s,e= .returned (g r s)/\G r s w')) (k:∀ r s w',G r s w'->RegG P n ops X (i+1) (putG (zC n ops ge i) (g r s) ge) w')
    (hr:∀ ww,(opAt n ops ge i).map (λx=>(ex x.1 x.2.1 (rho ge)).run P ww)=some (.ok (.enter f args) ww):=by intro ww; kernel_rfl):RegG P n ops X i ge w :=
 z9i (Calls.mono h λe w' ⟨r,s,he,hg⟩=>⟨g r s,he,k r s w' hg⟩) hr
theorem Ym3 {α β γ:Type} {f:FuncId} {args:Array Value} {g:α->β->γ->Value} {G:α->β->γ->World->Prop} (h:Calls P f args w (λe w'=>∃ r s u,e= .returned (g r s u)/\G r s u w')) (k:∀ r s u w',G r s u w'->RegG P n ops X (i+1) (putG (zC n ops ge i) (g r s u) ge) w')
    (hr:∀ ww,(opAt n ops ge i).map (λx=>(ex x.1 x.2.1 (rho ge)).run P ww)=some (.ok (.enter f args) ww):=by intro ww; kernel_rfl):RegG P n ops X i ge w :=
 z9i (Calls.mono h λe w' ⟨r,s,u,he,hg⟩=>⟨g r s u,he,k r s u w' hg⟩) hr
theorem zQc {op:Op} {x y:Value} {z:Nat} (h:ixA P ge op=some (x,y,some (some z))):∃ t e a b,op= .indexAddr t a b/\rho ge a=x/\rho ge b=y/\P.underlying t=some (.slice e)/\zB P e=some z:=by
 cases op with
 | indexAddr t a b =>
  simp only [ixA,aC,bI] at h;cases he:ixT P t with
  | none=>rw [he] at h; simp at h
  | some e =>
   rw [he] at h;simp only [bY,aC] at h;exact⟨t,e,a,b,rfl,h.1,h.2.1,z8i he,h.2.2⟩
 | _=>cases h
theorem Yi {j:Int} {ln:Nat} {G:Prop} (h:0<=j/\j<((ln:Nat):Int)/\G) (k:G->RegG P n ops X (i+1) (putG (zC n ops ge i) (.pointer (some ⟨vB (ixX P n ops ge i),vO (ixX P n ops ge i)+j.toNat*ixZ P n ops ge i,none⟩)) ge) w)
    (ho:(opAt n ops ge i).bind (λy=>ixA P ge y.1)=some (.slice (some ⟨vB (ixX P n ops ge i),vO (ixX P n ops ge i),none⟩) ln (vC (ixX P n ops ge i)),.int .i64 j,some (some (ixZ P n ops ge i))):=by kernel_rfl):RegG P n ops X i ge w:=by
 obtain⟨op,ty,d,h1,h2,h3⟩:=zu ho;obtain⟨t,e,a,b,rfl,h4,h5,h6,h7⟩:=zQc h2;rw [h3] at k;exact zid h1 h4 h5 h6 h7 h.1 h.2.1 (k h.2.2)
theorem Yi1 {j:Int} {ln:Nat} {G:Prop} (h:0<=j/\j<((ln:Nat):Int)/\G) (k:G->RegG P n ops X (i+1) (putG (zC n ops ge i) (.pointer (some ⟨vB (ixX P n ops ge i),vO (ixX P n ops ge i)+j.toNat,none⟩)) ge) w)
    (ho:(opAt n ops ge i).bind (λy=>ixA P ge y.1)=some (.slice (some ⟨vB (ixX P n ops ge i),vO (ixX P n ops ge i),none⟩) ln (vC (ixX P n ops ge i)),.int .i64 j,some (some 1)):=by kernel_rfl):RegG P n ops X i ge w:=by
 obtain⟨op,ty,d,h1,h2,h3⟩:=zu ho;obtain⟨t,e,a,b,rfl,h4,h5,h6,h7⟩:=zQc h2;rw [h3] at k;exact zti h1 h4 h5 h6 h7 h.1 h.2.1 (k h.2.2)
def zNj (fn:Func) (k:Nat):Nat:=match fn.results[k]? with
 | some (.tmp s)=>s
 | _=>0
class RetOf (Q:Exit->Env->World->Prop) (Q0:outParam (Exit->Env->World->Prop)):Prop where
 h:∀ l w,Q0 .ret l w->Q .ret l w
instance {fn:Func} {R:Value->World->Prop}:RetOf (retQ P fn R) (retQ P fn R):=⟨λ_ _ h=>h⟩
instance {Q Q0:Exit->Env->World->Prop} {y:Code} [k:RetOf Q Q0]:RetOf (seqQ P n y Q) Q0:=⟨λl w h=>k.h l w h⟩
instance {Q Q0:Exit->Env->World->Prop} {id:Nat} [k:RetOf Q Q0]:RetOf (zZc id Q) Q0:=⟨λl w h=>k.h l w h⟩
instance {Q Q0:Exit->Env->World->Prop} {IE:Nat->Env->World->Prop} {m:Nat} [k:RetOf Q Q0]:RetOf (zuk IE m Q) Q0:=⟨λl w h=>k.h l w h⟩
instance {Q Q0:Exit->Env->World->Prop} {J:Env->World->Prop} [k:RetOf Q Q0]:RetOf (cutQ J Q) Q0:=⟨λl w h=>k.h l w h⟩
section
variable {fn:Func} {R:Value->World->Prop} {Q:Exit->Env->World->Prop} [q:RetOf Q (retQ P fn R)]
theorem YSg {rs:List ResultVar} {v:Value} (h:zzf P l w rs [v]) (hR:R v w) (hr:fn.results.toList=rs:=by kernel_rfl) (hc:c= .ret:=by kernel_rfl):WpE P n c Q l w:=zsk hc (q.h _ _ (retS hr h hR))
theorem YTg {rs:List ResultVar} {vs:List Value} (h:zzf P l w rs vs) (hR:R (.tuple vs.toArray) w) (hr:fn.results.toList=rs:=by kernel_rfl) (h1:Nat.beq vs.length 1=false:=by kernel_rfl) (hc:c= .ret:=by kernel_rfl):WpE P n c Q l w:=zsk hc (q.h _ _ (retT hr h h1 hR))
theorem YT0 (hR:R (.tuple #[]) w) (hr:fn.results.toList=[]:=by kernel_rfl) (hc:c= .ret:=by kernel_rfl):WpE P n c Q l w:=YTg (rs:=[]) (vs:=[]) trivial hR hr rfl hc
theorem YT2 {v1 v2:Value} (hR:R (.tuple #[v1,v2]) w) (hr:fn.results.toList=[.tmp (zNj fn 0),.tmp (zNj fn 1)]:=by kernel_rfl) (h1:zAb l (zNj fn 0)=some v1:=by kernel_rfl) (h2:zAb l (zNj fn 1)=some v2:=by kernel_rfl) (hc:c= .ret:=by kernel_rfl):WpE P n c Q l w :=
 YTg (rs:=[.tmp (zNj fn 0),.tmp (zNj fn 1)]) (vs:=[v1,v2]) ⟨h1,h2,trivial⟩ hR hr rfl hc
end
end
end
section
variable {P:Program} {n:Nat} {c:Code} {l:Env} {w:World} {ops:Array Oper} {X:Exit->Act->World->Prop} {i:Nat} {ge:GEnv}
section
variable {m:Nat} {C:World->Prop} {Q:Act->Prop}
theorem Qn (ms:List Mode) (hn:RegQ P n ops m C Q (i+ms.length) (stG P n ops ms i ge) w) (h:(zfb P n ops ms i ge).isSome=true:=by kernel_rfl):RegQ P n ops m C Q i ge w:=by
 unfold stG at hn;cases hq:zfb P n ops ms i ge with
 | none=>rw [hq] at h; cases h
 | some g =>
  rw [hq] at hn;exact λhC=>z1c lawQ ms i ge g hq (hn hC)
theorem Qspl {b:Bool} {A B:Prop} (s:Nat) (h:(b=true->A)/\(b=false->B)) (ht:A->RegQ P n ops m C Q i (resolve s true ge) w) (hf:B->RegQ P n ops m C Q i (resolve s false ge) w)
    (hs:zU ge s=some ([],.bool b):=by kernel_rfl):RegQ P n ops m C Q i ge w:=zyj s b hs (λe=>ht (h.1 e)) (λe=>hf (h.2 e))
theorem Qv {p:Option Addr} {G:Prop} (s:Nat) (h:IsAt p/\G) (k:IsAt p->G->RegQ P n ops m C Q i ((s,gdOf ge s,.pointer (pa_ p))::ge) w) (hg:zU ge s=some (gdOf ge s,.pointer p):=by kernel_rfl):RegQ P n ops m C Q i ge w :=
 λhC t ht=>k h.1 h.2 hC t (zCc (congrArg Value.pointer h.1) hg ht)
theorem Qu {α:Type} {p q:α} (s:Nat) (f:α->Value) (e:p=q) (k:RegQ P n ops m C Q i ((s,gdOf ge s,f q)::ge) w) (hg:zU ge s=some (gdOf ge s,f p):=by kernel_rfl):RegQ P n ops m C Q i ge w :=
 λhC t ht=>k hC t (zCc (congrArg f e) hg ht)
theorem Ql {α:Type} {b o:Nat} {f:α->Value} {G:α->Prop} (h:∃ v,w.cell? ⟨b,o,none⟩=some (f v)/\G v) (k:∀ v,G v->RegQ P n ops m C Q (i+1) (putG (zC n ops ge i) (f v) ge) w)
    (ho:(opAt n ops ge i).bind (λy=>ld1 P ge y.1)=some (.pointer (some ⟨b,o,none⟩),true):=by kernel_rfl):RegQ P n ops m C Q i ge w:=by
 obtain⟨op,ty,d,h1,h2,h3⟩:=zu ho;obtain⟨t,a,rfl,h4,h5⟩:=z5g h2;obtain⟨v,hc,hG⟩:=h;rw [h3] at k;exact zAj h1 h4 h5 hc (k v hG)
theorem QL {α:Type} {b o:Nat} {f:α->List Value} {G:α->Prop} (h:∃ v,zf w b o (f v)/\G v) (k:∀ v,G v->RegQ P n ops m C Q (i+1) (putG (zC n ops ge i) (.agg (f v).toArray) ge) w)
    (hz:∀ v,(f v).length=ldZ P n ops ge i:=by intro v; kernel_rfl) (ho:(opAt n ops ge i).bind (λy=>ldN P ge y.1)=some (.pointer (some ⟨b,o,none⟩),true,some (ldZ P n ops ge i)):=by kernel_rfl):RegQ P n ops m C Q i ge w:=by
 obtain⟨op,ty,d,h1,h2,h3⟩:=zu ho;obtain⟨t,a,rfl,h4,h5,h6⟩:=z6g h2;obtain⟨v,hc,hG⟩:=h;rw [h3] at k;exact zBj (f v) h1 h4 h5 h6 (hz v) hc (k v hG)
theorem Qi {j:Int} {ln:Nat} {G:Prop} (h:0<=j/\j<((ln:Nat):Int)/\G) (k:G->RegQ P n ops m C Q (i+1) (putG (zC n ops ge i) (.pointer (some ⟨vB (ixX P n ops ge i),vO (ixX P n ops ge i)+j.toNat*ixZ P n ops ge i,none⟩)) ge) w)
    (ho:(opAt n ops ge i).bind (λy=>ixA P ge y.1)=some (.slice (some ⟨vB (ixX P n ops ge i),vO (ixX P n ops ge i),none⟩) ln (vC (ixX P n ops ge i)),.int .i64 j,some (some (ixZ P n ops ge i))):=by kernel_rfl):RegQ P n ops m C Q i ge w:=by
 obtain⟨op,ty,d,h1,h2,h3⟩:=zu ho;obtain⟨t,e,a,b,rfl,h4,h5,h6,h7⟩:=zQc h2;rw [h3] at k;exact zIc h1 h4 h5 h6 h7 h.1 h.2.1 (k h.2.2)
theorem Qi1 {j:Int} {ln:Nat} {G:Prop} (h:0<=j/\j<((ln:Nat):Int)/\G) (k:G->RegQ P n ops m C Q (i+1) (putG (zC n ops ge i) (.pointer (some ⟨vB (ixX P n ops ge i),vO (ixX P n ops ge i)+j.toNat,none⟩)) ge) w)
    (ho:(opAt n ops ge i).bind (λy=>ixA P ge y.1)=some (.slice (some ⟨vB (ixX P n ops ge i),vO (ixX P n ops ge i),none⟩) ln (vC (ixX P n ops ge i)),.int .i64 j,some (some 1)):=by kernel_rfl):RegQ P n ops m C Q i ge w:=by
 obtain⟨op,ty,d,h1,h2,h3⟩:=zu ho;obtain⟨t,e,a,b,rfl,h4,h5,h6,h7⟩:=zQc h2;rw [h3] at k;exact zzh h1 h4 h5 h6 h7 h.1 h.2.1 (k h.2.2)
end
theorem Qf {Q:Exit->Env->World->Prop} {G:World->Prop} (ms:List Mode) (ks:List Nat) (h:∀ w',Ext w w'->G w') (k:∀ w',G w'->Q .normal (enE ks (stG P n ops ms i ge)) w')
    (hc:(Nat.beq ops.size (i+ms.length)&&(zfb P n ops ms i ge).isSome)=true:=by kernel_rfl):RegQ P n ops ops.size (Ext w) (λa=>∀ w',Ext w w'->zO n Q .normal a w') i ge w:=by
 simp only [aD] at hc;exact Qn ms (zPl _ (bH hc.1) (zGi ks _) λw' hw=>k w' (h w' hw)) hc.2
section
variable {π:List Nat} {pd:Pds} {ps:Nat} {Q:Exit->Act->World->Prop}
theorem Mn (ms:List Mode) (hn:RegM P n ops Q π pd (ps+ms.length) (stM P n ops π ms ps ge) w) (h:(zPc P n ops π ms ps ge).isSome=true:=by kernel_rfl):RegM P n ops Q π pd ps ge w:=by
 unfold stM at hn;cases hq:zPc P n ops π ms ps ge with
 | none=>rw [hq] at h; cases h
 | some g =>
  rw [hq] at hn;exact zGe ms ps ge g hq hn
theorem Mspl {b:Bool} {A B:Prop} (s:Nat) (h:(b=true->A)/\(b=false->B)) (ht:A->RegM P n ops Q π pd ps (resolve s true ge) w) (hf:B->RegM P n ops Q π pd ps (resolve s false ge) w)
    (hs:zU ge s=some ([],.bool b):=by kernel_rfl):RegM P n ops Q π pd ps ge w:=zDj s b hs (λe=>ht (h.1 e)) (λe=>hf (h.2 e))
theorem Mv {p:Option Addr} {G:Prop} (s:Nat) (h:IsAt p/\G) (k:IsAt p->G->RegM P n ops Q π pd ps ((s,gdOf ge s,.pointer (pa_ p))::ge) w) (hg:zU ge s=some (gdOf ge s,.pointer p):=by kernel_rfl):RegM P n ops Q π pd ps ge w :=
 λt ht=>k h.1 h.2 t (zCc (congrArg Value.pointer h.1) hg ht)
theorem Mu {α:Type} {p q:α} (s:Nat) (f:α->Value) (e:p=q) (k:RegM P n ops Q π pd ps ((s,gdOf ge s,f q)::ge) w) (hg:zU ge s=some (gdOf ge s,f p):=by kernel_rfl):RegM P n ops Q π pd ps ge w :=
 λt ht=>k t (zCc (congrArg f e) hg ht)
theorem Ml {α:Type} {b o:Nat} {f:α->Value} {G:α->Prop} (i:Nat) (h:∃ v,w.cell? ⟨b,o,none⟩=some (f v)/\G v) (k:∀ v,w.cell? ⟨b,o,none⟩=some (f v)->G v->RegM P n ops Q π ((i,λw'=>w'.cell? ⟨b,o,none⟩=some (f v))::pd) (ps+1) (putG (zC n ops ge i) (f v) ge) w)
    (hk:π[ps]? =some i:=by kernel_rfl) (ho:(opAt n ops ge i).bind (λy=>ld1 P ge y.1)=some (.pointer (some ⟨b,o,none⟩),true):=by kernel_rfl):RegM P n ops Q π pd ps ge w:=by
 obtain⟨op,ty,d,h1,h2,h3⟩:=zu ho;obtain⟨t,a,rfl,h4,h5⟩:=z5g h2;obtain⟨v,hc,hG⟩:=h;rw [h3] at k;exact zEj hk h1 h4 h5 hc (k v hc hG)
theorem ML {α:Type} {b o:Nat} {f:α->List Value} {G:α->Prop} (i:Nat) (h:∃ v,zf w b o (f v)/\G v) (k:∀ v,zf w b o (f v)->G v->RegM P n ops Q π ((i,λw'=>zf w' b o (f v))::pd) (ps+1) (putG (zC n ops ge i) (.agg (f v).toArray) ge) w)
    (hk:π[ps]? =some i:=by kernel_rfl) (hz:∀ v,(f v).length=ldZ P n ops ge i:=by intro v; kernel_rfl) (ho:(opAt n ops ge i).bind (λy=>ldN P ge y.1)=some (.pointer (some ⟨b,o,none⟩),true,some (ldZ P n ops ge i)):=by kernel_rfl):RegM P n ops Q π pd ps ge w:=by
 obtain⟨op,ty,d,h1,h2,h3⟩:=zu ho;obtain⟨t,a,rfl,h4,h5,h6⟩:=z6g h2;obtain⟨v,hc,hG⟩:=h;rw [h3] at k;exact zmg hk (f v) h1 h4 h5 h6 (hz v) hc (k v hc hG)
theorem Mi {j:Int} {ln:Nat} {G:Prop} (i:Nat) (h:0<=j/\j<((ln:Nat):Int)/\G) (k:G->RegM P n ops Q π pd (ps+1) (putG (zC n ops ge i) (.pointer (some ⟨vB (ixX P n ops ge i),vO (ixX P n ops ge i)+j.toNat*ixZ P n ops ge i,none⟩)) ge) w)
    (hk:π[ps]? =some i:=by kernel_rfl) (ho:(opAt n ops ge i).bind (λy=>ixA P ge y.1)=some (.slice (some ⟨vB (ixX P n ops ge i),vO (ixX P n ops ge i),none⟩) ln (vC (ixX P n ops ge i)),.int .i64 j,some (some (ixZ P n ops ge i))):=by kernel_rfl):RegM P n ops Q π pd ps ge w:=by
 obtain⟨op,ty,d,h1,h2,h3⟩:=zu ho;obtain⟨t,e,a,b,rfl,h4,h5,h6,h7⟩:=zQc h2;rw [h3] at k;exact zMc hk h1 h4 h5 h6 h7 h.1 h.2.1 (k h.2.2)
theorem Mi1 {j:Int} {ln:Nat} {G:Prop} (i:Nat) (h:0<=j/\j<((ln:Nat):Int)/\G) (k:G->RegM P n ops Q π pd (ps+1) (putG (zC n ops ge i) (.pointer (some ⟨vB (ixX P n ops ge i),vO (ixX P n ops ge i)+j.toNat,none⟩)) ge) w)
    (hk:π[ps]? =some i:=by kernel_rfl) (ho:(opAt n ops ge i).bind (λy=>ixA P ge y.1)=some (.slice (some ⟨vB (ixX P n ops ge i),vO (ixX P n ops ge i),none⟩) ln (vC (ixX P n ops ge i)),.int .i64 j,some (some 1)):=by kernel_rfl):RegM P n ops Q π pd ps ge w:=by
 obtain⟨op,ty,d,h1,h2,h3⟩:=zu ho;obtain⟨t,e,a,b,rfl,h4,h5,h6,h7⟩:=zQc h2;rw [h3] at k;exact zEh hk h1 h4 h5 h6 h7 h.1 h.2.1 (k h.2.2)
theorem zyb {b o z:Nat} {vs:List Value} {G:World->Prop} (e:Nat) (D:List Nat) (pd':Pds) (h:zr w b o z/\∀ w',w'=World.puts b o vs w->G w') (k:∀ w',G w'->zgb pd' w'/\RegM P n ops Q π pd' (ps+1) (putG (zC n ops ge e) undef ge) w')
    (hk:π[ps]? =some e:=by kernel_rfl) (hB:(zae ops (π.take ps) e&&zzc ops e [] D)=true:=by kernel_rfl) (hpd:zib D pd=pd':=by kernel_rfl)
    (hz:(Nat.beq vs.length z&&zv vs)=true:=by kernel_rfl) (ho:(opAt n ops ge e).bind (λy=>stO P ge y.1)=some (.pointer (some ⟨b,o,none⟩),vs.toArray,some z):=by kernel_rfl):RegM P n ops Q π pd ps ge w:=by
 obtain⟨op,ty,d,h1,h2,h3⟩:=zu ho;simp only [aD] at hz hB;rw [h3] at k;cases op with
 | store t a x =>
  simp only [stO,aC,bI] at h2;exact zFj e D pd' vs hk hB.1 hB.2 hpd h1 h2.1 h2.2.1 h2.2.2 (bH hz.1) hz.2 h.1 λw' hw=>k w' (h.2 w' hw)
 | _=>cases h2
end
theorem Mf {Q:Exit->Env->World->Prop} {π:List Nat} {pd:Pds} {k:Nat} (ms:List Mode) (ks:List Nat) (h:Q .normal (enE ks (stM P n ops π ms k ge)) w)
    (hc:(Nat.beq (k+ms.length) π.length&&((List.range ops.size).all λj=>π.contains j)&&(zPc P n ops π ms k ge).isSome)=true:=by kernel_rfl):RegM P n ops (zO n Q) π pd k ge w:=by
 simp only [aD] at hc;exact Mn ms (zQl _ (bH hc.1.1) hc.1.2 (zGi ks _) h) hc.2
theorem Yh {f:FuncId} {fn:Func} {args:Array Value} {K:Ending->World->Prop} (hf:P.funcs[f]? =some fn) (h:WpE P fn.ntmps (cb_ fn) (retQ P fn (λv w'=>K (.returned v) w')) (z1d args.toList) w)
    (hb:fn.body=some (cb_ fn):=by kernel_rfl) (hsz:Nat.ble args.toList.length fn.ntmps=true:=by kernel_rfl):Calls P f args w K:=by
 have:=zuh (args:=args.toList) hf hb fn.ntmps rfl hsz _ rfl h;rw [cQ] at this;refine Calls.mono this ?_;rintro e w' ⟨v,rfl,hv⟩;exact hv
end
set_option maxRecDepth 100000
inductive Ty_ | i | u | a | q | b | s | p
abbrev Ty_.T:Ty_->Type
 | .i | .u | .a | .q=>Int
 | .b=>Bool
 | .s=>Slc
 | .p=>Option Addr
def Ty_.v:(t:Ty_)->t.T->Value
 | .i,x=>Value.int .i64 x
 | .u,x=>Value.int .u64 x
 | .a,x=>Value.int .u32 x
 | .q,x=>Value.int .u8 x
 | .b,x=>Value.bool x
 | .s,x=>Value.slice (Slc.ptr x) (Slc.len x) (Slc.cap x)
 | .p,x=>Value.pointer x
def MoA:Nat->Nat->List Mode->List Mode
 | 0,_,a=>a
 | f+1,n,a=>bif Nat.beq n 9 then a else MoA f (n / 10) ((match n % 10 with | 0=> .plain | 1=> .skip | 2=> .sure | 3=> .pick | _=> .spick)::a)
def Mo (n:Nat):List Mode:=MoA 100 n []
inductive I_
 | s | t | r | k | l | L | o | i | j | m | w | x | y | z | E | R | A | B | V | G | S | H | I | J | X | Y | Z | h | g | Az | Ms | k0 | k1 | up | dl | or (a:List I_) | q (s:Nat)
 | W (l c:Nat) | d (n:Nat) | e (n:Nat) | n (n:Nat) | N (m:Nat) | f (n:Nat) (k:List Nat) | F (m:Nat) (k:List Nat) | p (n:Nat) (k:List Nat) | P (m:Nat) (k:List Nat)
 | c (a:List I_) | b (s:Nat) (a:List I_) | v (s:Nat) | u (s:Nat)
 | C0 (k:List Nat) (a:List I_) | C1 (t:Ty_) (s:Nat) (k:List Nat) (a:List I_) | C2 (t:Ty_) (s:Nat) (t2:Ty_) (s2:Nat) (k:List Nat) (a:List I_)
 | O1 (t:Ty_) (s:Nat) (k:List Nat) | O2 (t:Ty_) (s:Nat) (t2:Ty_) (s2:Nat) (k:List Nat)
 | C (l:List (Ty_×Nat)) (k:List Nat) (a:List I_) | O (l:List (Ty_×Nat)) (k:List Nat)
 | M (o:List Nat) | Q (m:Nat) | D | T | K (n:Nat)
def mulZ (a z:Nat):Nat:=bif Nat.beq z 1 then a else a*z
theorem zue {a z:Nat}:mulZ a z=a*z:=by
 unfold mulZ;cases h:Nat.beq z 1 with
 | true=>rw [bH h,aW]; rfl
 | false=>rfl
def Scr (_:List I_) (p:Prop):Prop:=p
def updE (ks:List Nat) (us l:Env):Env:=ks.filterMap λs=>match zAb us s with
 | some v=>some (s,v)
 | none=>(zAb l s).map λv=>(s,v)
section
variable [Rnd]
section
variable {P:Program} {n:Nat} {c:Code} {l:Env} {w:World} {ops:Array Oper} {X:Exit->Act->World->Prop} {i:Nat} {ge:GEnv} {z a:List I_} {Q:Exit->Env->World->Prop}
theorem g_s (h:Scr z (WpE P n (Code.l c) (seqQ P n (Code.r c) Q) l w)) (hc:c= .seq (Code.l c) (Code.r c):=by kernel_rfl):Scr (.s::z) (WpE P n c Q l w):=Ys h hc
theorem g_t (h:Scr z (RegG P n (Code.ops (Code.l c)) (zO n (seqQ P n (Code.r c) Q)) 0 (toG l) w)) (hc:c= .seq (.region (Code.rid (Code.l c)) (Code.ops (Code.l c)) false) (Code.r c):=by kernel_rfl):Scr (.t::z) (WpE P n c Q l w):=Yt h hc
theorem g_r (h:Scr z (RegG P n (Code.ops c) (zO n Q) 0 (toG l) w)) (hc:c= .region (Code.rid c) (Code.ops c) false:=by kernel_rfl):Scr (.r::z) (WpE P n c Q l w):=Yr h hc
theorem g_k1 {y:Code} (h:Scr z (WpE P n y Q l w)) (hc:c= .skip:=by kernel_rfl):Scr (.k::z) (WpE P n c (seqQ P n y Q) l w):=Yk h hc
theorem g_k2 (h:Scr z (Q .normal l w)) (hc:c= .skip:=by kernel_rfl):Scr (.k::z) (WpE P n c Q l w):=zA h hc
theorem g_d {id:Nat} (h:Scr z (WpE P n (Code.l c) (zZc id Q) l w)) (hc:c= .block id (Code.l c):=by kernel_rfl):Scr (.d id::z) (WpE P n c Q l w):=Yd id h hc
theorem g_e {id:Nat} (h:Scr z (Q (.exit id) l w)) (hc:c= .exit id:=by kernel_rfl):Scr (.e id::z) (WpE P n c Q l w):=z4g id h hc
theorem g_n {m:Nat} (h:Scr z (RegG P n ops X (i+(Pl m).length) (stG P n ops (Pl m) i ge) w)) (hc:(zfb P n ops (Pl m) i ge).isSome=true:=by kernel_rfl):Scr (.n m::z) (RegG P n ops X i ge w):=Yn (Pl m) h hc
theorem g_N {m:Nat} (h:Scr z (RegG P n ops X (i+(Mo m).length) (stG P n ops (Mo m) i ge) w)) (hc:(zfb P n ops (Mo m) i ge).isSome=true:=by kernel_rfl):Scr (.N m::z) (RegG P n ops X i ge w):=Yn (Mo m) h hc
theorem g_f1 {y:Code} {m:Nat} {ks:List Nat} (h:Scr z (WpE P n y Q (enE ks (stG P n ops (Pl m) i ge)) w)) (hc:(Nat.beq ops.size (i+(Pl m).length)&&(zfb P n ops (Pl m) i ge).isSome)=true:=by kernel_rfl):Scr (.f m ks::z) (RegG P n ops (zO n (seqQ P n y Q)) i ge w):=Yg (Pl m) ks h hc
theorem g_f2 {m:Nat} {ks:List Nat} (h:Scr z (Q .normal (enE ks (stG P n ops (Pl m) i ge)) w)) (hc:(Nat.beq ops.size (i+(Pl m).length)&&(zfb P n ops (Pl m) i ge).isSome)=true:=by kernel_rfl):Scr (.f m ks::z) (RegG P n ops (zO n Q) i ge w):=Yf (Pl m) ks h hc
theorem g_F1 {y:Code} {m:Nat} {ks:List Nat} (h:Scr z (WpE P n y Q (enE ks (stG P n ops (Mo m) i ge)) w)) (hc:(Nat.beq ops.size (i+(Mo m).length)&&(zfb P n ops (Mo m) i ge).isSome)=true:=by kernel_rfl):Scr (.F m ks::z) (RegG P n ops (zO n (seqQ P n y Q)) i ge w):=Yg (Mo m) ks h hc
theorem g_F2 {m:Nat} {ks:List Nat} (h:Scr z (Q .normal (enE ks (stG P n ops (Mo m) i ge)) w)) (hc:(Nat.beq ops.size (i+(Mo m).length)&&(zfb P n ops (Mo m) i ge).isSome)=true:=by kernel_rfl):Scr (.F m ks::z) (RegG P n ops (zO n Q) i ge w):=Yf (Mo m) ks h hc
theorem g_p {m:Nat} {ks:List Nat} (h:Scr z (WpE P n (Code.r c) Q (enE ks (stG P n (Code.ops (Code.l c)) (Pl m) 0 (toG l))) w)) (hc:c= .seq (.region (Code.rid (Code.l c)) (Code.ops (Code.l c)) false) (Code.r c):=by kernel_rfl)
    (hi:(Nat.beq (Code.ops (Code.l c)).size (0+(Pl m).length)&&(zfb P n (Code.ops (Code.l c)) (Pl m) 0 (toG l)).isSome)=true:=by kernel_rfl):Scr (.p m ks::z) (WpE P n c Q l w):=Yp (Pl m) ks h hc hi
theorem g_P {m:Nat} {ks:List Nat} (h:Scr z (WpE P n (Code.r c) Q (enE ks (stG P n (Code.ops (Code.l c)) (Mo m) 0 (toG l))) w)) (hc:c= .seq (.region (Code.rid (Code.l c)) (Code.ops (Code.l c)) false) (Code.r c):=by kernel_rfl)
    (hi:(Nat.beq (Code.ops (Code.l c)).size (0+(Mo m).length)&&(zfb P n (Code.ops (Code.l c)) (Mo m) 0 (toG l)).isSome)=true:=by kernel_rfl):Scr (.P m ks::z) (WpE P n c Q l w):=Yp (Mo m) ks h hc hi
theorem g_c {b:Bool} {A B:Prop} (h:(b=true->A)/\(b=false->B)) (ht:A->Scr a (WpE P n (Code.l c) Q l w)) (hf:B->Scr z (WpE P n (Code.r c) Q l w)) (hc:c= .cond (Code.cnd c) (Code.l c) (Code.r c):=by kernel_rfl)
    (hb:zuj l (Code.cnd c)=some (.bool b):=by kernel_rfl):Scr (.c a::z) (WpE P n c Q l w):=Yc h ht hf hc hb
theorem g_b {b:Bool} {A B:Prop} {s:Nat} (h:(b=true->A)/\(b=false->B)) (ht:A->Scr a (RegG P n ops X i (resolve s true ge) w)) (hf:B->Scr z (RegG P n ops X i (resolve s false ge) w))
    (hs:zU ge s=some ([],.bool b):=by kernel_rfl):Scr (.b s a::z) (RegG P n ops X i ge w):=Yspl s h ht hf hs
theorem g_v {p:Option Addr} {G:Prop} {s:Nat} (h:IsAt p/\G) (k:IsAt p->G->Scr z (RegG P n ops X i ((s,gdOf ge s,.pointer (pa_ p))::ge) w)) (hg:zU ge s=some (gdOf ge s,.pointer p):=by kernel_rfl):Scr (.v s::z) (RegG P n ops X i ge w):=Yv s h k hg
theorem g_l {α:Type} {b o:Nat} {f:α->Value} {G:α->Prop} (h:∃ v,w.cell? ⟨b,o,none⟩=some (f v)/\G v) (k:∀ v,G v->Scr z (RegG P n ops X (i+1) (putG (zC n ops ge i) (f v) ge) w))
    (ho:(opAt n ops ge i).bind (λy=>ld1 P ge y.1)=some (.pointer (some ⟨b,o,none⟩),true):=by kernel_rfl):Scr (.l::z) (RegG P n ops X i ge w):=Yl h k ho
theorem g_L {α:Type} {b o:Nat} {f:α->List Value} {G:α->Prop} (h:∃ v,zf w b o (f v)/\G v) (k:∀ v,G v->Scr z (RegG P n ops X (i+1) (putG (zC n ops ge i) (.agg (f v).toArray) ge) w))
    (hz:∀ v,(f v).length=ldZ P n ops ge i:=by intro v; kernel_rfl) (ho:(opAt n ops ge i).bind (λy=>ldN P ge y.1)=some (.pointer (some ⟨b,o,none⟩),true,some (ldZ P n ops ge i)):=by kernel_rfl):Scr (.L::z) (RegG P n ops X i ge w):=YL h k hz ho
theorem g_o {b o z0:Nat} {vs:List Value} {G:World->Prop} (h:zr w b o z0/\∀ w',w'=World.puts b o vs w->G w') (k:∀ w',G w'->Scr z (RegG P n ops X (i+1) (putG (zC n ops ge i) undef ge) w'))
    (hz:(Nat.beq vs.length z0&&zv vs)=true:=by kernel_rfl) (ho:(opAt n ops ge i).bind (λy=>stO P ge y.1)=some (.pointer (some ⟨b,o,none⟩),vs.toArray,some z0):=by kernel_rfl):Scr (.o::z) (RegG P n ops X i ge w):=Yo h k hz ho
theorem g_w {f:Nat->Value} {o:Obj} {G:Nat->World->Prop} (t_:I_) (h:∀ b w',b=w.heap.size->w'=w.alloc o->G b w') (k:∀ b w',G b w'->Scr z (RegG P n ops X (i+1) (putG (zC n ops ge i) (f b) ge) w'))
    (hr:(opAt n ops ge i).map (λx=>(ex x.1 x.2.1 (rho ge)).run P w)=some (.ok (.value (f w.heap.size)) { w with heap:=w.heap.push o }):=by kernel_rfl):Scr (t_::z) (RegG P n ops X i ge w):=Yw f h k hr
theorem g_i {p:Option Addr} {j:Int} {ln:Nat} {G:Prop} (h:IsAt p/\0<=j/\j<((ln:Nat):Int)/\G) (k:IsAt p->G->Scr z (RegG P n ops X (i+1) (putG (zC n ops ge i) (.pointer (some ⟨pblk p,poff p+mulZ j.toNat (ixZ P n ops ge i),none⟩)) ge) w))
    (ho:(opAt n ops ge i).bind (λy=>ixA P ge y.1)=some (.slice p ln (vC (ixX P n ops ge i)),.int .i64 j,some (some (ixZ P n ops ge i))):=by kernel_rfl):Scr (.i::z) (RegG P n ops X i ge w):=by
 obtain⟨op,ty,d,h1,h2,h3⟩:=zu ho;obtain⟨t,e,a,b,rfl,h4,h5,h6,h7⟩:=zQc h2;obtain⟨hp,h0,hl,hg⟩:=h;have k:=k hp hg;rw [h3,zue] at k;have hp':p=some ⟨pblk p,poff p,none⟩:=hp;rw [hp'] at h4;exact zid h1 h4 h5 h6 h7 h0 hl k
theorem g_j {p:Option Addr} {j:Int} {ln:Nat} {G:Prop} (hp:IsAt p) (h:0<=j/\j<((ln:Nat):Int)/\G) (k:G->Scr z (RegG P n ops X (i+1) (putG (zC n ops ge i) (.pointer (some ⟨pblk p,poff p+mulZ j.toNat (ixZ P n ops ge i),none⟩)) ge) w))
    (ho:(opAt n ops ge i).bind (λy=>ixA P ge y.1)=some (.slice p ln (vC (ixX P n ops ge i)),.int .i64 j,some (some (ixZ P n ops ge i))):=by kernel_rfl):Scr (.j::z) (RegG P n ops X i ge w) :=
 g_i (z:=z) ⟨hp,h⟩ (λ_=>k) ho
def cut0 (ks:List Nat) (l0:Env) (F:World->Prop) (Q:Exit->Env->World->Prop):Exit->Env->World->Prop
 | .normal,l,w=>Sub l (updE ks [] l0)/\F w
 | e,l,w=>Q e l w
def cut1 (t:Ty_) (s:Nat) (ks:List Nat) (l0:Env) (F:t.T->World->Prop) (Q:Exit->Env->World->Prop):Exit->Env->World->Prop
 | .normal,l,w=>∃ x,Sub l (updE ks [(s,t.v x)] l0)/\F x w
 | e,l,w=>Q e l w
def cut2 (t:Ty_) (s:Nat) (t2:Ty_) (s2:Nat) (ks:List Nat) (l0:Env) (F:t.T->t2.T->World->Prop) (Q:Exit->Env->World->Prop):Exit->Env->World->Prop
 | .normal,l,w=>∃ x y,Sub l (updE ks [(s,t.v x),(s2,t2.v y)] l0)/\F x y w
 | e,l,w=>Q e l w
theorem zRf {K:Exit->Env->World->Prop} (hc:c= .seq (Code.l c) (Code.r c)) (J:Env->World->Prop) (hK:∀ e l w,K e l w->cutQ (λl w=>∃ l',Sub l l'/\J l' w) Q e l w) (h:WpE P n (Code.l c) K l w) (hy:∀ l w,J l w->WpE P n (Code.r c) Q l w):WpE P n c Q l w :=
 Ycut J (zhd hK h) hy hc
theorem g_C0 {ks:List Nat} {F:World->Prop} (h:Scr a (WpE P n (Code.l c) (cut0 ks l F Q) l w)) (k:∀ w,F w->Scr z (WpE P n (Code.r c) Q (updE ks [] l) w)) (hc:c= .seq (Code.l c) (Code.r c):=by kernel_rfl):Scr (.C0 ks a::z) (WpE P n c Q l w) :=
 zRf hc (λl' w=>l'=updE ks [] l/\F w) (λe l' w h=>by
  cases e with
  | normal=>exact⟨_,h.1,rfl,h.2⟩
  | _=>exact h) h λl' w ⟨e,h⟩=>e ▸ k w h
theorem g_C1 {t:Ty_} {s:Nat} {ks:List Nat} {F:t.T->World->Prop} (h:Scr a (WpE P n (Code.l c) (cut1 t s ks l F Q) l w)) (k:∀ x w,F x w->Scr z (WpE P n (Code.r c) Q (updE ks [(s,t.v x)] l) w)) (hc:c= .seq (Code.l c) (Code.r c):=by kernel_rfl):Scr (.C1 t s ks a::z) (WpE P n c Q l w) :=
 zRf hc (λl' w=>∃ x,l'=updE ks [(s,t.v x)] l/\F x w) (λe l' w h=>by
  cases e with
  | normal=>obtain⟨x,h1,h2⟩:=h; exact⟨_,h1,x,rfl,h2⟩
  | _=>exact h) h λl' w ⟨x,e,h⟩=>e ▸ k x w h
theorem g_C2 {t t2:Ty_} {s s2:Nat} {ks:List Nat} {F:t.T->t2.T->World->Prop} (h:Scr a (WpE P n (Code.l c) (cut2 t s t2 s2 ks l F Q) l w)) (k:∀ x y w,F x y w->Scr z (WpE P n (Code.r c) Q (updE ks [(s,t.v x),(s2,t2.v y)] l) w)) (hc:c= .seq (Code.l c) (Code.r c):=by kernel_rfl):Scr (.C2 t s t2 s2 ks a::z) (WpE P n c Q l w) :=
 zRf hc (λl' w=>∃ x y,l'=updE ks [(s,t.v x),(s2,t2.v y)] l/\F x y w) (λe l' w h=>by
  cases e with
  | normal=>obtain⟨x,y,h1,h2⟩:=h; exact⟨_,h1,x,y,rfl,h2⟩
  | _=>exact h) h λl' w ⟨x,y,e,h⟩=>e ▸ k x y w h
theorem g_x0 {ks:List Nat} {l0:Env} {F:World->Prop} (h:F w) (hs:(updE ks [] l0).map (λp=>zAb l p.1)=(updE ks [] l0).map (λp=>some p.2):=by kernel_rfl):Scr [.x] (Sub l (updE ks [] l0)/\F w):=⟨hs,h⟩
theorem g_x1 {t:Ty_} {s:Nat} {ks:List Nat} {l0:Env} {F:t.T->World->Prop} {x:t.T} (h:F x w) (hs:(updE ks [(s,t.v x)] l0).map (λp=>zAb l p.1)=(updE ks [(s,t.v x)] l0).map (λp=>some p.2):=by kernel_rfl):Scr [.x] (∃ x,Sub l (updE ks [(s,t.v x)] l0)/\F x w):=⟨x,hs,h⟩
theorem g_x2 {t t2:Ty_} {s s2:Nat} {ks:List Nat} {l0:Env} {F:t.T->t2.T->World->Prop} {x:t.T} {y:t2.T} (h:F x y w) (hs:(updE ks [(s,t.v x),(s2,t2.v y)] l0).map (λp=>zAb l p.1)=(updE ks [(s,t.v x),(s2,t2.v y)] l0).map (λp=>some p.2):=by kernel_rfl):Scr [.x] (∃ x y,Sub l (updE ks [(s,t.v x),(s2,t2.v y)] l0)/\F x y w):=⟨x,y,hs,h⟩
theorem g_O1 {t:Ty_} {s:Nat} {ks:List Nat} {F:(t.T->World->Prop)->t.T->World->Prop} {x0:t.T} (h:∃(I:t.T->World->Prop) (μ:t.T->World->Nat),I x0 w/\∀ x w,I x w->F (λx' w'=>I x' w'/\μ x' w'<μ x w) x w)
    (k:∀(ag:t.T->World->Prop) x w,F ag x w->Scr z (WpE P n (Code.l c) (cut1 t s ks l ag Q) (updE ks [(s,t.v x)] l) w)) (hc:c= .loop (Code.l c):=by kernel_rfl)
    (hs:(updE ks [(s,t.v x0)] l).map (λp=>zAb l p.1)=(updE ks [(s,t.v x0)] l).map (λp=>some p.2):=by kernel_rfl):Scr (.O1 t s ks::z) (WpE P n c Q l w):=by
 obtain⟨I,μ,h0,hr⟩:=h;refine zqd (λm l' w=>∃ x,l'=updE ks [(s,t.v x)] l/\I x w/\μ x w=m) ⟨x0,rfl,h0,rfl⟩ ?_ hc hs;rintro _ _ w1 ⟨x,rfl,hI,rfl⟩;refine zhd (λe l' w' h=> ?_) (k _ x w1 (hr x w1 hI));cases e with
 | normal=>obtain⟨x',h1,h2,h3⟩:=h; exact⟨_,h3,_,h1,x',rfl,h2,rfl⟩
 | _=>exact h
theorem g_O2 {t t2:Ty_} {s s2:Nat} {ks:List Nat} {F:(t.T->t2.T->World->Prop)->t.T->t2.T->World->Prop} {x0:t.T} {y0:t2.T} (h:∃(I:t.T->t2.T->World->Prop) (μ:t.T->t2.T->World->Nat),I x0 y0 w/\∀ x y w,I x y w->F (λx' y' w'=>I x' y' w'/\μ x' y' w'<μ x y w) x y w)
    (k:∀(ag:t.T->t2.T->World->Prop) x y w,F ag x y w->Scr z (WpE P n (Code.l c) (cut2 t s t2 s2 ks l ag Q) (updE ks [(s,t.v x),(s2,t2.v y)] l) w)) (hc:c= .loop (Code.l c):=by kernel_rfl)
    (hs:(updE ks [(s,t.v x0),(s2,t2.v y0)] l).map (λp=>zAb l p.1)=(updE ks [(s,t.v x0),(s2,t2.v y0)] l).map (λp=>some p.2):=by kernel_rfl):Scr (.O2 t s t2 s2 ks::z) (WpE P n c Q l w):=by
 obtain⟨I,μ,h0,hr⟩:=h;refine zqd (λm l' w=>∃ x y,l'=updE ks [(s,t.v x),(s2,t2.v y)] l/\I x y w/\μ x y w=m) ⟨x0,y0,rfl,h0,rfl⟩ ?_ hc hs;rintro _ _ w1 ⟨x,y,rfl,hI,rfl⟩;refine zhd (λe l' w' h=> ?_) (k _ x y w1 (hr x y w1 hI));cases e with
 | normal=>obtain⟨x',y',h1,h2,h3⟩:=h; exact⟨_,h3,_,h1,x',y',rfl,h2,rfl⟩
 | _=>exact h
instance {ks:List Nat} {l0:Env} {F:World->Prop} {Q0:Exit->Env->World->Prop} [k:RetOf Q Q0]:RetOf (cut0 ks l0 F Q) Q0:=⟨λl w h=>k.h l w h⟩
instance {t:Ty_} {s:Nat} {ks:List Nat} {l0:Env} {F:t.T->World->Prop} {Q0:Exit->Env->World->Prop} [k:RetOf Q Q0]:RetOf (cut1 t s ks l0 F Q) Q0:=⟨λl w h=>k.h l w h⟩
instance {t t2:Ty_} {s s2:Nat} {ks:List Nat} {l0:Env} {F:t.T->t2.T->World->Prop} {Q0:Exit->Env->World->Prop} [k:RetOf Q Q0]:RetOf (cut2 t s t2 s2 ks l0 F Q) Q0:=⟨λl w h=>k.h l w h⟩
def resV (P:Program) (l:Env):List ResultVar->List (List Value)->List Value
 | [],_=>[]
 | .tmp s::r,cs=>(zAb l s).getD undef::resV P l r cs
 | .cell a t::r,[]=>[]
 | .cell a t::r,cs::more=>(bif aggT P t then .agg cs.toArray else cs.headD undef)::resV P l r more
def resP (l:Env):List ResultVar->List Value
 | []=>[]
 | .tmp _::r=>resP l r
 | .cell a _::r=>(zAb l a).getD undef::resP l r
def resB (P:Program) (l:Env):List ResultVar->List (List Value)->Bool
 | [],[]=>true
 | .tmp s::r,cs=>(zAb l s).isSome&&resB P l r cs
 | .cell a t::r,cs::more=>(zAb l a).isSome&&(match zB P t with | some k=>Nat.beq k cs.length | none=>false)&&(aggT P t||(zVb P t&&Nat.beq cs.length 1))&&resB P l r more
 | _,_=>false
theorem zSf {l:Env} {w:World}:∀(rs:List ResultVar) (cells:List (Nat×Nat×List Value)),resB P l rs (cells.map (·.2.2))=true->resP l rs=cells.map (λc=> .pointer (some ⟨c.1,c.2.1,none⟩))->(∀ c∈cells,zf w c.1 c.2.1 c.2.2)->zzf P l w rs (resV P l rs (cells.map (·.2.2)))
 | [],cells,hB,_,_=>by
  cases cells with
  | nil=>trivial
  | cons c r=>cases hB
 | .tmp s::r,cells,hB,hP,hC=>by
  simp only [resB,aD] at hB;obtain⟨v,hv⟩:=eJ.1 hB.1;refine⟨by rw [hv]; rfl,zSf r cells hB.2 hP hC⟩
 | .cell a t::r,[],hB,_,_=>by cases hB
 | .cell a t::r,(b,o,cs)::more,hB,hP,hC=>by
  simp only [resB,cG,aD] at hB;obtain⟨⟨⟨h1,h2⟩,h3⟩,h4⟩:=hB;simp only [resP,cG,List.cons.injEq] at hP;obtain⟨v,hv⟩:=eJ.1 h1;rw [hv] at hP;have hp:v= .pointer (some ⟨b,o,none⟩):=hP.1;cases hs:zB P t with
  | none=>rw [hs] at h2; cases h2
  | some k =>
   rw [hs] at h2;have hk:k=cs.length:=bH h2;refine⟨b,o,cs,by rw [hv,hp],hC _ (aI ..),by rw [hs,hk],?_,zSf r more h4 hP.2 λc hc=>hC c (aJ _ hc)⟩;cases ha:aggT P t with
   | true=>exact .inl ⟨rfl,rfl⟩
   | false =>
    rw [ha] at h3;simp only [gD,aD] at h3;refine .inr ⟨h3.1,?_⟩;have hl:=bH h3.2
    match cs,hl with
    | [v],_=>rfl
def tupV:List Value->Value
 | [v]=>v
 | vs=> .tuple vs.toArray
section
variable {fn:Func} {R:Value->World->Prop} [q:RetOf Q (retQ P fn R)]
theorem zSm {rs:List ResultVar} {vs:List Value} (h:zzf P l w rs vs) (hR:R (tupV vs) w) (hr:fn.results.toList=rs) (hc:c= .ret):WpE P n c Q l w:=by
 match vs,h,hR with
 | [v],h,hR=>exact YSg h hR hr hc
 | [],h,hR=>exact YTg h hR hr rfl hc
 | u::v::r,h,hR=>exact YTg h hR hr rfl hc
theorem g_y0 (hR:R (tupV (resV P l fn.results.toList [])) w) (hB:resB P l fn.results.toList []=true:=by kernel_rfl) (hP:resP l fn.results.toList=[]:=by kernel_rfl) (hc:c= .ret:=by kernel_rfl):Scr [.y] (WpE P n c Q l w) :=
 zSm (zSf fn.results.toList [] hB hP λc hc=>(by cases hc)) hR rfl hc
theorem g_y1 {α:Type} {b o:Nat} {g:α->List Value} {G:α->Prop} (h:∃ r,zf w b o (g r)/\G r) (k:∀ r,G r->R (tupV (resV P l fn.results.toList [g r])) w) (hB:∀ r,resB P l fn.results.toList [g r]=true:=by intro r; kernel_rfl) (hP:resP l fn.results.toList=[.pointer (some ⟨b,o,none⟩)]:=by kernel_rfl) (hc:c= .ret:=by kernel_rfl):Scr [.z] (WpE P n c Q l w):=by
 obtain⟨r,hr,h⟩:=h;exact zSm (zSf fn.results.toList [(b,o,g r)] (hB r) hP λc hc=>(by rw [bK.1 hc]; exact hr)) (k r h) rfl hc
end
def xv (P:Program) (ge:GEnv):Op->Option Value
 | .binOp .eql t x y _=>match rho ge x,rho ge y with
  | .pointer p,.pointer none=>bif zDe P t then some (.bool p.isNone) else none
  | .slice p _ _,.slice none 0 0=>bif z8d P t then some (.bool p.isNone) else none
  | .map p,.map none=>bif zBh P t then some (.bool p.isNone) else none
  | _,_=>none
 | .binOp .neq t x y _=>match rho ge x,rho ge y with
  | .pointer p,.pointer none=>bif zDe P t then some (.bool (!p.isNone)) else none
  | _,_=>none
 | _=>none
theorem zup {op:Op} {ty:TypeId} {v:Value} (h:xv P ge op=some v) (ww:World):(ex op ty (rho ge)).run P ww= .ok (.value v) ww:=by
 unfold xv at h;split at h
 ·split at h
  ·rename_i e1 e2
   cases ht:zDe P _ with
   | false=>rw [ht] at h; cases h
   | true=>rw [ht] at h; obtain rfl:=aE h; exact zeb e1 e2 ht ww
  ·rename_i e1 e2
   cases ht:z8d P _ with
   | false=>rw [ht] at h; cases h
   | true=>rw [ht] at h; obtain rfl:=aE h; exact zHf e1 e2 ht ww
  ·rename_i e1 e2
   cases ht:zBh P _ with
   | false=>rw [ht] at h; cases h
   | true=>rw [ht] at h; obtain rfl:=aE h; exact zQg e1 e2 ht ww
  ·cases h
 ·split at h
  ·rename_i e1 e2
   cases ht:zDe P _ with
   | false=>rw [ht] at h; cases h
   | true=>rw [ht] at h; obtain rfl:=aE h; exact z9d e1 e2 ht ww
  ·cases h
 ·cases h
def xvV (P:Program) (n:Nat) (ops:Array Oper) (ge:GEnv) (i:Nat):Value:=((opAt n ops ge i).bind (λy=>xv P ge y.1)).getD undef
theorem g_E (k:Scr z (RegG P n ops X (i+1) (putG (zC n ops ge i) (xvV P n ops ge i) ge) w)) (ho:((opAt n ops ge i).bind (λy=>xv P ge y.1)).isSome=true:=by kernel_rfl):Scr (.E::z) (RegG P n ops X i ge w):=by
 obtain⟨v,hv⟩:=eJ.1 ho;obtain⟨op,ty,d,h1,h2,h3⟩:=zu hv;unfold xvV at k;rw [hv,h3] at k;exact zT v h1 (λww=>zup h2 ww) k
def dvO (ge:GEnv):Op->Option (Bool×IntKind×IntKind×Int×Int)
 | .binOp .rem _ x y _=>match rho ge x,rho ge y with
  | .int k a,.int k' b=>some (true,k,k',a,b)
  | _,_=>none
 | .binOp .quo _ x y _=>match rho ge x,rho ge y with
  | .int k a,.int k' b=>some (false,k,k',a,b)
  | _,_=>none
 | _=>none
def dvV:Option (Bool×IntKind×IntKind×Int×Int)->Value
 | some (r,k,_,a,b)=>bif r then .int k (Int.tmod a b) else .int k (k.wrap (Int.tdiv a b))
 | none=>undef
def dvK:Option (Bool×IntKind×IntKind×Int×Int)->IntKind
 | some (_,k,_)=>k
 | none=> .i64
def dvR:Option (Bool×IntKind×IntKind×Int×Int)->Bool
 | some (r,_)=>r
 | none=>true
def dvA:Option (Bool×IntKind×IntKind×Int×Int)->Int
 | some (_,_,_,a,_)=>a
 | none=>0
def dvX (n:Nat) (ops:Array Oper) (ge:GEnv) (i:Nat):=(opAt n ops ge i).bind (λy=>dvO ge y.1)
theorem g_R {b:Int} {G:Prop} (h:b≠0/\G) (k:G->Scr z (RegG P n ops X (i+1) (putG (zC n ops ge i) (dvV (dvX n ops ge i)) ge) w)) (ho:dvX n ops ge i=some (dvR (dvX n ops ge i),dvK (dvX n ops ge i),dvK (dvX n ops ge i),dvA (dvX n ops ge i),b):=by kernel_rfl):Scr (.R::z) (RegG P n ops X i ge w):=by
 have k:=k h.2;generalize dvR (dvX n ops ge i)=r at ho;generalize dvK (dvX n ops ge i)=kk at ho;generalize dvA (dvX n ops ge i)=a at ho;rw [ho] at k;obtain⟨op,ty,d,h1,h2,h3⟩:=zu ho;rw [h3] at k;unfold dvO at h2;split at h2
 ·split at h2
  ·rename_i e1 e2
   simp only [aC,bI] at h2;obtain⟨rfl,rfl,e,rfl,rfl⟩:=h2;subst e;exact zT _ h1 (λww=>zNg e1 e2 h.1 ww) k
  ·cases h2
 ·split at h2
  ·rename_i e1 e2
   simp only [aC,bI] at h2;obtain⟨rfl,rfl,e,rfl,rfl⟩:=h2;subst e;exact zT _ h1 (λww=>zRm e1 e2 h.1 ww) k
  ·cases h2
 ·cases h2
def apO (P:Program) (ge:GEnv):Op->Option (Value×Value×Option (TypeId×Nat×Nat×List Value)×Bool)
 | .call c=>match c.callee,c.args.toList,c.argTypes.toList with
  | .builtin .append,[a,xo],[t,tx]=>match P.underlying t with
   | some (.slice e)=>match zB P e,zZb P e,zpd P e with
    | some sz,some by_,some zs=>some (rho ge a,rho ge xo,some (e,sz,by_,zs),Nat.ble 1 by_&&srcT P tx)
    | _,_,_=>none
   | _=>none
  | _,_,_=>none
 | _=>none
theorem zaj {op:Op} {v1 v2:Value} {e:TypeId} {sz by_:Nat} {zs:List Value} (h:apO P ge op=some (v1,v2,some (e,sz,by_,zs),true)) :
    ∃ a xo t tx,op= .call { callee:= .builtin .append,args:=#[a,xo],argTypes:=#[t,tx] }/\rho ge a=v1/\rho ge xo=v2/\P.underlying t=some (.slice e)/\zB P e=some sz/\zZb P e=some by_/\zpd P e=some zs/\Nat.ble 1 by_=true/\srcT P tx=true:=by
 unfold apO at h;split at h
 ·rename_i cl
  obtain⟨callee,args,argTypes⟩:=cl;split at h
  ·rename_i a xo t tx hc ha ht
   simp only at hc ha ht;split at h
   ·rename_i e' hu
    split at h
    ·rename_i hs hb hz
     simp only [aC,bI,aD] at h;obtain⟨h1,h2,⟨rfl,rfl,rfl,rfl⟩,h3,h4⟩:=h;refine⟨a,xo,t,tx,?_,h1,h2,hu,hs,hb,hz,h3,h4⟩;rw [hc,<-cQ (xs:=args),ha,<-cQ (xs:=argTypes),ht]
    ·cases h
   ·cases h
  ·cases h
 ·cases h
theorem g_A {e:TypeId} {s x:Slc} {sz by_ k0:Nat} {zs:List Value} {G:Slc->World->Prop} (h:∃ src,zj w x sz src/\zG sz by_ e zs s src k0 w G) (k:∀ r w',G r w'->Scr z (RegG P n ops X (i+1) (putG (zC n ops ge i) (.slice r.ptr r.len r.cap) ge) w'))
    (hk:k0=x.len:=by kernel_rfl) (ho:(opAt n ops ge i).bind (λy=>apO P ge y.1)=some (.slice s.ptr s.len s.cap,.slice x.ptr x.len x.cap,some (e,sz,by_,zs),true):=by kernel_rfl):Scr (.A::z) (RegG P n ops X i ge w):=by
 subst hk;obtain⟨op,ty,d,h1,h2,h3⟩:=zu ho;obtain⟨a,xo,t,tx,rfl,e1,e2,e3,e4,e5,e6,e7,e8⟩:=zaj h2;obtain⟨src,hs,h⟩:=h;rw [h3] at k;exact zkg src h1 e1 e2 e3 e4 e5 e6 e7 e8 hs (zG.mono h λr w' hg=>k r w' hg)
end
end
section
variable {P:Program} {n:Nat} {c:Code} {l:Env} {w:World} {ops:Array Oper} {i:Nat} {ge:GEnv} {z a:List I_}
section
variable {m:Nat} {C:World->Prop} {Q:Act->Prop}
theorem q_n {k:Nat} (h:Scr z (RegQ P n ops m C Q (i+(Pl k).length) (stG P n ops (Pl k) i ge) w)) (hc:(zfb P n ops (Pl k) i ge).isSome=true:=by kernel_rfl):Scr (.n k::z) (RegQ P n ops m C Q i ge w):=Qn (Pl k) h hc
theorem q_N {k:Nat} (h:Scr z (RegQ P n ops m C Q (i+(Mo k).length) (stG P n ops (Mo k) i ge) w)) (hc:(zfb P n ops (Mo k) i ge).isSome=true:=by kernel_rfl):Scr (.N k::z) (RegQ P n ops m C Q i ge w):=Qn (Mo k) h hc
theorem q_b {b:Bool} {A B:Prop} {s:Nat} (h:(b=true->A)/\(b=false->B)) (ht:A->Scr a (RegQ P n ops m C Q i (resolve s true ge) w)) (hf:B->Scr z (RegQ P n ops m C Q i (resolve s false ge) w)) (hs:zU ge s=some ([],.bool b):=by kernel_rfl):Scr (.b s a::z) (RegQ P n ops m C Q i ge w):=Qspl s h ht hf hs
theorem q_v {p:Option Addr} {G:Prop} {s:Nat} (h:IsAt p/\G) (k:IsAt p->G->Scr z (RegQ P n ops m C Q i ((s,gdOf ge s,.pointer (pa_ p))::ge) w)) (hg:zU ge s=some (gdOf ge s,.pointer p):=by kernel_rfl):Scr (.v s::z) (RegQ P n ops m C Q i ge w):=Qv s h k hg
theorem q_l {α:Type} {b o:Nat} {f:α->Value} {G:α->Prop} (h:∃ v,w.cell? ⟨b,o,none⟩=some (f v)/\G v) (k:∀ v,G v->Scr z (RegQ P n ops m C Q (i+1) (putG (zC n ops ge i) (f v) ge) w))
    (ho:(opAt n ops ge i).bind (λy=>ld1 P ge y.1)=some (.pointer (some ⟨b,o,none⟩),true):=by kernel_rfl):Scr (.l::z) (RegQ P n ops m C Q i ge w):=Ql h k ho
theorem q_L {α:Type} {b o:Nat} {f:α->List Value} {G:α->Prop} (h:∃ v,zf w b o (f v)/\G v) (k:∀ v,G v->Scr z (RegQ P n ops m C Q (i+1) (putG (zC n ops ge i) (.agg (f v).toArray) ge) w))
    (hz:∀ v,(f v).length=ldZ P n ops ge i:=by intro v; kernel_rfl) (ho:(opAt n ops ge i).bind (λy=>ldN P ge y.1)=some (.pointer (some ⟨b,o,none⟩),true,some (ldZ P n ops ge i)):=by kernel_rfl):Scr (.L::z) (RegQ P n ops m C Q i ge w):=QL h k hz ho
theorem q_i {p:Option Addr} {j:Int} {ln:Nat} {G:Prop} (h:IsAt p/\0<=j/\j<((ln:Nat):Int)/\G) (k:IsAt p->G->Scr z (RegQ P n ops m C Q (i+1) (putG (zC n ops ge i) (.pointer (some ⟨pblk p,poff p+mulZ j.toNat (ixZ P n ops ge i),none⟩)) ge) w))
    (ho:(opAt n ops ge i).bind (λy=>ixA P ge y.1)=some (.slice p ln (vC (ixX P n ops ge i)),.int .i64 j,some (some (ixZ P n ops ge i))):=by kernel_rfl):Scr (.i::z) (RegQ P n ops m C Q i ge w):=by
 obtain⟨op,ty,d,h1,h2,h3⟩:=zu ho;obtain⟨t,e,a,b,rfl,h4,h5,h6,h7⟩:=zQc h2;obtain⟨hp,h0,hl,hg⟩:=h;have k:=k hp hg;rw [h3,zue] at k;have hp':p=some ⟨pblk p,poff p,none⟩:=hp;rw [hp'] at h4;exact zIc h1 h4 h5 h6 h7 h0 hl k
theorem q_j {p:Option Addr} {j:Int} {ln:Nat} {G:Prop} (hp:IsAt p) (h:0<=j/\j<((ln:Nat):Int)/\G) (k:G->Scr z (RegQ P n ops m C Q (i+1) (putG (zC n ops ge i) (.pointer (some ⟨pblk p,poff p+mulZ j.toNat (ixZ P n ops ge i),none⟩)) ge) w))
    (ho:(opAt n ops ge i).bind (λy=>ixA P ge y.1)=some (.slice p ln (vC (ixX P n ops ge i)),.int .i64 j,some (some (ixZ P n ops ge i))):=by kernel_rfl):Scr (.j::z) (RegQ P n ops m C Q i ge w) :=
 q_i (z:=z) ⟨hp,h⟩ (λ_=>k) ho
end
theorem q_f {Q:Exit->Env->World->Prop} {G:World->Prop} {k:Nat} {ks:List Nat} (h:∀ w',Ext w w'->G w') (hk:∀ w',G w'->Scr z (Q .normal (enE ks (stG P n ops (Pl k) i ge)) w'))
    (hc:(Nat.beq ops.size (i+(Pl k).length)&&(zfb P n ops (Pl k) i ge).isSome)=true:=by kernel_rfl):Scr (.f k ks::z) (RegQ P n ops ops.size (Ext w) (λa=>∀ w',Ext w w'->zO n Q .normal a w') i ge w):=Qf (Pl k) ks h hk hc
theorem q_F {Q:Exit->Env->World->Prop} {G:World->Prop} {k:Nat} {ks:List Nat} (h:∀ w',Ext w w'->G w') (hk:∀ w',G w'->Scr z (Q .normal (enE ks (stG P n ops (Mo k) i ge)) w'))
    (hc:(Nat.beq ops.size (i+(Mo k).length)&&(zfb P n ops (Mo k) i ge).isSome)=true:=by kernel_rfl):Scr (.F k ks::z) (RegQ P n ops ops.size (Ext w) (λa=>∀ w',Ext w w'->zO n Q .normal a w') i ge w):=Qf (Mo k) ks h hk hc
theorem q_T {m:Nat} {Q:Exit->Env->World->Prop} (h:Scr z (RegG P n ops (zO n Q) i ge w)) (hi:i=m:=by kernel_rfl) :
    Scr (.T::z) (RegQ P n ops m (λw'=>w'=w) (λa=>wpOps P ops (zO n Q) (List.range' m (ops.size - m)) a w) i ge w):=zEb hi h
theorem g_D {Q:Exit->Env->World->Prop} (h:Scr z (RegQ P n (Code.ops c) (Code.ops c).size (Ext w) (λa=>∀ w',Ext w w'->zO n Q .normal a w') 0 (toG l) w)) (hc:c= .region (Code.rid c) (Code.ops c) true:=by kernel_rfl)
    (hm:P.follows .mixedOrders=true:=by kernel_rfl) (hB:Region.lexB .any (Code.ops c)=true:=by kernel_rfl):Scr (.D::z) (WpE P n c Q l w):=zZ hc hm hB h
theorem g_Q {m:Nat} {Q:Exit->Env->World->Prop} {G:World->Prop} (h:∀ w',(∃ k,w'=w.drewN k)->G w') (k:∀ w1,G w1->Scr z (RegQ P n (Code.ops c) m (λw'=>w'=w1) (λa=>wpOps P (Code.ops c) (zO n Q) (List.range' m ((Code.ops c).size - m)) a w1) 0 (toG l) w1)) (hc:c= .region (Code.rid c) (Code.ops c) true:=by kernel_rfl)
    (hm:P.follows .mixedOrders=true:=by kernel_rfl) (hB:Region.lexTailB .any (Code.ops c) m=true:=by kernel_rfl):Scr (.Q m::z) (WpE P n c Q l w):=zK hc m hm hB λw1 hw=>k w1 (h w1 hw)
def piO:List Nat->Array Oper->List Nat
 | [],ops=>List.range ops.size
 | o,_=>o
def z7g (ops:Array Oper) (e:Nat):Nat->List Nat->List Nat
 | 0,acc=>acc
 | p+1,acc=>bif zSc ops e p||acc.any (λq=>zSc ops q p) then z7g ops e p (acc++[p]) else z7g ops e p acc
def zNd (ops:Array Oper) (e:Nat):List Nat:=z7g ops e ops.size []
theorem g_M {o:List Nat} {Q:Exit->Env->World->Prop} {G:World->Prop} (h:∀ w',(∃ k,w'=w.drewN k)->G w') (k:∀ w',G w'->Scr z (RegM P n (Code.ops c) (zO n Q) (piO o (Code.ops c)) [] 0 (toG l) w')) (hc:c= .region (Code.rid c) (Code.ops c) true:=by kernel_rfl)
    (hm:P.follows .mixedOrders=true:=by kernel_rfl) (hB:mixB (Code.ops c)=true:=by kernel_rfl) (hO:zIf (Code.ops c) (piO o (Code.ops c))=true:=by kernel_rfl):Scr (.M o::z) (WpE P n c Q l w):=zx _ hc hm hB hO λw1 hw=>k w1 (h w1 hw)
section
variable {π:List Nat} {pd:Pds} {ps:Nat} {Q:Exit->Act->World->Prop}
theorem m_n {k:Nat} (h:Scr z (RegM P n ops Q π pd (ps+(Pl k).length) (stM P n ops π (Pl k) ps ge) w)) (hc:(zPc P n ops π (Pl k) ps ge).isSome=true:=by kernel_rfl):Scr (.n k::z) (RegM P n ops Q π pd ps ge w):=Mn (Pl k) h hc
theorem m_N {k:Nat} (h:Scr z (RegM P n ops Q π pd (ps+(Mo k).length) (stM P n ops π (Mo k) ps ge) w)) (hc:(zPc P n ops π (Mo k) ps ge).isSome=true:=by kernel_rfl):Scr (.N k::z) (RegM P n ops Q π pd ps ge w):=Mn (Mo k) h hc
theorem m_b {b:Bool} {A B:Prop} {s:Nat} (h:(b=true->A)/\(b=false->B)) (ht:A->Scr a (RegM P n ops Q π pd ps (resolve s true ge) w)) (hf:B->Scr z (RegM P n ops Q π pd ps (resolve s false ge) w)) (hs:zU ge s=some ([],.bool b):=by kernel_rfl):Scr (.b s a::z) (RegM P n ops Q π pd ps ge w):=Mspl s h ht hf hs
theorem m_v {p:Option Addr} {G:Prop} {s:Nat} (h:IsAt p/\G) (k:IsAt p->G->Scr z (RegM P n ops Q π pd ps ((s,gdOf ge s,.pointer (pa_ p))::ge) w)) (hg:zU ge s=some (gdOf ge s,.pointer p):=by kernel_rfl):Scr (.v s::z) (RegM P n ops Q π pd ps ge w):=Mv s h k hg
theorem m_l {α:Type} {b o:Nat} {f:α->Value} {G:α->Prop} (h:∃ v,w.cell? ⟨b,o,none⟩=some (f v)/\G v) (k:∀ v,G v->Scr z (RegM P n ops Q π ((π.getD ps 0,λw'=>w'.cell? ⟨b,o,none⟩=some (f v))::pd) (ps+1) (putG (zC n ops ge (π.getD ps 0)) (f v) ge) w))
    (hk:π[ps]? =some (π.getD ps 0):=by kernel_rfl) (ho:(opAt n ops ge (π.getD ps 0)).bind (λy=>ld1 P ge y.1)=some (.pointer (some ⟨b,o,none⟩),true):=by kernel_rfl):Scr (.l::z) (RegM P n ops Q π pd ps ge w):=Ml _ h (λv _=>k v) hk ho
theorem m_L {α:Type} {b o:Nat} {f:α->List Value} {G:α->Prop} (h:∃ v,zf w b o (f v)/\G v) (k:∀ v,G v->Scr z (RegM P n ops Q π ((π.getD ps 0,λw'=>zf w' b o (f v))::pd) (ps+1) (putG (zC n ops ge (π.getD ps 0)) (.agg (f v).toArray) ge) w))
    (hk:π[ps]? =some (π.getD ps 0):=by kernel_rfl) (hz:∀ v,(f v).length=ldZ P n ops ge (π.getD ps 0):=by intro v; kernel_rfl) (ho:(opAt n ops ge (π.getD ps 0)).bind (λy=>ldN P ge y.1)=some (.pointer (some ⟨b,o,none⟩),true,some (ldZ P n ops ge (π.getD ps 0))):=by kernel_rfl):Scr (.L::z) (RegM P n ops Q π pd ps ge w):=ML _ h (λv _=>k v) hk hz ho
theorem m_i {p:Option Addr} {j:Int} {ln:Nat} {G:Prop} (h:IsAt p/\0<=j/\j<((ln:Nat):Int)/\G) (k:IsAt p->G->Scr z (RegM P n ops Q π pd (ps+1) (putG (zC n ops ge (π.getD ps 0)) (.pointer (some ⟨pblk p,poff p+mulZ j.toNat (ixZ P n ops ge (π.getD ps 0)),none⟩)) ge) w))
    (hk:π[ps]? =some (π.getD ps 0):=by kernel_rfl) (ho:(opAt n ops ge (π.getD ps 0)).bind (λy=>ixA P ge y.1)=some (.slice p ln (vC (ixX P n ops ge (π.getD ps 0))),.int .i64 j,some (some (ixZ P n ops ge (π.getD ps 0)))):=by kernel_rfl):Scr (.i::z) (RegM P n ops Q π pd ps ge w):=by
 obtain⟨op,ty,d,h1,h2,h3⟩:=zu ho;obtain⟨t,e,a,b,rfl,h4,h5,h6,h7⟩:=zQc h2;obtain⟨hp,h0,hl,hg⟩:=h;have k:=k hp hg;rw [h3,zue] at k;have hp':p=some ⟨pblk p,poff p,none⟩:=hp;rw [hp'] at h4;exact zMc hk h1 h4 h5 h6 h7 h0 hl k
theorem m_j {p:Option Addr} {j:Int} {ln:Nat} {G:Prop} (hp:IsAt p) (h:0<=j/\j<((ln:Nat):Int)/\G) (k:G->Scr z (RegM P n ops Q π pd (ps+1) (putG (zC n ops ge (π.getD ps 0)) (.pointer (some ⟨pblk p,poff p+mulZ j.toNat (ixZ P n ops ge (π.getD ps 0)),none⟩)) ge) w))
    (hk:π[ps]? =some (π.getD ps 0):=by kernel_rfl) (ho:(opAt n ops ge (π.getD ps 0)).bind (λy=>ixA P ge y.1)=some (.slice p ln (vC (ixX P n ops ge (π.getD ps 0))),.int .i64 j,some (some (ixZ P n ops ge (π.getD ps 0)))):=by kernel_rfl):Scr (.j::z) (RegM P n ops Q π pd ps ge w) :=
 m_i (z:=z) ⟨hp,h⟩ (λ_=>k) hk ho
theorem m_o {b o z0:Nat} {vs:List Value} {G:World->Prop} (h:zr w b o z0/\∀ w',w'=World.puts b o vs w->G w') (k:∀ w',G w'->Scr z (zgb (zib (zNd ops (π.getD ps 0)) pd) w'/\RegM P n ops Q π (zib (zNd ops (π.getD ps 0)) pd) (ps+1) (putG (zC n ops ge (π.getD ps 0)) undef ge) w'))
    (hk:π[ps]? =some (π.getD ps 0):=by kernel_rfl) (hB:(zae ops (π.take ps) (π.getD ps 0)&&zzc ops (π.getD ps 0) [] (zNd ops (π.getD ps 0)))=true:=by kernel_rfl)
    (hz:(Nat.beq vs.length z0&&zv vs)=true:=by kernel_rfl) (ho:(opAt n ops ge (π.getD ps 0)).bind (λy=>stO P ge y.1)=some (.pointer (some ⟨b,o,none⟩),vs.toArray,some z0):=by kernel_rfl):Scr (.o::z) (RegM P n ops Q π pd ps ge w):=zyb _ _ _ h k hk hB rfl hz ho
theorem m_m {f:FuncId} {args:Array Value} {K:Ending->World->Prop} (h:Calls P f args w K) (k:∀ ev w',K ev w'->∃ v,ev= .returned v/\Scr z (zgb (zib (zNd ops (π.getD ps 0)) pd) w'/\RegM P n ops Q π (zib (zNd ops (π.getD ps 0)) pd) (ps+1) (putG (zC n ops ge (π.getD ps 0)) v ge) w'))
    (hk:π[ps]? =some (π.getD ps 0):=by kernel_rfl) (hB:(zae ops (π.take ps) (π.getD ps 0)&&zzc ops (π.getD ps 0) [] (zNd ops (π.getD ps 0)))=true:=by kernel_rfl)
    (hr:∀ ww,(opAt n ops ge (π.getD ps 0)).map (λx=>(ex x.1 x.2.1 (rho ge)).run P ww)=some (.ok (.enter f args) ww):=by intro ww; kernel_rfl):Scr (.m::z) (RegM P n ops Q π pd ps ge w):=by
 simp only [aD] at hB;cases ho:opAt n ops ge (π.getD ps 0) with
 | none=>have:=hr w; rw [ho] at this; cases this
 | some x =>
  obtain⟨op,ty,d⟩:=x;rw [zfc ho] at k;exact zF _ _ _ f args hk hB.1 hB.2 rfl ho (λww=>by have:=hr ww; rw [ho] at this; simpa only [bY,aC] using this) (Calls.mono h k)
theorem m_w {f:Nat->Value} {o:Obj} {G:Nat->World->Prop} (t_:I_) (h:∀ b w',b=w.heap.size->w'=w.alloc o->G b w') (k:∀ b w',G b w'->Scr z (zgb (zib (zNd ops (π.getD ps 0)) pd) w'/\RegM P n ops Q π (zib (zNd ops (π.getD ps 0)) pd) (ps+1) (putG (zC n ops ge (π.getD ps 0)) (f b) ge) w'))
    (hk:π[ps]? =some (π.getD ps 0):=by kernel_rfl) (hB:(zae ops (π.take ps) (π.getD ps 0)&&zzc ops (π.getD ps 0) [] (zNd ops (π.getD ps 0)))=true:=by kernel_rfl)
    (hr:(opAt n ops ge (π.getD ps 0)).map (λx=>(ex x.1 x.2.1 (rho ge)).run P w)=some (.ok (.value (f w.heap.size)) { w with heap:=w.heap.push o }):=by kernel_rfl):Scr (t_::z) (RegM P n ops Q π pd ps ge w):=by
 simp only [aD] at hB;cases ho:opAt n ops ge (π.getD ps 0) with
 | none=>rw [ho] at hr; cases hr
 | some x =>
  obtain⟨op,ty,d⟩:=x;rw [ho] at hr;simp only [bY,aC] at hr;rw [zfc ho] at k;exact zQb _ _ _ f o hk hB.1 hB.2 rfl ho hr λb w' hb hw=>k b w' (h b w' hb hw)
theorem m_A {e:TypeId} {s x:Slc} {sz by_ k0:Nat} {zs:List Value} {G:Slc->World->Prop} (h:∃ src,zj w x sz src/\zG sz by_ e zs s src k0 w G) (k:∀ r w',G r w'->Scr z (zgb (zib (zNd ops (π.getD ps 0)) pd) w'/\RegM P n ops Q π (zib (zNd ops (π.getD ps 0)) pd) (ps+1) (putG (zC n ops ge (π.getD ps 0)) (.slice r.ptr r.len r.cap) ge) w'))
    (hk0:k0=x.len:=by kernel_rfl) (hk:π[ps]? =some (π.getD ps 0):=by kernel_rfl) (hB:(zae ops (π.take ps) (π.getD ps 0)&&zzc ops (π.getD ps 0) [] (zNd ops (π.getD ps 0)))=true:=by kernel_rfl)
    (ho:(opAt n ops ge (π.getD ps 0)).bind (λy=>apO P ge y.1)=some (.slice s.ptr s.len s.cap,.slice x.ptr x.len x.cap,some (e,sz,by_,zs),true):=by kernel_rfl):Scr (.A::z) (RegM P n ops Q π pd ps ge w):=by
 subst hk0;simp only [aD] at hB;obtain⟨op,ty,d,h1,h2,h3⟩:=zu ho;obtain⟨a,xo,t,tx,rfl,e1,e2,e3,e4,e5,e6,e7,e8⟩:=zaj h2;obtain⟨src,hs,h⟩:=h;rw [h3] at k;exact zNc _ _ _ src hk hB.1 hB.2 rfl h1 e1 e2 e3 e4 e5 e6 e7 e8 hs (zG.mono h λr w' hg=>k r w' hg)
end
theorem m_f {Q:Exit->Env->World->Prop} {π:List Nat} {pd:Pds} {ps k:Nat} {ks:List Nat} (h:Scr z (Q .normal (enE ks (stM P n ops π (Pl k) ps ge)) w))
    (hc:(Nat.beq (ps+(Pl k).length) π.length&&((List.range ops.size).all λj=>π.contains j)&&(zPc P n ops π (Pl k) ps ge).isSome)=true:=by kernel_rfl):Scr (.f k ks::z) (RegM P n ops (zO n Q) π pd ps ge w):=Mf (Pl k) ks h hc
theorem m_F {Q:Exit->Env->World->Prop} {π:List Nat} {pd:Pds} {ps:Nat} {k:Nat} {ks:List Nat} (h:Scr z (Q .normal (enE ks (stM P n ops π (Mo k) ps ge)) w))
    (hc:(Nat.beq (ps+(Mo k).length) π.length&&((List.range ops.size).all λj=>π.contains j)&&(zPc P n ops π (Mo k) ps ge).isSome)=true:=by kernel_rfl):Scr (.F k ks::z) (RegM P n ops (zO n Q) π pd ps ge w):=Mf (Mo k) ks h hc
section
variable {L:Pds} {X A B C D E G:Prop}
theorem pd0 (h:G) (k:G->Scr z X) (e:zgb L w=True:=by kernel_rfl):Scr (.K 0::z) (zgb L w/\X):=⟨e ▸ trivial,k h⟩
theorem pd1 (h:A/\G) (k:G->Scr z X) (e:zgb L w=(A/\True):=by kernel_rfl):Scr (.K 1::z) (zgb L w/\X):=⟨e ▸ ⟨h.1,trivial⟩,k h.2⟩
theorem pd2 (h:A/\B/\G) (k:G->Scr z X) (e:zgb L w=(A/\B/\True):=by kernel_rfl):Scr (.K 2::z) (zgb L w/\X):=⟨e ▸ ⟨h.1,h.2.1,trivial⟩,k h.2.2⟩
theorem pd3 (h:A/\B/\C/\G) (k:G->Scr z X) (e:zgb L w=(A/\B/\C/\True):=by kernel_rfl):Scr (.K 3::z) (zgb L w/\X):=⟨e ▸ ⟨h.1,h.2.1,h.2.2.1,trivial⟩,k h.2.2.2⟩
theorem pd4 (h:A/\B/\C/\D/\G) (k:G->Scr z X) (e:zgb L w=(A/\B/\C/\D/\True):=by kernel_rfl):Scr (.K 4::z) (zgb L w/\X):=⟨e ▸ ⟨h.1,h.2.1,h.2.2.1,h.2.2.2.1,trivial⟩,k h.2.2.2.2⟩
end
end
section
variable [Rnd]
def vI:Value->Option Int
 | .int _ a=>some a
 | _=>none
theorem zTf {v:Value} {a:Int} (h:vI v=some a):∃ k,v= .int k a:=by
 cases v with
 | int k b=>exact⟨k,by rw [aE h]⟩
 | _=>cases h
section
variable {P:Program} {n:Nat} {w:World} {ops:Array Oper} {i:Nat} {ge:GEnv} {z a:List I_}
def szT (P:Program) (t:TypeId):Option Nat:=(ixT P t).bind (zB P)
theorem z8g {t:TypeId} {sz:Nat} (h:szT P t=some sz):∃ e,P.underlying t=some (.slice e)/\zB P e=some sz:=by
 unfold szT at h;cases he:ixT P t with
 | none=>rw [he] at h; cases h
 | some e=>rw [he] at h; exact⟨e,z8i he,h⟩
def slO (P:Program) (ge:GEnv):Op->Option (Value×Option Int×Option Int×Option Nat)
 | .slice t x (some lo) none none=>match rho ge x with
  | .slice p l c=>some (.slice p l c,vI (rho ge lo),some ((l:Nat):Int),szT P t)
  | _=>none
 | .slice t x (some lo) (some hi) none=>some (rho ge x,vI (rho ge lo),vI (rho ge hi),szT P t)
 | _=>none
theorem zMk {op:Op} {ty:TypeId} {s:Slc} {lo hi:Int} {sz:Nat} (h:slO P ge op=some (.slice s.ptr s.len s.cap,some lo,some hi,some sz)) (hc:0<=lo/\lo<=hi/\hi<=((s.cap:Nat):Int)/\((s.cap:Nat):Int)<=((s.cap:Nat):Int)) (ww:World) :
    (ex op ty (rho ge)).run P ww= .ok (.value (.slice (Slc.cut sz s lo hi s.cap).ptr (Slc.cut sz s lo hi s.cap).len (Slc.cut sz s lo hi s.cap).cap)) ww:=by
 unfold slO at h;split at h
 ·split at h
  ·rename_i e1
   simp only [aC,bI,Value.slice.injEq] at h;obtain⟨⟨rfl,rfl,rfl⟩,h2,rfl,h4⟩:=h;obtain⟨k,h2⟩:=zTf h2;obtain⟨e,h4,h5⟩:=z8g h4;exact z7d e1 h2 h4 h5 hc
  ·cases h
 ·simp only [aC,bI] at h;obtain⟨h1,h2,h3,h4⟩:=h;obtain⟨k,h2⟩:=zTf h2;obtain⟨k',h3⟩:=zTf h3;obtain⟨e,h4,h5⟩:=z8g h4;exact zjg h1 h2 h3 h4 h5 hc
 ·cases h
def arO (P:Program) (ge:GEnv):Op->Option (Value×Option Int×Option (Nat×Option Nat))
 | .indexAddr t x ix=>some (rho ge x,vI (rho ge ix),match P.underlying t with | some (.array l e)=>some (l,zB P e) | _=>none)
 | _=>none
theorem zNk {op:Op} {v:Value} {j:Int} {ln:Nat} (h:arO P ge op=some (v,some j,some (ln,some 1))):∃ t e x ix k,op= .indexAddr t x ix/\rho ge x=v/\rho ge ix= .int k j/\P.underlying t=some (.array ln e)/\zB P e=some 1:=by
 unfold arO at h;split at h
 ·simp only [aC,bI] at h;obtain⟨h1,h2,h3⟩:=h;obtain⟨k,h2⟩:=zTf h2;split at h3
  ·rename_i he
   simp only [aC,bI] at h3;obtain⟨rfl,h4⟩:=h3;exact⟨_,_,_,_,k,rfl,h1,h2,he,h4⟩
  ·cases h3
 ·cases h
def arB (n:Nat) (ops:Array Oper) (ge:GEnv) (i:Nat):Nat:=match opAt n ops ge i with
 | some (.indexAddr _ x _,_)=>(match rho ge x with | .pointer (some ⟨b,_,_⟩)=>b | _=>0)
 | _=>0
def arF (n:Nat) (ops:Array Oper) (ge:GEnv) (i:Nat):Nat:=match opAt n ops ge i with
 | some (.indexAddr _ x _,_)=>(match rho ge x with | .pointer (some ⟨_,o,_⟩)=>o | _=>0)
 | _=>0
def exV (P:Program) (n:Nat) (ops:Array Oper) (ge:GEnv) (i:Nat) (w:World):Value:=match (opAt n ops ge i).map (λx=>(ex x.1 x.2.1 (rho ge)).run P w) with
 | some (.ok (.value v) _)=>v
 | _=>undef
def shO (P:Program) (ge:GEnv):Op->Option (Value×Option Int×Option Nat)
 | .slice t x none (some hi) none=>some (rho ge x,vI (rho ge hi),szT P t)
 | _=>none
def shP (n:Nat) (ops:Array Oper) (ge:GEnv) (i:Nat):Option Addr×Nat×Nat:=match opAt n ops ge i with
 | some (.slice _ x _ _ _,_)=>(match rho ge x with | .slice p l c=>(p,l,c) | _=>(none,0,0))
 | _=>(none,0,0)
theorem zvp {op:Op} {v:Value} {j:Int} {sz:Nat} (h:shO P ge op=some (v,some j,some sz)):∃ t e x hi k,op= .slice t x none (some hi) none/\rho ge x=v/\rho ge hi= .int k j/\P.underlying t=some (.slice e)/\zB P e=some sz:=by
 unfold shO at h;split at h
 ·simp only [aC,bI] at h;obtain⟨h1,h2,h3⟩:=h;obtain⟨k,h2⟩:=zTf h2;obtain⟨e,h4,h5⟩:=z8g h3;exact⟨_,e,_,_,k,rfl,h1,h2,h4,h5⟩
 ·cases h
def ssO (ge:GEnv):Op->Option (Bool×IntKind×Int×Option Int)
 | .binOp .shl _ x y _=>match rho ge x with | .int k v=>some (true,k,v,vI (rho ge y)) | _=>none
 | .binOp .shr _ x y _=>match rho ge x with | .int k v=>some (false,k,v,vI (rho ge y)) | _=>none
 | _=>none
def ssB (ge:GEnv) (op:Op):Option Int:=(ssO ge op).bind (·.2.2.2)
def ssV (n:Nat) (ops:Array Oper) (ge:GEnv) (i:Nat):Value:=match (opAt n ops ge i).bind (λy=>ssO ge y.1) with
 | some (l,k,v,some b)=>bif l then .int k (k.wrap (v*2 ^ (min b.toNat k.bits))) else .int k (Int.fdiv v (2 ^ (min b.toNat k.bits)))
 | _=>undef
theorem zOk {op:Op} {ty:TypeId} {d:Option Nat} {b:Int} (h1:opAt n ops ge i=some (op,ty,d)) (h:ssB ge op=some b) (h0:0<=b) (ww:World):(ex op ty (rho ge)).run P ww= .ok (.value (ssV n ops ge i)) ww:=by
 unfold ssV;rw [h1];show _=Result.ok (Next.value (match ssO ge op with | some (l,k,v,some b)=>bif l then .int k (k.wrap (v*2 ^ (min b.toNat k.bits))) else .int k (Int.fdiv v (2 ^ (min b.toNat k.bits))) | _=>undef)) ww;unfold ssB ssO at h;unfold ssO;split at h
 ·split at h
  ·rename_i e1
   obtain⟨k',h2⟩:=zTf h;rw [h2];exact zPm e1 h2 rfl h0 ww
  ·cases h
 ·split at h
  ·rename_i e1
   obtain⟨k',h2⟩:=zTf h;rw [h2];exact zQm e1 h2 rfl h0 ww
  ·cases h
 ·cases h
def nfO (P:Program) (ge:GEnv):Op->Option (Bool×Value)
 | .binOp .eql t x (.const .nilFunc) _=>bif zCi P t then some (true,rho ge x) else none
 | .binOp .eql t x (.const .nilIface) _=>bif zyi P t then some (false,rho ge x) else none
 | _=>none
end
section
variable {P:Program} {n:Nat} {w:World} {ops:Array Oper} {X:Exit->Act->World->Prop} {i:Nat} {ge:GEnv} {z a:List I_}
theorem g_S {s:Slc} {sz cp:Nat} {lo hi:Int} {G:Slc->Prop} (h:(0<=lo/\lo<=hi/\hi<=((cp:Nat):Int)/\((cp:Nat):Int)<=((cp:Nat):Int))/\∀ r,r=Slc.cut sz s lo hi cp->G r) (k:∀ r,G r->Scr z (RegG P n ops X (i+1) (putG (zC n ops ge i) (.slice r.ptr r.len r.cap) ge) w))
    (hcp:cp=s.cap:=by kernel_rfl) (ho:(opAt n ops ge i).bind (λy=>slO P ge y.1)=some (.slice s.ptr s.len s.cap,some lo,some hi,some sz):=by kernel_rfl):Scr (.S::z) (RegG P n ops X i ge w):=by
 subst hcp;obtain⟨op,ty,d,h1,h2,h3⟩:=zu ho;have k:=k _ (h.2 _ rfl);rw [h3] at k;exact zT _ h1 (λww=>zMk h2 h.1 ww) k
theorem g_k {j:Int} {ln:Nat} {G:Prop} (h:0<=j/\j<((ln:Nat):Int)/\G) (k:G->Scr z (RegG P n ops X (i+1) (putG (zC n ops ge i) (.pointer (some ⟨vB (ixX P n ops ge i),vO (ixX P n ops ge i)+mulZ j.toNat (ixZ P n ops ge i),none⟩)) ge) w))
    (ho:(opAt n ops ge i).bind (λy=>ixA P ge y.1)=some (.slice (some ⟨vB (ixX P n ops ge i),vO (ixX P n ops ge i),none⟩) ln (vC (ixX P n ops ge i)),.int .i64 j,some (some (ixZ P n ops ge i))):=by kernel_rfl):Scr (.j::z) (RegG P n ops X i ge w):=by
 obtain⟨op,ty,d,h1,h2,h3⟩:=zu ho;obtain⟨t,e,a,b,rfl,h4,h5,h6,h7⟩:=zQc h2;have k:=k h.2.2;rw [h3,zue] at k;exact zid h1 h4 h5 h6 h7 h.1 h.2.1 k
theorem g_I {j:Int} {ln:Nat} {G:Prop} (h:0<=j/\j<((ln:Nat):Int)/\G) (k:G->Scr z (RegG P n ops X (i+1) (putG (zC n ops ge i) (.pointer (some ⟨arB n ops ge i,arF n ops ge i+j.toNat,none⟩)) ge) w))
    (ho:(opAt n ops ge i).bind (λy=>arO P ge y.1)=some (.pointer (some ⟨arB n ops ge i,arF n ops ge i,none⟩),some j,some (ln,some 1)):=by kernel_rfl):Scr (.I::z) (RegG P n ops X i ge w):=by
 obtain⟨op,ty,d,h1,h2,h3⟩:=zu ho;obtain⟨t,e,x,ix,kk,rfl,h4,h5,h6,h7⟩:=zNk h2;have k:=k h.2.2;rw [h3] at k;exact zmb h1 h4 h5 h6 h7 h.1 h.2.1 k
theorem g_H {j:Int} {c:Nat} {G:Prop} (h:0<=j/\j<=((c:Nat):Int)/\G) (k:G->Scr z (RegG P n ops X (i+1) (putG (zC n ops ge i) (.slice (shP n ops ge i).1 j.toNat c) ge) w))
    (ho:((opAt n ops ge i).bind (λy=>shO P ge y.1)).bind (λy=>y.2.2.map λ_=>(y.1,y.2.1))=some (.slice (shP n ops ge i).1 (shP n ops ge i).2.1 c,some j):=by kernel_rfl):Scr (.H::z) (RegG P n ops X i ge w):=by
 cases h1:opAt n ops ge i with
 | none=>rw [h1] at ho; cases ho
 | some y =>
  obtain⟨op,ty,d⟩:=y;have k:=k h.2.2;rw [zfc h1] at k;rw [h1] at ho;cases h2:shO P ge op with
  | none=>simp only [fF,h2] at ho; cases ho
  | some y =>
   obtain⟨v,j',o⟩:=y;simp only [fF,h2] at ho;cases o with
   | none=>cases ho
   | some sz =>
    simp only [bY,aC,bI] at ho;obtain⟨rfl,rfl⟩:=ho;obtain⟨t,e,x,hi,kk,rfl,h4,h5,h6,h7⟩:=zvp h2;exact zGc h1 h4 h5 h6 h7 h.1 h.2.1 k
theorem g_X (k:Scr z (RegG P n ops X (i+1) (putG (zC n ops ge i) (exV P n ops ge i w) ge) w)) (hr:∀ ww,(opAt n ops ge i).map (λx=>(ex x.1 x.2.1 (rho ge)).run P ww)=some (.ok (.value (exV P n ops ge i w)) ww):=by intro ww; kernel_rfl):Scr (.X::z) (RegG P n ops X i ge w):=by
 cases h1:opAt n ops ge i with
 | none=>have:=hr w; rw [h1] at this; cases this
 | some y =>
  obtain⟨op,ty,d⟩:=y;rw [zfc h1] at k;exact zT _ h1 (λww=>by have:=hr ww; rw [h1] at this; simpa only [bY,aC] using this) k
theorem g_h {b:Int} {G:Prop} (h:0<=b/\G) (k:G->Scr z (RegG P n ops X (i+1) (putG (zC n ops ge i) (ssV n ops ge i) ge) w)) (ho:(opAt n ops ge i).bind (λy=>ssB ge y.1)=some b:=by kernel_rfl):Scr (.h::z) (RegG P n ops X i ge w):=by
 obtain⟨op,ty,d,h1,h2,h3⟩:=zu ho;have k:=k h.2;rw [h3] at k;exact zT _ h1 (λww=>zOk h1 h2 h.1 ww) k
theorem g_g1 {p:Value} {G:Prop} (h:FnV p/\G) (k:G->Scr z (RegG P n ops X (i+1) (putG (zC n ops ge i) (.bool (zLd p)) ge) w)) (ho:(opAt n ops ge i).bind (λy=>nfO P ge y.1)=some (true,p):=by kernel_rfl):Scr (.g::z) (RegG P n ops X i ge w):=by
 obtain⟨op,ty,d,h1,h2,h3⟩:=zu ho;have k:=k h.2;rw [h3] at k;unfold nfO at h2;split at h2
 ·cases ht:zCi P _ with
  | false=>rw [ht] at h2; cases h2
  | true=>rw [ht] at h2; simp only [cond_true,aC,bI] at h2; exact zT _ h1 (λww=>zIe h2.2 h.1 ht ww) k
 ·cases ht:zyi P _ with
  | false=>rw [ht] at h2; cases h2
  | true=>rw [ht] at h2; simp at h2
 ·cases h2
theorem g_g2 {p:Value} {G:Prop} (h:IfV p/\G) (k:G->Scr z (RegG P n ops X (i+1) (putG (zC n ops ge i) (.bool (zWg p)) ge) w)) (ho:(opAt n ops ge i).bind (λy=>nfO P ge y.1)=some (false,p):=by kernel_rfl):Scr (.g::z) (RegG P n ops X i ge w):=by
 obtain⟨op,ty,d,h1,h2,h3⟩:=zu ho;have k:=k h.2;rw [h3] at k;unfold nfO at h2;split at h2
 ·cases ht:zCi P _ with
  | false=>rw [ht] at h2; cases h2
  | true=>rw [ht] at h2; simp at h2
 ·cases ht:zyi P _ with
  | false=>rw [ht] at h2; cases h2
  | true=>rw [ht] at h2; simp only [cond_true,aC,bI] at h2; exact zT _ h1 (λww=>zMh h2.2 h.1 ht ww) k
 ·cases h2
theorem g_J {p:Prop} (h:False):Scr z p:=h.elim
theorem g_W {l c:Nat} {o:Obj} {G:Nat->World->Prop} (h:∀ b w',b=w.heap.size->w'=w.alloc o->G b w') (k:∀ b w',G b w'->Scr z (RegG P n ops X (i+1) (putG (zC n ops ge i) (sl_ l c b) ge) w'))
    (hr:(opAt n ops ge i).map (λx=>(ex x.1 x.2.1 (rho ge)).run P w)=some (.ok (.value (sl_ l c w.heap.size)) { w with heap:=w.heap.push o }):=by kernel_rfl):Scr (.W l c::z) (RegG P n ops X i ge w):=g_w _ h k hr
def cvO (ge:GEnv):Op->Option (Value×Array Value)
 | .call c=>match c.callee with
  | .value fo=>some (rho ge fo,c.args.map (rho ge))
  | _=>none
 | _=>none
theorem zbj {op:Op} {fv:Value} {args:Array Value} (h:cvO ge op=some (fv,args)):∃ fo aa ts,op= .call { callee:= .value fo,args:=aa,argTypes:=ts }/\rho ge fo=fv/\aa.map (rho ge)=args:=by
 unfold cvO at h;split at h
 ·rename_i c
  obtain⟨callee,aa,ts⟩:=c;split at h
  ·rename_i fo he
   simp only at he;subst he;simp only [aC,bI] at h;exact⟨fo,aa,ts,rfl,h.1,h.2⟩
  ·cases h
 ·cases h
theorem g_Y {fv:Value} {args:Array Value} {K:Ending->World->Prop} (h:zw (P:=P) fv args w K) (k:∀ ev w',K ev w'->∃ v,ev= .returned v/\Scr z (RegG P n ops X (i+1) (putG (zC n ops ge i) v ge) w'))
    (ho:(opAt n ops ge i).bind (λy=>cvO ge y.1)=some (fv,args):=by kernel_rfl):Scr (.Y::z) (RegG P n ops X i ge w):=by
 obtain⟨op,ty,d,h1,h2,h3⟩:=zu ho;obtain⟨fo,aa,ts,rfl,h4,h5⟩:=zbj h2;rw [h3] at k;exact z8b args h1 h4 h5 (zw.mono h k)
end
section
variable {P:Program} {n:Nat} {w:World} {ops:Array Oper} {i m:Nat} {ge:GEnv} {z a:List I_} {C:World->Prop} {Q:Act->Prop}
theorem q_S {s:Slc} {sz cp:Nat} {lo hi:Int} {G:Slc->Prop} (h:(0<=lo/\lo<=hi/\hi<=((cp:Nat):Int)/\((cp:Nat):Int)<=((cp:Nat):Int))/\∀ r,r=Slc.cut sz s lo hi cp->G r) (k:∀ r,G r->Scr z (RegQ P n ops m C Q (i+1) (putG (zC n ops ge i) (.slice r.ptr r.len r.cap) ge) w))
    (hcp:cp=s.cap:=by kernel_rfl) (ho:(opAt n ops ge i).bind (λy=>slO P ge y.1)=some (.slice s.ptr s.len s.cap,some lo,some hi,some sz):=by kernel_rfl):Scr (.S::z) (RegQ P n ops m C Q i ge w):=by
 subst hcp;obtain⟨op,ty,d,h1,h2,h3⟩:=zu ho;have k:=k _ (h.2 _ rfl);rw [h3] at k;exact z5d _ h1 (λww=>zMk h2 h.1 ww) k
theorem q_k {j:Int} {ln:Nat} {G:Prop} (h:0<=j/\j<((ln:Nat):Int)/\G) (k:G->Scr z (RegQ P n ops m C Q (i+1) (putG (zC n ops ge i) (.pointer (some ⟨vB (ixX P n ops ge i),vO (ixX P n ops ge i)+mulZ j.toNat (ixZ P n ops ge i),none⟩)) ge) w))
    (ho:(opAt n ops ge i).bind (λy=>ixA P ge y.1)=some (.slice (some ⟨vB (ixX P n ops ge i),vO (ixX P n ops ge i),none⟩) ln (vC (ixX P n ops ge i)),.int .i64 j,some (some (ixZ P n ops ge i))):=by kernel_rfl):Scr (.j::z) (RegQ P n ops m C Q i ge w):=by
 obtain⟨op,ty,d,h1,h2,h3⟩:=zu ho;obtain⟨t,e,a,b,rfl,h4,h5,h6,h7⟩:=zQc h2;have k:=k h.2.2;rw [h3,zue] at k;exact zIc h1 h4 h5 h6 h7 h.1 h.2.1 k
theorem q_I {j:Int} {ln:Nat} {G:Prop} (h:0<=j/\j<((ln:Nat):Int)/\G) (k:G->Scr z (RegQ P n ops m C Q (i+1) (putG (zC n ops ge i) (.pointer (some ⟨arB n ops ge i,arF n ops ge i+j.toNat,none⟩)) ge) w))
    (ho:(opAt n ops ge i).bind (λy=>arO P ge y.1)=some (.pointer (some ⟨arB n ops ge i,arF n ops ge i,none⟩),some j,some (ln,some 1)):=by kernel_rfl):Scr (.I::z) (RegQ P n ops m C Q i ge w):=by
 obtain⟨op,ty,d,h1,h2,h3⟩:=zu ho;obtain⟨t,e,x,ix,kk,rfl,h4,h5,h6,h7⟩:=zNk h2;have k:=k h.2.2;rw [h3] at k;exact z2c h1 h4 h5 h6 h7 h.1 h.2.1 k
theorem q_h {b:Int} {G:Prop} (h:0<=b/\G) (k:G->Scr z (RegQ P n ops m C Q (i+1) (putG (zC n ops ge i) (ssV n ops ge i) ge) w)) (ho:(opAt n ops ge i).bind (λy=>ssB ge y.1)=some b:=by kernel_rfl):Scr (.h::z) (RegQ P n ops m C Q i ge w):=by
 obtain⟨op,ty,d,h1,h2,h3⟩:=zu ho;have k:=k h.2;rw [h3] at k;exact z5d _ h1 (λww=>zOk h1 h2 h.1 ww) k
end
section
variable {P:Program} {n:Nat} {w:World} {ops:Array Oper} {ps:Nat} {π:List Nat} {pd:Pds} {ge:GEnv} {z a:List I_} {Q:Exit->Act->World->Prop}
theorem m_k {j:Int} {ln:Nat} {G:Prop} (h:0<=j/\j<((ln:Nat):Int)/\G) (k:G->Scr z (RegM P n ops Q π pd (ps+1) (putG (zC n ops ge (π.getD ps 0)) (.pointer (some ⟨vB (ixX P n ops ge (π.getD ps 0)),vO (ixX P n ops ge (π.getD ps 0))+mulZ j.toNat (ixZ P n ops ge (π.getD ps 0)),none⟩)) ge) w))
    (hk:π[ps]? =some (π.getD ps 0):=by kernel_rfl) (ho:(opAt n ops ge (π.getD ps 0)).bind (λy=>ixA P ge y.1)=some (.slice (some ⟨vB (ixX P n ops ge (π.getD ps 0)),vO (ixX P n ops ge (π.getD ps 0)),none⟩) ln (vC (ixX P n ops ge (π.getD ps 0))),.int .i64 j,some (some (ixZ P n ops ge (π.getD ps 0)))):=by kernel_rfl):Scr (.j::z) (RegM P n ops Q π pd ps ge w):=by
 obtain⟨op,ty,d,h1,h2,h3⟩:=zu ho;obtain⟨t,e,a,b,rfl,h4,h5,h6,h7⟩:=zQc h2;have k:=k h.2.2;rw [h3,zue] at k;exact zMc hk h1 h4 h5 h6 h7 h.1 h.2.1 k
theorem m_I {j:Int} {ln:Nat} {G:Prop} (h:0<=j/\j<((ln:Nat):Int)/\G) (k:G->Scr z (RegM P n ops Q π pd (ps+1) (putG (zC n ops ge (π.getD ps 0)) (.pointer (some ⟨arB n ops ge (π.getD ps 0),arF n ops ge (π.getD ps 0)+j.toNat,none⟩)) ge) w))
    (hk:π[ps]? =some (π.getD ps 0):=by kernel_rfl) (ho:(opAt n ops ge (π.getD ps 0)).bind (λy=>arO P ge y.1)=some (.pointer (some ⟨arB n ops ge (π.getD ps 0),arF n ops ge (π.getD ps 0),none⟩),some j,some (ln,some 1)):=by kernel_rfl):Scr (.I::z) (RegM P n ops Q π pd ps ge w):=by
 obtain⟨op,ty,d,h1,h2,h3⟩:=zu ho;obtain⟨t,e,x,ix,kk,rfl,h4,h5,h6,h7⟩:=zNk h2;have k:=k h.2.2;rw [h3] at k;exact zec hk h1 h4 h5 h6 h7 h.1 h.2.1 k
theorem m_Y {fv:Value} {args:Array Value} {K:Ending->World->Prop} (h:zw (P:=P) fv args w K) (k:∀ ev w',K ev w'->∃ v,ev= .returned v/\Scr z (zgb (zib (zNd ops (π.getD ps 0)) pd) w'/\RegM P n ops Q π (zib (zNd ops (π.getD ps 0)) pd) (ps+1) (putG (zC n ops ge (π.getD ps 0)) v ge) w'))
    (hk:π[ps]? =some (π.getD ps 0):=by kernel_rfl) (hB:(zae ops (π.take ps) (π.getD ps 0)&&zzc ops (π.getD ps 0) [] (zNd ops (π.getD ps 0)))=true:=by kernel_rfl)
    (ho:(opAt n ops ge (π.getD ps 0)).bind (λy=>cvO ge y.1)=some (fv,args):=by kernel_rfl):Scr (.Y::z) (RegM P n ops Q π pd ps ge w):=by
 simp only [aD] at hB;obtain⟨op,ty,d,h1,h2,h3⟩:=zu ho;obtain⟨fo,aa,ts,rfl,h4,h5⟩:=zbj h2;rw [h3] at k;exact zAi _ _ _ args hk hB.1 hB.2 rfl h1 h4 h5 (zw.mono h k)
end
def cut3 (t1 t2 t3:Ty_) (s1 s2 s3:Nat) (ks:List Nat) (l0:Env) (F:t1.T->t2.T->t3.T->World->Prop) (Q:Exit->Env->World->Prop):Exit->Env->World->Prop
 | .normal,l,w=>∃ x1 x2 x3,Sub l (updE ks [(s1,t1.v x1),(s2,t2.v x2),(s3,t3.v x3)] l0)/\F x1 x2 x3 w
 | e,l,w=>Q e l w
section
variable {P:Program} {n:Nat} {c:Code} {l:Env} {w:World} {z a:List I_} {Q:Exit->Env->World->Prop} {t1 t2 t3:Ty_} {s1 s2 s3:Nat} {ks:List Nat}
theorem g_C3 {F:t1.T->t2.T->t3.T->World->Prop} (h:Scr a (WpE P n (Code.l c) (cut3 t1 t2 t3 s1 s2 s3 ks l F Q) l w)) (k:∀ x1 x2 x3 w,F x1 x2 x3 w->Scr z (WpE P n (Code.r c) Q (updE ks [(s1,t1.v x1),(s2,t2.v x2),(s3,t3.v x3)] l) w)) (hc:c= .seq (Code.l c) (Code.r c):=by kernel_rfl):Scr (.C [(t1,s1),(t2,s2),(t3,s3)] ks a::z) (WpE P n c Q l w) :=
 zRf hc (λl' w=>∃ x1 x2 x3,l'=updE ks [(s1,t1.v x1),(s2,t2.v x2),(s3,t3.v x3)] l/\F x1 x2 x3 w) (λe l' w h=>by
  cases e with
  | normal=>obtain⟨x1,x2,x3,h1,h2⟩:=h; exact⟨_,h1,x1,x2,x3,rfl,h2⟩
  | _=>exact h) h λl' w ⟨x1,x2,x3,e,h⟩=>e ▸ k x1 x2 x3 w h
theorem g_x3 {l0:Env} {F:t1.T->t2.T->t3.T->World->Prop} {x1:t1.T} {x2:t2.T} {x3:t3.T} (h:F x1 x2 x3 w) (hs:(updE ks [(s1,t1.v x1),(s2,t2.v x2),(s3,t3.v x3)] l0).map (λp=>zAb l p.1)=(updE ks [(s1,t1.v x1),(s2,t2.v x2),(s3,t3.v x3)] l0).map (λp=>some p.2):=by kernel_rfl):Scr [.x] (∃ x1 x2 x3,Sub l (updE ks [(s1,t1.v x1),(s2,t2.v x2),(s3,t3.v x3)] l0)/\F x1 x2 x3 w):=⟨x1,x2,x3,hs,h⟩
theorem zer {k:Nat} {l0:Env} {F:t1.T->t2.T->t3.T->World->Prop} (h:Scr z (Q (.exit k) l w)):Scr z (cut3 t1 t2 t3 s1 s2 s3 ks l0 F Q (.exit k) l w):=h
instance {l0:Env} {F:t1.T->t2.T->t3.T->World->Prop} {Q0:Exit->Env->World->Prop} [k:RetOf Q Q0]:RetOf (cut3 t1 t2 t3 s1 s2 s3 ks l0 F Q) Q0:=⟨λl w h=>k.h l w h⟩
end
def cut4 (t1 t2 t3 t4:Ty_) (s1 s2 s3 s4:Nat) (ks:List Nat) (l0:Env) (F:t1.T->t2.T->t3.T->t4.T->World->Prop) (Q:Exit->Env->World->Prop):Exit->Env->World->Prop
 | .normal,l,w=>∃ x1 x2 x3 x4,Sub l (updE ks [(s1,t1.v x1),(s2,t2.v x2),(s3,t3.v x3),(s4,t4.v x4)] l0)/\F x1 x2 x3 x4 w
 | e,l,w=>Q e l w
section
variable {P:Program} {n:Nat} {c:Code} {l:Env} {w:World} {z a:List I_} {Q:Exit->Env->World->Prop} {t1 t2 t3 t4:Ty_} {s1 s2 s3 s4:Nat} {ks:List Nat}
theorem g_C4 {F:t1.T->t2.T->t3.T->t4.T->World->Prop} (h:Scr a (WpE P n (Code.l c) (cut4 t1 t2 t3 t4 s1 s2 s3 s4 ks l F Q) l w)) (k:∀ x1 x2 x3 x4 w,F x1 x2 x3 x4 w->Scr z (WpE P n (Code.r c) Q (updE ks [(s1,t1.v x1),(s2,t2.v x2),(s3,t3.v x3),(s4,t4.v x4)] l) w)) (hc:c= .seq (Code.l c) (Code.r c):=by kernel_rfl):Scr (.C [(t1,s1),(t2,s2),(t3,s3),(t4,s4)] ks a::z) (WpE P n c Q l w) :=
 zRf hc (λl' w=>∃ x1 x2 x3 x4,l'=updE ks [(s1,t1.v x1),(s2,t2.v x2),(s3,t3.v x3),(s4,t4.v x4)] l/\F x1 x2 x3 x4 w) (λe l' w h=>by
  cases e with
  | normal=>obtain⟨x1,x2,x3,x4,h1,h2⟩:=h; exact⟨_,h1,x1,x2,x3,x4,rfl,h2⟩
  | _=>exact h) h λl' w ⟨x1,x2,x3,x4,e,h⟩=>e ▸ k x1 x2 x3 x4 w h
theorem g_x4 {l0:Env} {F:t1.T->t2.T->t3.T->t4.T->World->Prop} {x1:t1.T} {x2:t2.T} {x3:t3.T} {x4:t4.T} (h:F x1 x2 x3 x4 w) (hs:(updE ks [(s1,t1.v x1),(s2,t2.v x2),(s3,t3.v x3),(s4,t4.v x4)] l0).map (λp=>zAb l p.1)=(updE ks [(s1,t1.v x1),(s2,t2.v x2),(s3,t3.v x3),(s4,t4.v x4)] l0).map (λp=>some p.2):=by kernel_rfl):Scr [.x] (∃ x1 x2 x3 x4,Sub l (updE ks [(s1,t1.v x1),(s2,t2.v x2),(s3,t3.v x3),(s4,t4.v x4)] l0)/\F x1 x2 x3 x4 w):=⟨x1,x2,x3,x4,hs,h⟩
theorem g_O4 {F:(t1.T->t2.T->t3.T->t4.T->World->Prop)->t1.T->t2.T->t3.T->t4.T->World->Prop} {y1:t1.T} {y2:t2.T} {y3:t3.T} {y4:t4.T} (h:∃(I:t1.T->t2.T->t3.T->t4.T->World->Prop) (μ:t1.T->t2.T->t3.T->t4.T->World->Nat),I y1 y2 y3 y4 w/\∀ x1 x2 x3 x4 w,I x1 x2 x3 x4 w->F (λx1' x2' x3' x4' w'=>I x1' x2' x3' x4' w'/\μ x1' x2' x3' x4' w'<μ x1 x2 x3 x4 w) x1 x2 x3 x4 w)
    (k:∀(ag:t1.T->t2.T->t3.T->t4.T->World->Prop) x1 x2 x3 x4 w,F ag x1 x2 x3 x4 w->Scr z (WpE P n (Code.l c) (cut4 t1 t2 t3 t4 s1 s2 s3 s4 ks l ag Q) (updE ks [(s1,t1.v x1),(s2,t2.v x2),(s3,t3.v x3),(s4,t4.v x4)] l) w)) (hc:c= .loop (Code.l c):=by kernel_rfl)
    (hs:(updE ks [(s1,t1.v y1),(s2,t2.v y2),(s3,t3.v y3),(s4,t4.v y4)] l).map (λp=>zAb l p.1)=(updE ks [(s1,t1.v y1),(s2,t2.v y2),(s3,t3.v y3),(s4,t4.v y4)] l).map (λp=>some p.2):=by kernel_rfl):Scr (.O [(t1,s1),(t2,s2),(t3,s3),(t4,s4)] ks::z) (WpE P n c Q l w):=by
 obtain⟨I,μ,h0,hr⟩:=h;refine zqd (λm l' w=>∃ x1 x2 x3 x4,l'=updE ks [(s1,t1.v x1),(s2,t2.v x2),(s3,t3.v x3),(s4,t4.v x4)] l/\I x1 x2 x3 x4 w/\μ x1 x2 x3 x4 w=m) ⟨y1,y2,y3,y4,rfl,h0,rfl⟩ ?_ hc hs;rintro _ _ w1 ⟨x1,x2,x3,x4,rfl,hI,rfl⟩;refine zhd (λe l' w' h=> ?_) (k _ x1 x2 x3 x4 w1 (hr x1 x2 x3 x4 w1 hI));cases e with
 | normal=>obtain⟨x1',x2',x3',x4',h1,h2,h3⟩:=h; exact⟨_,h3,_,h1,x1',x2',x3',x4',rfl,h2,rfl⟩
 | _=>exact h
theorem zfr {k:Nat} {l0:Env} {F:t1.T->t2.T->t3.T->t4.T->World->Prop} (h:Scr z (Q (.exit k) l w)):Scr z (cut4 t1 t2 t3 t4 s1 s2 s3 s4 ks l0 F Q (.exit k) l w):=h
instance {l0:Env} {F:t1.T->t2.T->t3.T->t4.T->World->Prop} {Q0:Exit->Env->World->Prop} [k:RetOf Q Q0]:RetOf (cut4 t1 t2 t3 t4 s1 s2 s3 s4 ks l0 F Q) Q0:=⟨λl w h=>k.h l w h⟩
end
def cut5 (t1 t2 t3 t4 t5:Ty_) (s1 s2 s3 s4 s5:Nat) (ks:List Nat) (l0:Env) (F:t1.T->t2.T->t3.T->t4.T->t5.T->World->Prop) (Q:Exit->Env->World->Prop):Exit->Env->World->Prop
 | .normal,l,w=>∃ x1 x2 x3 x4 x5,Sub l (updE ks [(s1,t1.v x1),(s2,t2.v x2),(s3,t3.v x3),(s4,t4.v x4),(s5,t5.v x5)] l0)/\F x1 x2 x3 x4 x5 w
 | e,l,w=>Q e l w
section
variable {P:Program} {n:Nat} {c:Code} {l:Env} {w:World} {z a:List I_} {Q:Exit->Env->World->Prop} {t1 t2 t3 t4 t5:Ty_} {s1 s2 s3 s4 s5:Nat} {ks:List Nat}
theorem g_x5 {l0:Env} {F:t1.T->t2.T->t3.T->t4.T->t5.T->World->Prop} {x1:t1.T} {x2:t2.T} {x3:t3.T} {x4:t4.T} {x5:t5.T} (h:F x1 x2 x3 x4 x5 w) (hs:(updE ks [(s1,t1.v x1),(s2,t2.v x2),(s3,t3.v x3),(s4,t4.v x4),(s5,t5.v x5)] l0).map (λp=>zAb l p.1)=(updE ks [(s1,t1.v x1),(s2,t2.v x2),(s3,t3.v x3),(s4,t4.v x4),(s5,t5.v x5)] l0).map (λp=>some p.2):=by kernel_rfl):Scr [.x] (∃ x1 x2 x3 x4 x5,Sub l (updE ks [(s1,t1.v x1),(s2,t2.v x2),(s3,t3.v x3),(s4,t4.v x4),(s5,t5.v x5)] l0)/\F x1 x2 x3 x4 x5 w):=⟨x1,x2,x3,x4,x5,hs,h⟩
theorem g_O5 {F:(t1.T->t2.T->t3.T->t4.T->t5.T->World->Prop)->t1.T->t2.T->t3.T->t4.T->t5.T->World->Prop} {y1:t1.T} {y2:t2.T} {y3:t3.T} {y4:t4.T} {y5:t5.T} (h:∃(I:t1.T->t2.T->t3.T->t4.T->t5.T->World->Prop) (μ:t1.T->t2.T->t3.T->t4.T->t5.T->World->Nat),I y1 y2 y3 y4 y5 w/\∀ x1 x2 x3 x4 x5 w,I x1 x2 x3 x4 x5 w->F (λx1' x2' x3' x4' x5' w'=>I x1' x2' x3' x4' x5' w'/\μ x1' x2' x3' x4' x5' w'<μ x1 x2 x3 x4 x5 w) x1 x2 x3 x4 x5 w)
    (k:∀(ag:t1.T->t2.T->t3.T->t4.T->t5.T->World->Prop) x1 x2 x3 x4 x5 w,F ag x1 x2 x3 x4 x5 w->Scr z (WpE P n (Code.l c) (cut5 t1 t2 t3 t4 t5 s1 s2 s3 s4 s5 ks l ag Q) (updE ks [(s1,t1.v x1),(s2,t2.v x2),(s3,t3.v x3),(s4,t4.v x4),(s5,t5.v x5)] l) w)) (hc:c= .loop (Code.l c):=by kernel_rfl)
    (hs:(updE ks [(s1,t1.v y1),(s2,t2.v y2),(s3,t3.v y3),(s4,t4.v y4),(s5,t5.v y5)] l).map (λp=>zAb l p.1)=(updE ks [(s1,t1.v y1),(s2,t2.v y2),(s3,t3.v y3),(s4,t4.v y4),(s5,t5.v y5)] l).map (λp=>some p.2):=by kernel_rfl):Scr (.O [(t1,s1),(t2,s2),(t3,s3),(t4,s4),(t5,s5)] ks::z) (WpE P n c Q l w):=by
 obtain⟨I,μ,h0,hr⟩:=h;refine zqd (λm l' w=>∃ x1 x2 x3 x4 x5,l'=updE ks [(s1,t1.v x1),(s2,t2.v x2),(s3,t3.v x3),(s4,t4.v x4),(s5,t5.v x5)] l/\I x1 x2 x3 x4 x5 w/\μ x1 x2 x3 x4 x5 w=m) ⟨y1,y2,y3,y4,y5,rfl,h0,rfl⟩ ?_ hc hs;rintro _ _ w1 ⟨x1,x2,x3,x4,x5,rfl,hI,rfl⟩;refine zhd (λe l' w' h=> ?_) (k _ x1 x2 x3 x4 x5 w1 (hr x1 x2 x3 x4 x5 w1 hI));cases e with
 | normal=>obtain⟨x1',x2',x3',x4',x5',h1,h2,h3⟩:=h; exact⟨_,h3,_,h1,x1',x2',x3',x4',x5',rfl,h2,rfl⟩
 | _=>exact h
theorem zgr {k:Nat} {l0:Env} {F:t1.T->t2.T->t3.T->t4.T->t5.T->World->Prop} (h:Scr z (Q (.exit k) l w)):Scr z (cut5 t1 t2 t3 t4 t5 s1 s2 s3 s4 s5 ks l0 F Q (.exit k) l w):=h
instance {l0:Env} {F:t1.T->t2.T->t3.T->t4.T->t5.T->World->Prop} {Q0:Exit->Env->World->Prop} [k:RetOf Q Q0]:RetOf (cut5 t1 t2 t3 t4 t5 s1 s2 s3 s4 s5 ks l0 F Q) Q0:=⟨λl w h=>k.h l w h⟩
end
section
variable {P:Program} {n:Nat} {c:Code} {l:Env} {w:World} {z:List I_} {Q:Exit->Env->World->Prop} {k:Nat}
theorem g_r1 {y:Code} (h:Scr z (Q (.exit k) l w)):Scr z (seqQ P n y Q (.exit k) l w):=h
theorem g_r2 (h:Scr z (Q .normal l w)):Scr z (zZc k Q (.exit k) l w):=zeg h
theorem g_r3 {id:Nat} (h:Scr z (Q (.exit k) l w)) (he:Nat.beq k id=false:=by kernel_rfl):Scr z (zZc id Q (.exit k) l w):=zuf he h
theorem g_r4 (h:Scr z (Q .normal l w)):Scr z (zZc k Q .normal l w):=h
theorem g_r5 {ks:List Nat} {l0:Env} {F:World->Prop} (h:Scr z (Q (.exit k) l w)):Scr z (cut0 ks l0 F Q (.exit k) l w):=h
theorem g_r6 {t:Ty_} {s:Nat} {ks:List Nat} {l0:Env} {F:t.T->World->Prop} (h:Scr z (Q (.exit k) l w)):Scr z (cut1 t s ks l0 F Q (.exit k) l w):=h
theorem g_r7 {t t2:Ty_} {s s2:Nat} {ks:List Nat} {l0:Env} {F:t.T->t2.T->World->Prop} (h:Scr z (Q (.exit k) l w)):Scr z (cut2 t s t2 s2 ks l0 F Q (.exit k) l w):=h
theorem zdm {fn:Func} {R:Value->World->Prop} {rs:List ResultVar} {vs:List Value} (h:zzf P l w rs vs) (hR:R (tupV vs) w) (hr:fn.results.toList=rs):retQ P fn R .normal l w:=by
 match vs,h,hR with
 | [v],h,hR=>exact zHc (retS hr h hR)
 | [],h,hR=>exact zHc (retT hr h rfl hR)
 | u::v::r,h,hR=>exact zHc (retT hr h rfl hR)
theorem g_y3 {fn:Func} {R:Value->World->Prop} (hR:R (tupV (resV P l fn.results.toList [])) w) (hB:resB P l fn.results.toList []=true:=by kernel_rfl) (hP:resP l fn.results.toList=[]:=by kernel_rfl):Scr [.y] (retQ P fn R .normal l w) :=
 zdm (zSf fn.results.toList [] hB hP λc hc=>(by cases hc)) hR rfl
theorem g_y4 {fn:Func} {R:Value->World->Prop} {α:Type} {b o:Nat} {g:α->List Value} {G:α->Prop} (h:∃ r,zf w b o (g r)/\G r) (k:∀ r,G r->R (tupV (resV P l fn.results.toList [g r])) w) (hB:∀ r,resB P l fn.results.toList [g r]=true:=by intro r; kernel_rfl) (hP:resP l fn.results.toList=[.pointer (some ⟨b,o,none⟩)]:=by kernel_rfl):Scr [.z] (retQ P fn R .normal l w):=by
 obtain⟨r,hr,h⟩:=h;exact zdm (zSf fn.results.toList [(b,o,g r)] (hB r) hP λc hc=>(by rw [bK.1 hc]; exact hr)) (k r h) rfl
end
section
variable {P:Program} {n:Nat} {w:World} {ops:Array Oper} {X:Exit->Act->World->Prop} {i:Nat} {ge:GEnv} {z a:List I_}
theorem g_m4 {f:FuncId} {args:Array Value} {K:Ending->World->Prop} (h:Calls P f args w K) (k:∀ ev w',K ev w'->∃ v,ev= .returned v/\Scr z (RegG P n ops X (i+1) (putG (zC n ops ge i) v ge) w'))
    (hr:∀ ww,(opAt n ops ge i).map (λx=>(ex x.1 x.2.1 (rho ge)).run P ww)=some (.ok (.enter f args) ww):=by intro ww; kernel_rfl):Scr (.m::z) (RegG P n ops X i ge w):=by
 cases ho:opAt n ops ge i with
 | none=>have:=hr w; rw [ho] at this; cases this
 | some x =>
  obtain⟨op,ty,d⟩:=x;rw [zfc ho] at k;exact zvc f args ho (λww=>by have:=hr ww; rw [ho] at this; simpa only [bY,aC] using this) (Calls.mono h k)
end
section
variable {P:Program} {n:Nat} {w:World} {ops:Array Oper} {X:Exit->Act->World->Prop} {i:Nat} {ge:GEnv} {z a:List I_}
theorem g_or {A B p:Prop} (h:A\/B) (ka:A->Scr a p) (kb:B->Scr z p):Scr (.or a::z) p:=h.elim ka kb
theorem g_q1 {α:Type} {v:Value} {f:α->Value} {G:α->Prop} {s:Nat} (h:∃ r,v=f r/\G r) (k:∀ r,G r->Scr z (RegG P n ops X i ((s,gdOf ge s,f r)::ge) w)) (hg:zU ge s=some (gdOf ge s,v):=by kernel_rfl):Scr (.q s::z) (RegG P n ops X i ge w):=by
 obtain⟨r,e,h⟩:=h;exact Yu s (λpp=>pp) e (k r h) hg
theorem g_q2 {v c:Value} {G:Prop} {s:Nat} (h:v=c/\G) (k:G->Scr z (RegG P n ops X i ((s,gdOf ge s,c)::ge) w)) (hg:zU ge s=some (gdOf ge s,v):=by kernel_rfl):Scr (.q s::z) (RegG P n ops X i ge w):=Yu s (λpp=>pp) h.1 (k h.2) hg
def azO (P:Program) (ge:GEnv):Op->Option (Value×Value×Option (TypeId×Nat×Nat×List Value)×Bool)
 | .call c=>match c.callee,c.args.toList,c.argTypes.toList with
  | .builtin .append,[a,xo],[t,tx]=>match P.underlying t with
   | some (.slice e)=>match zB P e,zZb P e,zpd P e with
    | some sz,some by_,some zs=>some (rho ge a,rho ge xo,some (e,sz,by_,zs),Nat.ble 1 by_&&intT P tx&&Nat.beq zs.length sz)
    | _,_,_=>none
   | _=>none
  | _,_,_=>none
 | _=>none
theorem zWl {op:Op} {v1 v2:Value} {e:TypeId} {sz by_:Nat} {zs:List Value} (h:azO P ge op=some (v1,v2,some (e,sz,by_,zs),true)) :
    ∃ a xo t tx,op= .call { callee:= .builtin .append,args:=#[a,xo],argTypes:=#[t,tx] }/\rho ge a=v1/\rho ge xo=v2/\P.underlying t=some (.slice e)/\zB P e=some sz/\zZb P e=some by_/\zpd P e=some zs/\Nat.ble 1 by_=true/\intT P tx=true/\zs.length=sz:=by
 unfold azO at h;split at h
 ·rename_i cl
  obtain⟨callee,args,argTypes⟩:=cl;split at h
  ·rename_i a xo t tx hc ha ht
   simp only at hc ha ht;split at h
   ·rename_i e' hu
    split at h
    ·rename_i hs hb hz
     simp only [aC,bI,aD] at h;obtain⟨h1,h2,⟨rfl,rfl,rfl,rfl⟩,⟨h3,h4⟩,h5⟩:=h;refine⟨a,xo,t,tx,?_,h1,h2,hu,hs,hb,hz,h3,h4,bH h5⟩;rw [hc,<-cQ (xs:=args),ha,<-cQ (xs:=argTypes),ht]
    ·cases h
   ·cases h
  ·cases h
 ·cases h
theorem g_Az {e:TypeId} {s:Slc} {sz by_ k0:Nat} {zs src:List Value} {l:Int} {B:Prop} {G:Slc->World->Prop} (h:0<=l/\B/\zG sz by_ e zs s src k0 w G) (k:∀ r w',G r w'->Scr z (RegG P n ops X (i+1) (putG (zC n ops ge i) (.slice r.ptr r.len r.cap) ge) w'))
    (hB:B=(l*(by_:Int)<=281474976710656):=by kernel_rfl) (hs:src=(zp l.toNat zs).toList:=by kernel_rfl) (hk:k0=l.toNat:=by kernel_rfl) (ho:(opAt n ops ge i).bind (λy=>azO P ge y.1)=some (.slice s.ptr s.len s.cap,.int .i64 l,some (e,sz,by_,zs),true):=by kernel_rfl):Scr (.Az::z) (RegG P n ops X i ge w):=by
 subst hk hs hB;obtain⟨op,ty,d,h1,h2,h3⟩:=zu ho;obtain⟨a,xo,t,tx,rfl,e1,e2,e3,e4,e5,e6,e7,e8,e9⟩:=zWl h2;rw [h3] at k;exact zOf h1 e1 e2 e3 e4 e5 e6 e7 e8 e9 h.1 h.2.1 (zG.mono h.2.2 λr w' hg=>k r w' hg)
def msO (P:Program) (ge:GEnv):Op->Option (Value×Value×Option (TypeId×Nat×Nat×List Value)×Bool)
 | .makeSlice t lo co=>match P.underlying t with
  | some (.slice e)=>match zB P e,zZb P e,zpd P e with
   | some sz,some by_,some zs=>some (rho ge lo,rho ge co,some (e,sz,by_,zs),Nat.ble 1 by_&&Nat.beq zs.length sz)
   | _,_,_=>none
  | _=>none
 | _=>none
theorem zwp {op:Op} {v1 v2:Value} {e:TypeId} {sz by_:Nat} {zs:List Value} (h:msO P ge op=some (v1,v2,some (e,sz,by_,zs),true)) :
    ∃ t lo co,op= .makeSlice t lo co/\rho ge lo=v1/\rho ge co=v2/\P.underlying t=some (.slice e)/\zB P e=some sz/\zZb P e=some by_/\zpd P e=some zs/\Nat.ble 1 by_=true/\zs.length=sz:=by
 unfold msO at h;split at h
 ·rename_i t lo co
  split at h
  ·rename_i e' hu
   split at h
   ·rename_i hs hb hz
    simp only [aC,bI,aD] at h;obtain⟨h1,h2,⟨rfl,rfl,rfl,rfl⟩,h3,h5⟩:=h;exact⟨t,lo,co,rfl,h1,h2,hu,hs,hb,hz,h3,bH h5⟩
   ·cases h
  ·cases h
 ·cases h
def msB (P:Program) (n:Nat) (ops:Array Oper) (ge:GEnv) (i:Nat):Nat×Nat:=match (opAt n ops ge i).bind (λy=>msO P ge y.1) with
 | some (_,_,some (_,sz,b,_),_)=>(sz,b)
 | _=>(0,0)
theorem g_Ms {e:TypeId} {zs:List Value} {l c:Int} {B:Prop} {G:Nat->World->Prop} (h:0<=l/\l<=c/\B/\∀ b w',b=w.heap.size->w'=w.alloc (Obj.cells (zp c.toNat zs) e (0,0))->G b w') (k:∀ b w',G b w'->Scr z (RegG P n ops X (i+1) (putG (zC n ops ge i) (.slice (some ⟨b,0,none⟩) l.toNat c.toNat) ge) w'))
    (hB:B=(((msB P n ops ge i).2:Int)*c<=281474976710656):=by kernel_rfl) (ho:(opAt n ops ge i).bind (λy=>msO P ge y.1)=some (.int .i64 l,.int .i64 c,some (e,(msB P n ops ge i).1,(msB P n ops ge i).2,zs),true):=by kernel_rfl):Scr (.Ms::z) (RegG P n ops X i ge w):=by
 subst hB;obtain⟨op,ty,d,h1,h2,h3⟩:=zu ho;obtain⟨t,lo,co,rfl,e1,e2,e3,e4,e5,e6,e7,e8⟩:=zwp h2;rw [h3] at k;exact z6d h1 e1 e2 e3 e4 e5 e6 e8 e7 h.1 h.2.1 h.2.2.1 λb w' hb hw=>k b w' (h.2.2.2 b w' hb hw)
end
section
variable {P:Program} {n:Nat} {c:Code} {l:Env} {w:World} {z:List I_} {Q:Exit->Env->World->Prop}
theorem g_Z {fn:Func} {R:Value->World->Prop} [q:RetOf Q (retQ P fn R)] {α β:Type} {b o b2 o2:Nat} {g:α->List Value} {g2:β->List Value} {G:α->β->Prop} (h:∃ r,zf w b o (g r)/\∃ s,zf w b2 o2 (g2 s)/\G r s) (k:∀ r s,G r s->R (tupV (resV P l fn.results.toList [g r,g2 s])) w)
    (hB:∀ r s,resB P l fn.results.toList [g r,g2 s]=true:=by intro r s; kernel_rfl) (hP:resP l fn.results.toList=[.pointer (some ⟨b,o,none⟩),.pointer (some ⟨b2,o2,none⟩)]:=by kernel_rfl) (hc:c= .ret:=by kernel_rfl):Scr [.Z] (WpE P n c Q l w):=by
 obtain⟨r,hr,s,hs,h⟩:=h;refine zSm (zSf fn.results.toList [(b,o,g r),(b2,o2,g2 s)] (hB r s) hP λc hc=> ?_) (k r s h) rfl hc;rcases aU.1 hc with rfl | hc
 ·exact hr
 ·rw [bK.1 hc]; exact hs
end
section
variable {P:Program} {n:Nat} {w:World} {ops:Array Oper} {i:Nat} {ge:GEnv} {z a:List I_}
def lkO (P:Program) (ge:GEnv):Op->Option (Value×Value×Option (TypeId×TypeId)×Bool)
 | .lookup t x k b=>some (rho ge x,rho ge k,match P.underlying t with | some (.map kt et)=>some (kt,et) | _=>none,b)
 | _=>none
theorem zqg {op:Op} {v1 v2:Value} {kt et:TypeId} {b:Bool} (h:lkO P ge op=some (v1,v2,some (kt,et),b)):∃ t x k,op= .lookup t x k b/\rho ge x=v1/\rho ge k=v2/\P.underlying t=some (.map kt et):=by
 unfold lkO at h;split at h
 ·rename_i t x k b'
  simp only [aC,bI] at h;obtain⟨h1,h2,h3,rfl⟩:=h;split at h3
  ·rename_i hu
   simp only [aC,bI] at h3;obtain⟨rfl,rfl⟩:=h3;exact⟨t,x,k,rfl,h1,h2,hu⟩
  ·cases h3
 ·cases h
def lkT (P:Program) (n:Nat) (ops:Array Oper) (ge:GEnv) (i:Nat):TypeId×TypeId:=match (opAt n ops ge i).bind (λy=>lkO P ge y.1) with
 | some (_,_,some t,_)=>t
 | _=>(0,0)
end
theorem key_ {P:Program} {kt:TypeId} {IsK:Value->Prop} (K:zKb P kt IsK:=by first | exact keyS K_ | exact keyI K_ | exact keyP (et:=3) K_ K_ K_ K_ K_):zKb P kt IsK:=K
section
variable {P:Program} {n:Nat} {w:World} {ops:Array Oper} {X:Exit->Act->World->Prop} {i:Nat} {ge:GEnv} {z a:List I_}
theorem g_L0 {m:Option Nat} {kv zz:Value} {α:Type} {f:α->Value} {IsK:Value->Prop} {G:Array MapEntry->α->Bool->Prop} (h:∃ es v b,zhb w m es/\zH IsK es/\(es.toList.map (·.key)).Nodup/\IsK kv/\LkIs es kv zz (f v) b/\G es v b) (k:∀ es v b,G es v b->Scr z (RegG P n ops X (i+1) (putG (zC n ops ge i) (f v) ge) w))
    (K:zKb P (lkT P n ops ge i).1 IsK:=by exact key_) (hz:∀ w,(zeroValue (lkT P n ops ge i).2).run P w= .ok zz w:=by intro w; kernel_rfl) (ho:(opAt n ops ge i).bind (λy=>lkO P ge y.1)=some (.map m,kv,some (lkT P n ops ge i),false):=by kernel_rfl):Scr (.k0::z) (RegG P n ops X i ge w):=by
 obtain⟨op,ty,d,h1,h2,h3⟩:=zu ho;obtain⟨t,x,kx,rfl,h4,h5,h6⟩:=zqg h2;obtain⟨es,v,b,hm,hi,hn,hv,hl,h⟩:=h;have k:=k es v b h;rw [h3] at k;exact zSh K h1 h4 h5 h6 hz hm hi hn hv hl k
end
section
variable {P:Program} {n:Nat} {w:World} {ops:Array Oper} {X:Exit->Act->World->Prop} {i:Nat} {ge:GEnv} {z a:List I_}
theorem g_L1 {m:Option Nat} {kv zz:Value} {α:Type} {f:α->Value} {IsK:Value->Prop} {G:Array MapEntry->α->Bool->Prop} (h:∃ es v b,zhb w m es/\zH IsK es/\(es.toList.map (·.key)).Nodup/\IsK kv/\LkIs es kv zz (f v) b/\G es v b) (k:∀ es v b,G es v b->Scr z (RegG P n ops X (i+1) (putG (zC n ops ge i) (.tuple #[f v,.bool b]) ge) w))
    (K:zKb P (lkT P n ops ge i).1 IsK:=by exact key_) (hz:∀ w,(zeroValue (lkT P n ops ge i).2).run P w= .ok zz w:=by intro w; kernel_rfl) (ho:(opAt n ops ge i).bind (λy=>lkO P ge y.1)=some (.map m,kv,some (lkT P n ops ge i),true):=by kernel_rfl):Scr (.k1::z) (RegG P n ops X i ge w):=by
 obtain⟨op,ty,d,h1,h2,h3⟩:=zu ho;obtain⟨t,x,kx,rfl,h4,h5,h6⟩:=zqg h2;obtain⟨es,v,b,hm,hi,hn,hv,hl,h⟩:=h;have k:=k es v b h;rw [h3] at k;exact zJe K h1 h4 h5 h6 hz hm hi hn hv hl k
end
section
variable {P:Program} {n:Nat} {w:World} {ops:Array Oper} {i m0:Nat} {ge:GEnv} {z a:List I_} {C:World->Prop} {Q:Act->Prop}
theorem q_L0 {m:Option Nat} {kv zz:Value} {α:Type} {f:α->Value} {IsK:Value->Prop} {G:Array MapEntry->α->Bool->Prop} (h:∃ es v b,zhb w m es/\zH IsK es/\(es.toList.map (·.key)).Nodup/\IsK kv/\LkIs es kv zz (f v) b/\G es v b) (k:∀ es v b,G es v b->Scr z (RegQ P n ops m0 C Q (i+1) (putG (zC n ops ge i) (f v) ge) w))
    (K:zKb P (lkT P n ops ge i).1 IsK:=by exact key_) (hz:∀ w,(zeroValue (lkT P n ops ge i).2).run P w= .ok zz w:=by intro w; kernel_rfl) (ho:(opAt n ops ge i).bind (λy=>lkO P ge y.1)=some (.map m,kv,some (lkT P n ops ge i),false):=by kernel_rfl):Scr (.k0::z) (RegQ P n ops m0 C Q i ge w):=by
 obtain⟨op,ty,d,h1,h2,h3⟩:=zu ho;obtain⟨t,x,kx,rfl,h4,h5,h6⟩:=zqg h2;obtain⟨es,v,b,hm,hi,hn,hv,hl,h⟩:=h;have k:=k es v b h;rw [h3] at k;exact zOc K h1 h4 h5 h6 hz hm hi hn hv hl k
end
section
variable {P:Program} {n:Nat} {w:World} {ops:Array Oper} {i m0:Nat} {ge:GEnv} {z a:List I_} {C:World->Prop} {Q:Act->Prop}
theorem q_L1 {m:Option Nat} {kv zz:Value} {α:Type} {f:α->Value} {IsK:Value->Prop} {G:Array MapEntry->α->Bool->Prop} (h:∃ es v b,zhb w m es/\zH IsK es/\(es.toList.map (·.key)).Nodup/\IsK kv/\LkIs es kv zz (f v) b/\G es v b) (k:∀ es v b,G es v b->Scr z (RegQ P n ops m0 C Q (i+1) (putG (zC n ops ge i) (.tuple #[f v,.bool b]) ge) w))
    (K:zKb P (lkT P n ops ge i).1 IsK:=by exact key_) (hz:∀ w,(zeroValue (lkT P n ops ge i).2).run P w= .ok zz w:=by intro w; kernel_rfl) (ho:(opAt n ops ge i).bind (λy=>lkO P ge y.1)=some (.map m,kv,some (lkT P n ops ge i),true):=by kernel_rfl):Scr (.k1::z) (RegQ P n ops m0 C Q i ge w):=by
 obtain⟨op,ty,d,h1,h2,h3⟩:=zu ho;obtain⟨t,x,kx,rfl,h4,h5,h6⟩:=zqg h2;obtain⟨es,v,b,hm,hi,hn,hv,hl,h⟩:=h;have k:=k es v b h;rw [h3] at k;exact zYg K h1 h4 h5 h6 hz hm hi hn hv hl k
end
section
variable {P:Program} {n:Nat} {w:World} {ops:Array Oper} {ps:Nat} {π:List Nat} {pd:Pds} {ge:GEnv} {z a:List I_} {Q:Exit->Act->World->Prop}
theorem m_L0 {m:Option Nat} {kv zz:Value} {α:Type} {f:α->Value} {IsK:Value->Prop} {G:Array MapEntry->α->Bool->Prop} (h:∃ es v b,zhb w m es/\zH IsK es/\(es.toList.map (·.key)).Nodup/\IsK kv/\LkIs es kv zz (f v) b/\G es v b) (k:∀ es v b,G es v b->Scr z (RegM P n ops Q π (((π.getD ps 0),λw'=>zhb w' m es)::pd) (ps+1) (putG (zC n ops ge (π.getD ps 0)) (f v) ge) w))
    (K:zKb P (lkT P n ops ge (π.getD ps 0)).1 IsK:=by exact key_) (hz:∀ w,(zeroValue (lkT P n ops ge (π.getD ps 0)).2).run P w= .ok zz w:=by intro w; kernel_rfl) (hk:π[ps]? =some (π.getD ps 0):=by kernel_rfl) (ho:(opAt n ops ge (π.getD ps 0)).bind (λy=>lkO P ge y.1)=some (.map m,kv,some (lkT P n ops ge (π.getD ps 0)),false):=by kernel_rfl):Scr (.k0::z) (RegM P n ops Q π pd ps ge w):=by
 obtain⟨op,ty,d,h1,h2,h3⟩:=zu ho;obtain⟨t,x,kx,rfl,h4,h5,h6⟩:=zqg h2;obtain⟨es,v,b,hm,hi,hn,hv,hl,h⟩:=h;have k:=k es v b h;rw [h3] at k;exact z0g hk K h1 h4 h5 h6 hz hm hi hn hv hl k
end
section
variable {P:Program} {n:Nat} {w:World} {ops:Array Oper} {ps:Nat} {π:List Nat} {pd:Pds} {ge:GEnv} {z a:List I_} {Q:Exit->Act->World->Prop}
theorem m_L1 {m:Option Nat} {kv zz:Value} {α:Type} {f:α->Value} {IsK:Value->Prop} {G:Array MapEntry->α->Bool->Prop} (h:∃ es v b,zhb w m es/\zH IsK es/\(es.toList.map (·.key)).Nodup/\IsK kv/\LkIs es kv zz (f v) b/\G es v b) (k:∀ es v b,G es v b->Scr z (RegM P n ops Q π (((π.getD ps 0),λw'=>zhb w' m es)::pd) (ps+1) (putG (zC n ops ge (π.getD ps 0)) (.tuple #[f v,.bool b]) ge) w))
    (K:zKb P (lkT P n ops ge (π.getD ps 0)).1 IsK:=by exact key_) (hz:∀ w,(zeroValue (lkT P n ops ge (π.getD ps 0)).2).run P w= .ok zz w:=by intro w; kernel_rfl) (hk:π[ps]? =some (π.getD ps 0):=by kernel_rfl) (ho:(opAt n ops ge (π.getD ps 0)).bind (λy=>lkO P ge y.1)=some (.map m,kv,some (lkT P n ops ge (π.getD ps 0)),true):=by kernel_rfl):Scr (.k1::z) (RegM P n ops Q π pd ps ge w):=by
 obtain⟨op,ty,d,h1,h2,h3⟩:=zu ho;obtain⟨t,x,kx,rfl,h4,h5,h6⟩:=zqg h2;obtain⟨es,v,b,hm,hi,hn,hv,hl,h⟩:=h;have k:=k es v b h;rw [h3] at k;exact zZg hk K h1 h4 h5 h6 hz hm hi hn hv hl k
end
section
variable {P:Program} {n:Nat} {w:World} {ops:Array Oper} {X:Exit->Act->World->Prop} {i:Nat} {ge:GEnv} {z a:List I_}
def mpT (P:Program) (t:TypeId):Option (TypeId×TypeId):=match P.underlying t with
 | some (.map kt et)=>some (kt,et)
 | _=>none
theorem zcj {t kt et:TypeId} (h:mpT P t=some (kt,et)):P.underlying t=some (.map kt et):=by
 unfold mpT at h;split at h
 ·rename_i hu
  simp only [aC,bI] at h;rw [hu,h.1,h.2]
 ·cases h
def upO (P:Program) (ge:GEnv):Op->Option (Value×Value×Value×Option (TypeId×TypeId))
 | .mapUpdate t x k v=>some (rho ge x,rho ge k,rho ge v,mpT P t)
 | .call c=>match c.callee,c.args.toList,c.argTypes.toList with
  | .builtin .delete,[x,k],[t,_]=>some (rho ge x,rho ge k,undef,mpT P t)
  | _,_,_=>none
 | _=>none
def upT (P:Program) (n:Nat) (ops:Array Oper) (ge:GEnv) (i:Nat):TypeId×TypeId:=match (opAt n ops ge i).bind (λy=>upO P ge y.1) with
 | some (_,_,_,some t)=>t
 | _=>(0,0)
def upB (n:Nat) (ops:Array Oper) (ge:GEnv) (i:Nat):Bool:=match opAt n ops ge i with
 | some (.mapUpdate _ _ _ _,_)=>true
 | _=>false
theorem g_up {m:Option Nat} {kv vv:Value} {IsK:Value->Prop} {G:Nat->Array MapEntry->Nat->Array MapEntry->Nat->World->Prop} (h:∃ r es c,m=some r/\w.heap[r]? =some (.map es c)/\zH IsK es/\(es.toList.map (·.key)).Nodup/\IsK kv/\∀ es2 c2 w',zee es c kv vv es2 c2->w'={ w with heap:=w.heap.setIfInBounds r (.map es2 c2) }->G r es c es2 c2 w')
    (k:∀ r es c es2 c2 w',G r es c es2 c2 w'->Scr z (RegG P n ops X (i+1) (putG (zC n ops ge i) undef ge) w')) (K:zKb P (upT P n ops ge i).1 IsK:=by exact key_)
    (ho:(opAt n ops ge i).bind (λy=>upO P ge y.1)=some (.map m,kv,vv,some (upT P n ops ge i)):=by kernel_rfl) (hb:upB n ops ge i=true:=by kernel_rfl):Scr (.up::z) (RegG P n ops X i ge w):=by
 obtain⟨op,ty,d,h1,h2,h3⟩:=zu ho;obtain⟨r,es,c,hr,hm,hi,hn,hk,h⟩:=h;unfold upB at hb;rw [h1] at hb;cases op with
 | mapUpdate t x kx v =>
  simp only [upO,aC,bI] at h2;rw [h3] at k;exact znc r c K h1 h2.1 hr h2.2.1 h2.2.2.1 (zcj h2.2.2.2) hm hi hn hk λes2 c2 w' hs hw=>k r es c es2 c2 w' (h es2 c2 w' hs hw)
 | _=>cases hb
def upD:Op->Bool
 | .mapUpdate _ _ _ _=>true
 | _=>false
theorem zxp {op:Op} {v1 v2 v3:Value} {kt et:TypeId} (h:upO P ge op=some (v1,v2,v3,some (kt,et))) (hb:upD op=false):∃ x k t tk,op= .call { callee:= .builtin .delete,args:=#[x,k],argTypes:=#[t,tk] }/\rho ge x=v1/\rho ge k=v2/\P.underlying t=some (.map kt et):=by
 unfold upO at h;split at h
 ·cases hb
 ·rename_i cl
  obtain⟨callee,args,argTypes⟩:=cl;split at h
  ·rename_i x kx t tk hc ha ht
   simp only at hc ha ht;simp only [aC,bI] at h;refine⟨x,kx,t,tk,?_,h.1,h.2.1,zcj h.2.2.2⟩;rw [hc,<-cQ (xs:=args),ha,<-cQ (xs:=argTypes),ht]
  ·cases h
 ·cases h
theorem g_dl {m:Option Nat} {kv:Value} {IsK:Value->Prop} {G:Nat->Array MapEntry->Nat->Array MapEntry->World->Prop} (h:∃ r es c,m=some r/\w.heap[r]? =some (.map es c)/\zH IsK es/\IsK kv/\∀ es2 w',zRh es kv es2->w'={ w with heap:=w.heap.setIfInBounds r (.map es2 c) }->G r es c es2 w')
    (k:∀ r es c es2 w',G r es c es2 w'->Scr z (RegG P n ops X (i+1) (putG (zC n ops ge i) (.tuple #[]) ge) w')) (K:zKb P (upT P n ops ge i).1 IsK:=by exact key_)
    (ho:(opAt n ops ge i).bind (λy=>upO P ge y.1)=some (.map m,kv,undef,some (upT P n ops ge i)):=by kernel_rfl) (hb:((opAt n ops ge i).map λy=>upD y.1)=some false:=by kernel_rfl):Scr (.dl::z) (RegG P n ops X i ge w):=by
 obtain⟨op,ty,d,h1,h2,h3⟩:=zu ho;obtain⟨r,es,c,hr,hm,hi,hk,h⟩:=h;rw [h1] at hb;have hb:upD op=false:=aE hb;obtain⟨x,kx,t,tk,rfl,h4,h5,h6⟩:=zxp h2 hb;rw [h3] at k;exact zMd r c K h1 h4 hr h5 h6 hm hi hk λes2 w' hs hw=>k r es c es2 w' (h es2 w' hs hw)
end
end
theorem yd_ {H p:Prop} (h:H) (q:H->p:=by
 intro h
 first | exact⟨_,K_,h⟩ | exact⟨_,_,K_,h⟩ | exact⟨K_,h⟩ | exact⟨_,_,_,K_,h⟩ | exact⟨_,_,_,_,K_,h⟩ | exact⟨_,_,_,_,_,K_,h⟩ | exact⟨_,by assumption,K_,h⟩ | exact h):p:=q h
theorem go {H p:Prop} (h:H) (s:List I_) (q:H->Scr s p:=by
 intro h
 repeat' first
  | refine g_p ?_
  | refine g_f1 ?_
  | refine g_t ?_
  | refine g_n ?_
  | refine g_s ?_
  | refine g_c h (λh=> ?_) λh=> ?_
  | refine g_l h λv h=> ?_
  | refine g_v h λhp h=> ?_
  | refine g_k1 ?_
  | refine g_r ?_
  | refine g_d ?_
  | refine g_e ?_
  | refine g_w (f:=pv_) .w h λb w h=> ?_
  | refine g_w (f:=sl_ 1 1) .V h λb w h=> ?_
  | ((first | refine g_m4 h ?_ | refine g_Y h ?_ | refine m_m h ?_ | refine m_Y h ?_); first | rintro _ w ⟨r,rfl,h⟩ | rintro _ w ⟨rfl,h⟩ | rintro _ w ⟨r,s,rfl,h⟩ | rintro _ w ⟨r,s,u,rfl,h⟩ | rintro _ w ⟨r,s,u,t,rfl,h⟩ | rintro _ w ⟨r,s,u,t,e,rfl,h⟩ | (rintro _ w ⟨r,hl,rfl,h⟩; replace h:=h hl)
     refine⟨_,rfl,?_⟩)
  | refine g_o h λw h=> ?_
  | refine g_i h λhp h=> ?_
  | refine g_j ‹_› h λh=> ?_
  | refine g_L h λv h=> ?_
  | refine g_f2 ?_
  | refine g_F1 ?_
  | refine g_F2 ?_
  | refine g_P ?_
  | refine g_N ?_
  | refine g_k2 ?_
  | refine g_b h (λh=> ?_) λh=> ?_
  | exact g_y0 (yd_ h)
  | exact g_x1 h
  | exact g_x0 h
  | exact g_x2 h
  | refine' g_C1 ?_ λx w h=> ?_
  | refine' g_C0 ?_ λw h=> ?_
  | refine' g_C2 ?_ λx y w h=> ?_
  | refine g_O1 h λag x w h=> ?_
  | refine g_O2 h λag x y w h=> ?_
  | refine g_E ?_
  | refine g_R h λh=> ?_
  | refine g_A h λr w h=> ?_
  | exact g_y1 h λr h=>yd_ h
  | refine q_l h λv h=> ?_
  | refine q_n ?_
  | refine q_v h λhp h=> ?_
  | refine q_f h λw h=> ?_
  | refine q_i h λhp h=> ?_
  | refine q_j ‹_› h λh=> ?_
  | refine q_L h λv h=> ?_
  | refine q_N ?_
  | refine q_F h λw h=> ?_
  | refine q_b h (λh=> ?_) λh=> ?_
  | refine q_T ?_
  | refine g_D ?_
  | refine g_Q h λw h=> ?_
  | refine g_M h λw h=> ?_
  | refine m_l h λv h=> ?_
  | refine m_n ?_
  | refine m_v h λhp h=> ?_
  | refine m_f ?_
  | refine m_i h λhp h=> ?_
  | refine m_j ‹_› h λh=> ?_
  | refine m_L h λv h=> ?_
  | refine m_N ?_
  | refine m_F ?_
  | refine m_b h (λh=> ?_) λh=> ?_
  | refine m_o h λw h=> ?_
  | refine m_w (f:=pv_) .w h λb w h=> ?_
  | refine m_w (f:=sl_ 1 1) .V h λb w h=> ?_
  | refine m_A h λr w h=> ?_
  | refine g_S h λr h=> ?_
  | refine g_I h λh=> ?_
  | refine g_k h λh=> ?_
  | refine g_W h λb w h=> ?_
  | refine g_w (f:=λb=> .map (some b)) .G h λb w h=> ?_
  | refine g_H h λh=> ?_
  | refine g_X ?_
  | refine g_h h λh=> ?_
  | refine g_g1 h λh=> ?_
  | refine g_g2 h λh=> ?_
  | refine q_S h λr h=> ?_
  | refine q_I h λh=> ?_
  | refine q_k h λh=> ?_
  | refine q_h h λh=> ?_
  | refine m_I h λh=> ?_
  | refine m_k h λh=> ?_
  | exact g_J h
  | refine g_up h λr es c es2 c2 w h=> ?_
  | refine g_dl h λr es c es2 w h=> ?_
  | refine g_L0 h λes v b h=> ?_
  | refine g_L1 h λes v b h=> ?_
  | refine q_L0 h λes v b h=> ?_
  | refine q_L1 h λes v b h=> ?_
  | refine m_L0 h λes v b h=> ?_
  | refine m_L1 h λes v b h=> ?_
  | refine g_or h (λh=> ?_) λh=> ?_
  | refine g_q1 h λr h=> ?_
  | refine g_q2 h λh=> ?_
  | refine g_Az h λr w h=> ?_
  | refine g_Ms h λb w h=> ?_
  | exact g_Z h λr s h=>yd_ h
  | refine' g_C3 ?_ λx y u w h=> ?_
  | refine' g_C4 ?_ λx y u v w h=> ?_
  | refine g_O4 h λag x y u v w h=> ?_
  | refine g_O5 h λag x y u v p w h=> ?_
  | exact g_x3 h
  | exact g_x4 h
  | exact g_x5 h
  | exact g_y3 (yd_ h)
  | exact g_y4 h λr h=>yd_ h
  | refine g_r1 ?_
  | refine g_r2 ?_
  | refine g_r3 ?_
  | refine g_r4 ?_
  | refine g_r6 ?_
  | refine g_r7 ?_
  | refine g_r5 ?_
  | refine zer ?_
  | refine zfr ?_
  | refine zgr ?_
  | refine pd1 h λh=> ?_
  | refine pd0 h λh=> ?_
  | refine pd2 h λh=> ?_
  | refine pd3 h λh=> ?_
  | refine pd4 h λh=> ?_):p:=q h
attribute [irreducible] Scr
end Go.Proofs.YtofjmclceflgiaaGreat
