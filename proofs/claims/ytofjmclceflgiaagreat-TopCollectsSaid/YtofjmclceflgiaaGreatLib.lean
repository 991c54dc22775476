/-
  A part of the proof of TopCollects.
  Conditions: none.
-/
import Derived.Test.YtofjmclceflgiaaGreatCoreB
namespace Go.Proofs.YtofjmclceflgiaaGreat
open Go
theorem zHl (n:Int):IntKind.i64.wrap n=(n+9223372036854775808) % 18446744073709551616 - 9223372036854775808:=by
 simp only [IntKind.wrap,IntKind.bits,IntKind.signed]; simp; split <;> omega
theorem zJm (n:Int):IntKind.u8.wrap n=n % 256:=by simp [IntKind.wrap,IntKind.bits,IntKind.signed]
theorem zXi (n:Int):IntKind.u32.wrap n=n % 4294967296:=by simp [IntKind.wrap,IntKind.bits,IntKind.signed]
theorem z0d (n:Int):IntKind.u64.wrap n=n % 18446744073709551616:=by simp [IntKind.wrap,IntKind.bits,IntKind.signed]
theorem i64_in (n:Int) (h0: -9223372036854775808<=n) (h1:n<=9223372036854775807):IntKind.i64.wrap n=n:=by rw [zHl]; omega
theorem W_ {p:Prop} (h:p:=by rw [i64_in _ O_ O_]; omega):p:=h
theorem zrh (n:Int) (h0:0<=n) (h1:n<=18446744073709551615):IntKind.u64.wrap n=n:=by rw [z0d]; omega
theorem zqp (n:Int) (h0:0<=n) (h1:n<=4294967295):IntKind.u32.wrap n=n:=by rw [zXi]; omega
theorem zok {k:IntKind} (hk:k.signed=false) (n:Int):k.wrap n=n % (2 ^ k.bits:Nat):=by
 cases k <;> first | (cases hk; done) | (simp [IntKind.wrap,IntKind.bits,IntKind.signed])
theorem ofInt_nat (m:Nat) (a:Nat):BitVec.ofInt m (a:Int)=BitVec.ofNat m a:=by
 apply BitVec.eq_of_toNat_eq;simp
theorem zfd {k:IntKind} (hk:k.signed=false) {n:Nat} (h:n<2 ^ k.bits):k.wrap (n:Int)=n:=by
 rw [zok hk];have:=cM h
 exact_mod_cast this
theorem zpk {k:IntKind} (hk:k.signed=false) {a b:Nat} (ha:a<2 ^ k.bits) (hb:b<2 ^ k.bits):band k a b=((a &&& b:Nat):Int):=by
 unfold band;rw [ofInt_nat,ofInt_nat,BitVec.toNat_and,BitVec.toNat_ofNat,BitVec.toNat_ofNat,cM ha,cM hb];exact zfd hk (dI Nat.and_le_left ha)
theorem zIl {k:IntKind} (hk:k.signed=false) {a b:Nat} (ha:a<2 ^ k.bits) (hb:b<2 ^ k.bits):bor k a b=((a ||| b:Nat):Int):=by
 unfold bor;rw [ofInt_nat,ofInt_nat,BitVec.toNat_or,BitVec.toNat_ofNat,BitVec.toNat_ofNat,cM ha,cM hb];exact zfd hk (Nat.or_lt_two_pow ha hb)
theorem zsh {k:IntKind} (hk:k.signed=false) {a b:Nat} (ha:a<2 ^ k.bits) (hb:b<2 ^ k.bits):zji k a b=((a &&& (2 ^ k.bits - 1 - b):Nat):Int):=by
 unfold zji;rw [ofInt_nat,ofInt_nat,BitVec.toNat_and,BitVec.toNat_not,BitVec.toNat_ofNat,BitVec.toNat_ofNat,cM ha,cM hb];exact zfd hk (dI Nat.and_le_left ha)
theorem z0e (a b:Nat):Int.fdiv (a:Int) (b:Int)=((a / b:Nat):Int):=by
 cases b with
 | zero=>simp [Int.fdiv_zero]
 | succ b=>rw [Int.fdiv_eq_ediv_of_nonneg _ (by omega)]; exact_mod_cast rfl
theorem zJl (a b:Nat):Int.tdiv (a:Int) (b:Int)=((a / b:Nat):Int):=by
 rw [Int.tdiv_eq_ediv_of_nonneg (by omega)]; exact_mod_cast rfl
theorem zHg (a b:Nat):Int.tmod (a:Int) (b:Int)=((a % b:Nat):Int):=by
 rw [Int.tmod_eq_emod_of_nonneg (by omega)]; exact_mod_cast rfl
theorem toN {x:Int} (h:0<=x):∃ n:Nat,x=n:=Int.eq_ofNat_of_zero_le h
theorem zii {w:World} {b o:Nat} {cs:Array Value} {T:TypeId} {fz:Nat×Nat} {v:Value} (h:w.heap[b]? =some (.cells cs T fz)) (hv:cs[o]? =some v):w.cell? ⟨b,o,none⟩=some v:=by
 unfold World.cell?;simp [h,hv]
theorem zKm (w:World) (o:Obj):(w.alloc o).heap[w.heap.size]? =some o:=by
 show(w.heap.push o)[w.heap.size]? =_;simp
def Qt (w w':World):Prop:=∃ k,w'=w.drewN k
theorem Qt.refl (w:World):Qt w w:=⟨0,rfl⟩
theorem Qt.trans {a b c:World} (h:Qt a b) (h':Qt b c):Qt a c:=by
 obtain⟨k,rfl⟩:=h;obtain⟨m,rfl⟩:=h';exact⟨k+m,by rw [World.drewN_drewN]⟩
theorem Qt.below {w w':World} (h:Qt w w') (B:Nat):RowKit.Below B w w':=by
 obtain⟨k,rfl⟩:=h;exact⟨rfl,rfl,rfl,bC _,λ_ _=>rfl⟩
theorem Qt.heap {w w':World} (h:Qt w w'):w'.heap=w.heap:=by obtain⟨k,rfl⟩:=h; rfl
theorem Ext.srcN {w w':World} (h:Ext w w') {x:Slc} {k sz:Nat} {src:List Value} (hs:zsb w x k sz src):zsb w' x k sz src :=
 ⟨hs.1,hs.2.imp id λ⟨a,b⟩=>⟨a,h.cells b⟩⟩
theorem Ext.src {w w':World} (h:Ext w w') {x:Slc} {sz:Nat} {src:List Value} (hs:zj w x sz src):zj w' x sz src:=h.srcN hs
theorem Qt.ext {w w':World} (h:Qt w w'):Ext w w':=h.below _
theorem Ext.alloc (w:World) (o:Obj):Ext w (w.alloc o):=(RowKit.Below.refl _ w).alloc (bC _) o
theorem Ext.new {w w1:World} {o:Obj} (h:w1=w.alloc o):Ext w w1:=h ▸ Ext.alloc w o
theorem zy {w:World} {b:Nat}:∀ {vs:List Value} {o:Nat},zf w b o vs↔∀ i v,vs[i]? =some v->w.cell? ⟨b,o+i,none⟩=some v
 | [],o=>⟨λ_ i v h=>by simp at h,λ_=>trivial⟩
 | v::vs,o=>by
  constructor
  ·intro h i u hi;cases i with
   | zero=>simp only [cA,aC] at hi; subst hi; exact h.1
   | succ i =>
    simp only [cB] at hi;have:=zy.1 h.2 i u hi
    rwa [show o+1+i=o+(i+1) from by omega] at this
  ·intro h;refine⟨h 0 v rfl,zy.2 λi u hi=> ?_⟩;have:=h (i+1) u (by simpa using hi)
   rwa [show o+(i+1)=o+1+i from by omega] at this
def Blk (w:World) (b:Nat) (cs:List Value):Prop:=∃ T lo hi,w.heap[b]? =some (.cells cs.toArray T (lo,hi))/\(lo=0/\hi=0)
theorem Blk.lt {w:World} {b:Nat} {cs:List Value} (h:Blk w b cs):b<w.heap.size:=by
 obtain⟨T,lo,hi,h,_⟩:=h;exact(dD.1 h).1
theorem Blk.new {w w1:World} {b:Nat} {cs:List Value} {T:TypeId} (hb:b=w.heap.size) (hw:w1=w.alloc (.cells cs.toArray T (0,0))):Blk w1 b cs:=by
 subst hb; subst hw; exact⟨T,0,0,zKm _ _,rfl,rfl⟩
theorem Blk.cell {w:World} {b o:Nat} {cs:List Value} {v:Value} (h:Blk w b cs) (hv:cs[o]? =some v):w.cell? ⟨b,o,none⟩=some v:=by
 obtain⟨T,lo,hi,h,_⟩:=h;exact zii h (by simpa using hv)
theorem Blk.cells {w:World} {b o:Nat} {cs vs:List Value} (h:Blk w b cs) (hv:∀ i v,vs[i]? =some v->cs[o+i]? =some v):zf w b o vs :=
 zy.2 λi v hi=>h.cell (hv i v hi)
theorem Blk.all {w:World} {b:Nat} {cs:List Value} (h:Blk w b cs):zf w b 0 cs:=h.cells λi v hi=>by simpa using hi
theorem Blk.writable {w:World} {b o k:Nat} {cs:List Value} (h:Blk w b cs) (hk:o+k<=cs.length):zr w b o k:=by
 intro i hi;refine⟨⟨cs[o+i]'(by omega),h.cell (aA _)⟩,?_⟩;obtain⟨T,lo,hi',h,hf⟩:=h;simp only [World.frozen?,h];rw [fA,decide_eq_false_iff_not,decide_eq_false_iff_not];omega
theorem Blk.keep {w w':World} {b B:Nat} {cs:List Value} (h:Blk w b cs) (hk:RowKit.Below B w w') (hb:b<B):Blk w' b cs:=by
 obtain⟨T,lo,hi,h,hf⟩:=h;exact⟨T,lo,hi,(hk.block b hb).trans h,hf⟩
theorem Blk.ext {w w':World} {b:Nat} {cs:List Value} (h:Blk w b cs) (hk:Ext w w'):Blk w' b cs:=h.keep hk h.lt
theorem Blk.grown {w w':World} {b:Nat} {r:Option Nat} {cs:List Value} (h:Blk w b cs) (hk:w.grownBy w' r) (hb:some b≠r):Blk w' b cs:=by
 have hl:=h.lt;obtain⟨T,lo,hi,h,hf⟩:=h;exact⟨T,lo,hi,(hk.block b hl hb).trans h,hf⟩
theorem zpf (b:Nat):∀(vs:List Value) (o:Nat) (w:World),(World.puts b o vs w).heap.size=w.heap.size
 | [],_,_=>rfl
 | v::vs,o,w=>by rw [World.puts,zpf b vs]; simp [World.setCell]
theorem zwb (b:Nat):∀(vs:List Value) (o:Nat) (w:World),w.grownBy (World.puts b o vs w) (some b)
 | [],_,w=>⟨rfl,rfl,rfl,bC _,λ_ _ _=>rfl⟩
 | v::vs,o,w=>by
  have h:=zwb b vs (o+1) (w.setCell ⟨b,o,none⟩ v);refine⟨h.os,h.tape,h.output,by rw [zpf]; exact bC _,λk hk hne=> ?_⟩;have hs:(w.setCell ⟨b,o,none⟩ v).heap.size=w.heap.size:=by simp [World.setCell]
  rw [World.puts,h.block k (by omega) hne];exact RowKit.Below.heap_setCell _ _ _ _ (λe=>hne (by rw [e]))
theorem zle {B b o:Nat} {a w:World} (vs:List Value) (h:RowKit.Below B a w) (hb:B<=b):RowKit.Below B a (World.puts b o vs w) :=
 h.trans ⟨(zwb b vs o w).os,(zwb b vs o w).tape,(zwb b vs o w).output,(zwb b vs o w).size,λk hk=>by
  rcases dB k w.heap.size with h1 | h1
  ·exact(zwb b vs o w).block k h1 (λe=>by simp only [aC] at e; omega)
  ·rw [dQ h1,dQ (by rw [zpf]; exact h1)]⟩
def putL:Nat->List Value->List Value->List Value
 | _,[],cs=>cs
 | o,v::vs,cs=>putL (o+1) vs (cs.set o v)
theorem zJd:∀(vs:List Value) (o:Nat) (cs:List Value) (i:Nat),i<o->(putL o vs cs)[i]? =cs[i]?
 | [],_,_,_,_=>rfl
 | v::vs,o,cs,i,h=>by rw [putL,zJd vs _ _ _ (by omega),aT (by omega)]
theorem zqf:∀(vs:List Value) (o:Nat) (cs:List Value) (i:Nat),o+vs.length<=cs.length->i<vs.length->(putL o vs cs)[o+i]? =vs[i]?
 | v::vs,o,cs,0,h,_=>by
  simp only [aV] at h;rw [putL,zJd vs _ _ _ (by omega),eE,aL (by omega)]; rfl
 | v::vs,o,cs,i+1,h,h1=>by
  simp only [aV] at h h1;rw [putL,show o+(i+1)=o+1+i from by omega,zqf vs _ _ _ (by simp; omega) (by omega)]; simp
theorem zrf:∀(vs:List Value) (o:Nat) (cs:List Value) (i:Nat),o+vs.length<=i->(putL o vs cs)[i]? =cs[i]?
 | [],_,_,_,_=>rfl
 | v::vs,o,cs,i,h=>by
  simp only [aV] at h;rw [putL,zrf vs _ _ _ (by omega),aT (by omega)]
theorem zdb (xs ys zs vs:List Value) (h:vs.length=ys.length):putL xs.length vs (xs++ys++zs)=xs++vs++zs:=by
 apply eI;intro i;rcases dB i xs.length with h1 | h1
 ·rw [zJd _ _ _ _ h1];simp [aO,h1]
 ·rcases dB i (xs.length+vs.length) with h2 | h2
  ·have:=zqf vs xs.length (xs++ys++zs) (i - xs.length) (by simp; omega) (by omega);rw [show xs.length+(i - xs.length)=i from by omega] at this;rw [this,aN,aS h1,aO (by omega)]
  ·rw [zrf _ _ _ _ h2,aS (by simp; omega),aS (by simp; omega)];simp [h]
theorem zgd (o:Nat) (v:Value) (cs:List Value):putL o [v] cs=cs.set o v:=rfl
theorem Blk.puts {b:Nat}:∀(vs:List Value) {o:Nat} {w:World} {cs:List Value},Blk w b cs->Blk (World.puts b o vs w) b (putL o vs cs)
 | [],_,_,_,h=>h
 | v::vs,o,w,cs,h=>by
  rw [World.puts,putL];refine Blk.puts vs ?_;obtain⟨T,lo,hi,h,hf⟩:=h;refine⟨T,lo,hi,?_,by simpa using hf⟩;simp [World.setCell,fU,h]
theorem Blk.puts_ne {b b' o:Nat} {w:World} {cs vs:List Value} (h:Blk w b cs) (hne:b≠b'):Blk (World.puts b' o vs w) b cs :=
 h.grown (zwb b' vs o w) (λe=>hne (aE e))
theorem zsb.at_ {w:World} {s:Slc} {k sz:Nat} {src:List Value} (h:zsb w s k sz src) (hk:0<k) (hz:0<sz):IsAt s.ptr/\zf w (pblk s.ptr) (poff s.ptr) src:=by
 obtain⟨h1,rfl | h2⟩:=h
 ·have:=Nat.mul_pos hk hz;simp only [eC] at h1;omega
 ·exact h2
theorem zj.get {α:Type} {f:α->Value} {w:World} {s:Slc} {l:List α} (h:zj w s 1 (l.map f)) {i:Int} (h0:0<=i) (h1:i<((s.len:Nat):Int)) :
    IsAt s.ptr/\∃ x,l[i.toNat]? =some x/\w.cell? ⟨pblk s.ptr,poff s.ptr+i.toNat,none⟩=some (f x):=by
 have hl:l.length=s.len:=by have:=h.1; simpa using this
 obtain⟨a,c⟩:=zsb.at_ h (by omega) (by omega);have hi:i.toNat<l.length:=by omega
 refine⟨a,l[i.toNat],aA hi,?_⟩;exact zy.1 c i.toNat (f l[i.toNat]) (by simp [hi])
theorem zj.len_eq {α:Type} {f:α->Value} {w:World} {s:Slc} {l:List α} (h:zj w s 1 (l.map f)):s.len=l.length:=by
 have:=h.1; simp at this; omega
theorem zS {w w1:World} {b:Nat} {T:TypeId} {vs:List Value} {n c:Nat} (hb:b=w.heap.size) (hw:w1=w.alloc (.cells vs.toArray T (0,0))) (hn:vs.length=n) :
    zj w1 ⟨some ⟨b,0,none⟩,n,c⟩ 1 vs:=⟨by simp [hn],.inr ⟨rfl,(Blk.new hb hw).all⟩⟩
def Row (w:World) (B:Nat) (s:Slc) (sz:Nat) (xs:List Value):Prop :=
 (s.ptr=none/\xs=[]/\s.len=0/\s.cap=0) \/
 (∃ b rest,B<=b/\s.ptr=some ⟨b,0,none⟩/\Blk w b (xs++rest)/\xs.length=s.len*sz/\xs.length+rest.length=s.cap*sz/\s.len<=s.cap)
theorem Row.src {w:World} {B:Nat} {s:Slc} {sz:Nat} {xs:List Value} (h:Row w B s sz xs):zj w s sz xs:=by
 rcases h with ⟨h1,rfl,h2,h3⟩ | ⟨b,rest,_,hp,hb,h1,_,_⟩
 ·exact⟨by simp [h2],.inl rfl⟩
 ·refine⟨h1,.inr ?_⟩;rw [hp];refine⟨rfl,hb.cells λi v hi=> ?_⟩;rw [show poff (Z0 b)=0 from rfl,dE,aO (cC.1 hi).1];exact hi
theorem Row.nil (w:World) (B sz:Nat):Row w B ⟨none,0,0⟩ sz []:= .inl ⟨rfl,rfl,rfl,rfl⟩
theorem Row.len {w:World} {B:Nat} {s:Slc} {sz:Nat} {xs:List Value} (h:Row w B s sz xs):xs.length=s.len*sz:=h.src.1
theorem Row.cap_le {w:World} {B:Nat} {s:Slc} {sz:Nat} {xs:List Value} (h:Row w B s sz xs):s.len<=s.cap:=by
 rcases h with ⟨_,_,h2,h3⟩ | ⟨_,_,_,_,_,_,_,h⟩ <;> omega
theorem Row.keep {w w':World} {B B':Nat} {s:Slc} {sz:Nat} {xs:List Value} (h:Row w B s sz xs) (hk:Ext w w') (hB:B'<=B):Row w' B' s sz xs:=by
 rcases h with h | ⟨b,rest,h0,hp,hb,h1,h2,h3⟩
 ·exact .inl h
 ·exact .inr ⟨b,rest,by omega,hp,hb.ext hk,h1,h2,h3⟩
theorem Row.grown {w w':World} {B:Nat} {r:Option Nat} {s:Slc} {sz:Nat} {xs:List Value} (h:Row w B s sz xs) (hk:w.grownBy w' r) (hr:∀ a,s.ptr=some a->some a.block≠r):Row w' B s sz xs:=by
 rcases h with h | ⟨b,rest,h0,hp,hb,h1,h2,h3⟩
 ·exact .inl h
 ·exact .inr ⟨b,rest,h0,hp,hb.grown hk (hr _ hp),h1,h2,h3⟩
theorem zYf (w:World) (o:Obj):Ext w (w.drew.alloc o):=Ext.trans ((RowKit.Below.refl _ w).drew) (Ext.alloc w.drew o)
theorem Row.append {w:World} {B:Nat} {s:Slc} {sz by_ k:Nat} {e:TypeId} {zs xs src:List Value} {K:Slc->World->Prop} (h:Row w B s sz xs) (hB:B<=w.heap.size)
    (hk:src.length=k*sz) (h1:zv src=true) (hz:zs.length=sz) (hcap:(s.len+k)*by_<=140737488355328)
    (hK:∀ s' w',Row w' B s' sz (xs++src)->RowKit.Below B w w'->s'.len=s.len+k->(∀ a,s'.ptr=some a->(s.ptr=some a/\w.grownBy w' (some a.block))\/(w.heap.size<=a.block/\Ext w w'))->(s'.ptr=none->w'=w)->K s' w') :
    zG sz by_ e zs s src k w K:=by
 refine⟨λhc=> ?_,λhc=>⟨growslice_fits hc hcap,xs,h.src,λcap b w' hcl _ hb hw=> ?_⟩⟩
 ·rcases h with ⟨hp,rfl,hl,hcz⟩ | ⟨b,rest,h0,hp,hb,hx,hr,hle⟩
  ·have hk0:k=0:=by omega
   have hs:src=[]:=by
    have:src.length=0:=by rw [hk,hk0,fG]
    exact aX this
   subst hs;exact .inl ⟨rfl,hK _ _ (.inl ⟨hp,rfl,by simp [hl,hk0],hcz⟩) (RowKit.Below.refl _ _) rfl (λa ha=>by simp [hp] at ha) (λ_=>rfl)⟩
  ·have hroom:src.length<=rest.length:=by
     have:(s.len+k)*sz<=s.cap*sz:=bV _ hc;rw [cR] at this;omega
   have hlen:poff s.ptr+s.len*sz=xs.length:=by rw [hp]; show 0+s.len*sz=_; omega
   refine .inr ⟨by rw [hp]; rfl,?_,h1,λw' hw=> ?_⟩
   ·rw [hlen];rw [hp];exact hb.writable (by simp; omega)
   ·rw [hlen] at hw;have hpb:pblk s.ptr=b:=by rw [hp]; rfl
    rw [hpb] at hw;subst hw;have hn:=hb.puts src (o:=xs.length);have e1:xs++rest=xs++rest.take src.length++rest.drop src.length:=by rw [aN,bM]
    rw [e1,zdb _ _ _ _ (by simp; omega)] at hn;refine hK _ _ (.inr ⟨b,rest.drop src.length,h0,hp,hn,?_,?_,hc⟩) (zle _ (RowKit.Below.refl _ _) h0) rfl (λa ha=> .inl ⟨ha,?_⟩) (λhn=>by simp [hp] at hn)
    ·simp [hx,hk,cR]
    ·simp; omega
    ·simp only [hp,aC] at ha;subst ha;exact zwb _ _ _ _
 ·have hE:Ext w w':=hw ▸ zYf w _;have hbs:b=w.drew.heap.size:=hb;refine hK _ _ (.inr ⟨b,(zp (cap - (s.len+k)) zs).toList,by omega,rfl,?_,?_,?_,hcl⟩) (hE.mono hB) rfl (λa ha=> .inr ⟨?_,hE⟩) (λhn=>by cases hn)
  ·exact Blk.new hbs hw
  ·simp only [aB,hk,h.len,cR]
  ·simp only [aB,hk,h.len,zp];simp only [eL,dX,hz,List.sum_replicate_nat];rw [<-cR,<-cR];congr 1;show s.len+k+(cap - (s.len+k))=cap;omega
  ·simp only [aC] at ha;subst ha;show w.heap.size<=b;omega
theorem zsf {α:Type} {P:Nat->α->Prop}:∀ {n:Nat},(∀ i,i<n->∃ x,P i x)->∃ l:List α,l.length=n/\∀ i x,l[i]? =some x->P i x
 | 0,_=>⟨[],rfl,λi x h=>by simp at h⟩
 | n+1,h=>by
  obtain⟨l,hl,hp⟩:=zsf (n:=n) λi hi=>h i (by omega);obtain⟨y,hy⟩:=h n (by omega);refine⟨l++[y],by simp [hl],λi x hx=> ?_⟩;rcases dB i n with h1 | h1
  ·rw [aO (by omega)] at hx; exact hp i x hx
  ·rw [aS (by omega)] at hx
   have:i - l.length=0:=by
    rcases Nat.eq_zero_or_pos (i - l.length) with h2 | h2
    ·exact h2
    ·rw [List.getElem?_eq_none (by simp; omega)] at hx; cases hx
   rw [this] at hx;simp only [cA,aC] at hx;subst hx;rw [show i=n from by omega];exact hy
theorem zYi {α:Type} {l:List α} {i:Nat} {x:α} (h:l[i]? =some x):l.drop i=x::l.drop (i+1):=by
 obtain⟨hl,rfl⟩:=cC.1 h;exact bO hl
theorem zKl {α:Type} {l:List α} {i:Nat} (h:l.length<=i):l.drop i=[]:=cL h
theorem ztf {i:Int} {n:Nat} (h0:0<=i) (h1:i<((n:Nat):Int)) (hn:n<=4611686018427387904):IntKind.i64.wrap (i+1)=i+1:=i64_in _ (by omega) (by omega)
theorem zsc {i:Int} (h:0<=i):(i+1).toNat=i.toNat+1:=by omega
end Go.Proofs.YtofjmclceflgiaaGreat
