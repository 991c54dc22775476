/- Plain facts on Go's numbers. -/
import Derived.Test.YtofjmclceflgiaaGreatCore
namespace Go.Proofs.YtofjmclceflgiaaGreat
open Go

theorem z2m (n:Int):IntKind.i64.wrap n=(n+9223372036854775808) % 18446744073709551616 - 9223372036854775808:=by
 simp only [IntKind.wrap,IntKind.bits,IntKind.signed]; simp; split <;> omega
theorem zbj (n:Int):IntKind.u32.wrap n=n % 4294967296:=by simp [IntKind.wrap,IntKind.bits,IntKind.signed]
theorem z3m (n:Int):IntKind.u64.wrap n=n % 18446744073709551616:=by simp [IntKind.wrap,IntKind.bits,IntKind.signed]

theorem i64_in (n:Int) (h0: -9223372036854775808≤n) (h1:n≤9223372036854775807):IntKind.i64.wrap n=n:=by rw [z2m]; omega
theorem zHs (n:Int) (h0:0≤n) (h1:n≤18446744073709551615):IntKind.u64.wrap n=n:=by rw [z3m]; omega
theorem zIs (n:Int) (h0:0≤n) (h1:n≤4294967295):IntKind.u32.wrap n=n:=by rw [zbj]; omega
/-! ### Bits, as natural numbers -/
theorem zxk {k:IntKind} (hk:k.signed=false) (n:Int):k.wrap n=n % (2 ^ k.bits:Nat):=by
 cases k <;> first | (cases hk; done) | (simp [IntKind.wrap,IntKind.bits,IntKind.signed])

theorem ofInt_nat (m:Nat) (a:Nat):BitVec.ofInt m (a:Int)=BitVec.ofNat m a:=by
 apply BitVec.eq_of_toNat_eq
 simp

theorem z9c {k:IntKind} (hk:k.signed=false) {n:Nat} (h:n<2 ^ k.bits):k.wrap (n:Int)=n:=by
 rw [zxk hk]
 have:=Nat.mod_eq_of_lt h
 exact_mod_cast this

theorem zyk {k:IntKind} (hk:k.signed=false) {a b:Nat} (ha:a<2 ^ k.bits) (hb:b<2 ^ k.bits):band k a b=((a &&& b:Nat):Int):=by
 unfold band
 rw [ofInt_nat,ofInt_nat,BitVec.toNat_and,BitVec.toNat_ofNat,BitVec.toNat_ofNat,Nat.mod_eq_of_lt ha,Nat.mod_eq_of_lt hb]
 exact z9c hk (Nat.lt_of_le_of_lt Nat.and_le_left ha)
theorem z4m {k:IntKind} (hk:k.signed=false) {a b:Nat} (ha:a<2 ^ k.bits) (hb:b<2 ^ k.bits):bor k a b=((a ||| b:Nat):Int):=by
 unfold bor
 rw [ofInt_nat,ofInt_nat,BitVec.toNat_or,BitVec.toNat_ofNat,BitVec.toNat_ofNat,Nat.mod_eq_of_lt ha,Nat.mod_eq_of_lt hb]
 exact z9c hk (Nat.or_lt_two_pow ha hb)
theorem zih {k:IntKind} (hk:k.signed=false) {a b:Nat} (ha:a<2 ^ k.bits) (hb:b<2 ^ k.bits):z1h k a b=((a &&& (2 ^ k.bits - 1 - b):Nat):Int):=by
 unfold z1h
 rw [ofInt_nat,ofInt_nat,BitVec.toNat_and,BitVec.toNat_not,BitVec.toNat_ofNat,BitVec.toNat_ofNat,Nat.mod_eq_of_lt ha,Nat.mod_eq_of_lt hb]
 exact z9c hk (Nat.lt_of_le_of_lt Nat.and_le_left ha)

theorem zcj (a b:Nat):Int.fdiv (a:Int) (b:Int)=((a / b:Nat):Int):=by
 cases b with
 | zero=>simp [Int.fdiv_zero]
 | succ b=>rw [Int.fdiv_eq_ediv_of_nonneg _ (by omega)]; exact_mod_cast rfl
theorem z5m (a b:Nat):Int.tdiv (a:Int) (b:Int)=((a / b:Nat):Int):=by
 rw [Int.tdiv_eq_ediv_of_nonneg (by omega)]; exact_mod_cast rfl
theorem z5f (a b:Nat):Int.tmod (a:Int) (b:Int)=((a % b:Nat):Int):=by
 rw [Int.tmod_eq_emod_of_nonneg (by omega)]; exact_mod_cast rfl
theorem toN {x:Int} (h:0≤x):∃ n:Nat,x=n:=Int.eq_ofNat_of_zero_le h

/-! ### Blocks -/
theorem z0h {w:World} {b o:Nat} {cs:Array Value} {T:TypeId} {fz:Nat×Nat} {v:Value} (h:w.heap[b]? =some (.cells cs T fz)) (hv:cs[o]? =some v):w.cell? ⟨b,o,none⟩=some v:=by
 unfold World.cell?
 simp [h,hv]
theorem zro (w:World) (o:Obj):(w.alloc o).heap[w.heap.size]? =some o:=by
 show(w.heap.push o)[w.heap.size]? =_
 simp
/-- The world behind some draws. -/
def Qt (w w':World):Prop:=∃ k,w'=w.drewN k
theorem Qt.refl (w:World):Qt w w:=⟨0,rfl⟩
theorem Qt.trans {a b c:World} (h:Qt a b) (h':Qt b c):Qt a c:=by
 obtain⟨k,rfl⟩:=h
 obtain⟨m,rfl⟩:=h'
 exact⟨k+m,by rw [World.drewN_drewN]⟩
theorem Qt.below {w w':World} (h:Qt w w') (B:Nat):RowKit.Below B w w':=by
 obtain⟨k,rfl⟩:=h
 exact⟨rfl,rfl,rfl,Nat.le_refl _,fun _ _=>rfl⟩
theorem Qt.heap {w w':World} (h:Qt w w'):w'.heap=w.heap:=by obtain⟨k,rfl⟩:=h; rfl


/-! ### What lies in memory -/
theorem Ext.srcN {w w':World} (h:Ext w w') {x:Slc} {k sz:Nat} {src:List Value} (hs:zBb w x k sz src):zBb w' x k sz src :=
 ⟨hs.1,hs.2.imp id fun⟨a,b⟩=>⟨a,h.cells b⟩⟩
theorem Ext.src {w w':World} (h:Ext w w') {x:Slc} {sz:Nat} {src:List Value} (hs:zr w x sz src):zr w' x sz src:=h.srcN hs
theorem Qt.ext {w w':World} (h:Qt w w'):Ext w w':=h.below _
theorem Ext.alloc (w:World) (o:Obj):Ext w (w.alloc o):=(RowKit.Below.refl _ w).alloc (Nat.le_refl _) o
theorem Ext.new {w w1:World} {o:Obj} (h:w1=w.alloc o):Ext w w1:=h ▸ Ext.alloc w o

theorem zz {w:World} {b:Nat}:∀ {vs:List Value} {o:Nat},zc w b o vs↔∀ i v,vs[i]? =some v→w.cell? ⟨b,o+i,none⟩=some v
 | [],o=>⟨fun _ i v h=>by simp at h,fun _=>trivial⟩
 | v::vs,o=>by
  constructor
  ·intro h i u hi
   cases i with
   | zero=>simp only [List.getElem?_cons_zero,Option.some.injEq] at hi; subst hi; exact h.1
   | succ i =>
    simp only [List.getElem?_cons_succ] at hi
    have:=zz.1 h.2 i u hi
    rwa [show o+1+i=o+(i+1) from by omega] at this
  ·intro h
   refine⟨h 0 v rfl,zz.2 fun i u hi=> ?_⟩
   have:=h (i+1) u (by simpa using hi)
   rwa [show o+(i+1)=o+1+i from by omega] at this

/-- A block of the call's own: its cells. -/
def Blk (w:World) (b:Nat) (cs:List Value):Prop:=∃ T lo hi,w.heap[b]? =some (.cells cs.toArray T (lo,hi))∧(lo=hi∨cs.length≤lo)
theorem Blk.lt {w:World} {b:Nat} {cs:List Value} (h:Blk w b cs):b<w.heap.size:=by
 obtain⟨T,lo,hi,h,_⟩:=h
 exact(Array.getElem?_eq_some_iff.1 h).1
theorem Blk.new {w w1:World} {b:Nat} {cs:List Value} {T:TypeId} (hb:b=w.heap.size) (hw:w1=w.alloc (.cells cs.toArray T (0,0))):Blk w1 b cs:=by
 subst hb; subst hw; exact⟨T,0,0,zro _ _,.inl rfl⟩
theorem Blk.cell {w:World} {b o:Nat} {cs:List Value} {v:Value} (h:Blk w b cs) (hv:cs[o]? =some v):w.cell? ⟨b,o,none⟩=some v:=by
 obtain⟨T,lo,hi,h,_⟩:=h
 exact z0h h (by simpa using hv)
theorem Blk.cells {w:World} {b o:Nat} {cs vs:List Value} (h:Blk w b cs) (hv:∀ i v,vs[i]? =some v→cs[o+i]? =some v):zc w b o vs :=
 zz.2 fun i v hi=>h.cell (hv i v hi)
theorem Blk.all {w:World} {b:Nat} {cs:List Value} (h:Blk w b cs):zc w b 0 cs:=h.cells fun i v hi=>by simpa using hi
theorem Blk.writable {w:World} {b o k:Nat} {cs:List Value} (h:Blk w b cs) (hk:o+k≤cs.length):zb w b o k:=by
 intro i hi
 refine⟨⟨cs[o+i]'(by omega),h.cell (List.getElem?_eq_getElem _)⟩,?_⟩
 obtain⟨T,lo,hi',h,hf⟩:=h
 simp only [World.frozen?,h]
 rw [Bool.and_eq_false_iff,decide_eq_false_iff_not,decide_eq_false_iff_not]
 omega
theorem Blk.keep {w w':World} {b B:Nat} {cs:List Value} (h:Blk w b cs) (hk:RowKit.Below B w w') (hb:b<B):Blk w' b cs:=by
 obtain⟨T,lo,hi,h,hf⟩:=h
 exact⟨T,lo,hi,(hk.block b hb).trans h,hf⟩
theorem Blk.ext {w w':World} {b:Nat} {cs:List Value} (h:Blk w b cs) (hk:Ext w w'):Blk w' b cs:=h.keep hk h.lt
theorem Blk.grown {w w':World} {b:Nat} {r:Option Nat} {cs:List Value} (h:Blk w b cs) (hk:w.grownBy w' r) (hb:some b≠r):Blk w' b cs:=by
 have hl:=h.lt
 obtain⟨T,lo,hi,h,hf⟩:=h
 exact⟨T,lo,hi,(hk.block b hl hb).trans h,hf⟩

theorem zTe (b:Nat):∀(vs:List Value) (o:Nat) (w:World),(World.puts b o vs w).heap.size=w.heap.size
 | [],_,_=>rfl
 | v::vs,o,w=>by rw [World.puts,zTe b vs]; simp [World.setCell]
theorem zqb (b:Nat):∀(vs:List Value) (o:Nat) (w:World),w.grownBy (World.puts b o vs w) (some b)
 | [],_,w=>⟨rfl,rfl,rfl,Nat.le_refl _,fun _ _ _=>rfl⟩
 | v::vs,o,w=>by
  have h:=zqb b vs (o+1) (w.setCell ⟨b,o,none⟩ v)
  refine⟨h.os,h.tape,h.output,by rw [zTe]; exact Nat.le_refl _,fun k hk hne=> ?_⟩
  have hs:(w.setCell ⟨b,o,none⟩ v).heap.size=w.heap.size:=by simp [World.setCell]
  rw [World.puts,h.block k (by omega) hne]
  exact RowKit.Below.heap_setCell _ _ _ _ (fun e=>hne (by rw [e]))
theorem z3d {B b o:Nat} {a w:World} (vs:List Value) (h:RowKit.Below B a w) (hb:B≤b):RowKit.Below B a (World.puts b o vs w) :=
 h.trans ⟨(zqb b vs o w).os,(zqb b vs o w).tape,(zqb b vs o w).output,(zqb b vs o w).size,fun k hk=>by
  rcases Nat.lt_or_ge k w.heap.size with h1 | h1
  ·exact(zqb b vs o w).block k h1 (fun e=>by simp only [Option.some.injEq] at e; omega)
  ·rw [Array.getElem?_eq_none h1,Array.getElem?_eq_none (by rw [zTe]; exact h1)]⟩
/-- What a store leaves in the block. -/
def putL:Nat→List Value→List Value→List Value
 | _,[],cs=>cs
 | o,v::vs,cs=>putL (o+1) vs (cs.set o v)
theorem zvd:∀(vs:List Value) (o:Nat) (cs:List Value) (i:Nat),i<o→(putL o vs cs)[i]? =cs[i]?
 | [],_,_,_,_=>rfl
 | v::vs,o,cs,i,h=>by rw [putL,zvd vs _ _ _ (by omega),List.getElem?_set_ne (by omega)]
theorem zUe:∀(vs:List Value) (o:Nat) (cs:List Value) (i:Nat),o+vs.length≤cs.length→i<vs.length→(putL o vs cs)[o+i]? =vs[i]?
 | v::vs,o,cs,0,h,_=>by
  simp only [List.length_cons] at h
  rw [putL,zvd vs _ _ _ (by omega),Nat.add_zero,List.getElem?_set_self (by omega)]; rfl
 | v::vs,o,cs,i+1,h,h1=>by
  simp only [List.length_cons] at h h1
  rw [putL,show o+(i+1)=o+1+i from by omega,zUe vs _ _ _ (by simp; omega) (by omega)]; simp
theorem zVe:∀(vs:List Value) (o:Nat) (cs:List Value) (i:Nat),o+vs.length≤i→(putL o vs cs)[i]? =cs[i]?
 | [],_,_,_,_=>rfl
 | v::vs,o,cs,i,h=>by
  simp only [List.length_cons] at h
  rw [putL,zVe vs _ _ _ (by omega),List.getElem?_set_ne (by omega)]
theorem zlb (xs ys zs vs:List Value) (h:vs.length=ys.length):putL xs.length vs (xs++ys++zs)=xs++vs++zs:=by
 apply List.ext_getElem?
 intro i
 rcases Nat.lt_or_ge i xs.length with h1 | h1
 ·rw [zvd _ _ _ _ h1]
  simp [List.getElem?_append_left,h1]
 ·rcases Nat.lt_or_ge i (xs.length+vs.length) with h2 | h2
  ·have:=zUe vs xs.length (xs++ys++zs) (i - xs.length) (by simp; omega) (by omega)
   rw [show xs.length+(i - xs.length)=i from by omega] at this
   rw [this,List.append_assoc,List.getElem?_append_right h1,List.getElem?_append_left (by omega)]
  ·rw [zVe _ _ _ _ h2,List.getElem?_append_right (by simp; omega),List.getElem?_append_right (by simp; omega)]
   simp [h]
theorem zdj (o:Nat) (v:Value) (cs:List Value):putL o [v] cs=cs.set o v:=rfl
theorem Blk.puts {b:Nat}:∀(vs:List Value) {o:Nat} {w:World} {cs:List Value},Blk w b cs→Blk (World.puts b o vs w) b (putL o vs cs)
 | [],_,_,_,h=>h
 | v::vs,o,w,cs,h=>by
  rw [World.puts,putL]
  refine Blk.puts vs ?_
  obtain⟨T,lo,hi,h,hf⟩:=h
  refine⟨T,lo,hi,?_,by simpa using hf⟩
  simp [World.setCell,Array.getElem?_modify,h]
theorem Blk.puts_ne {b b' o:Nat} {w:World} {cs vs:List Value} (h:Blk w b cs) (hne:b≠b'):Blk (World.puts b' o vs w) b cs :=
 h.grown (zqb b' vs o w) (fun e=>hne (Option.some.inj e))

/-! ### Slices -/
theorem zBb.at_ {w:World} {s:Slc} {k sz:Nat} {src:List Value} (h:zBb w s k sz src) (hk:0<k) (hz:0<sz):IsAt s.ptr∧zc w (pblk s.ptr) (poff s.ptr) src:=by
 obtain⟨h1,rfl | h2⟩:=h
 ·have:=Nat.mul_pos hk hz
  simp only [List.length_nil] at h1
  omega
 ·exact h2
/-- Element i of a slice of small things. -/
theorem zr.get {α:Type} {f:α→Value} {w:World} {s:Slc} {l:List α} (h:zr w s 1 (l.map f)) {i:Int} (h0:0≤i) (h1:i<((s.len:Nat):Int)) :
    IsAt s.ptr∧∃ x,l[i.toNat]? =some x∧w.cell? ⟨pblk s.ptr,poff s.ptr+i.toNat,none⟩=some (f x):=by
 have hl:l.length=s.len:=by have:=h.1; simpa using this
 obtain⟨a,c⟩:=zBb.at_ h (by omega) (by omega)
 have hi:i.toNat<l.length:=by omega
 refine⟨a,l[i.toNat],List.getElem?_eq_getElem hi,?_⟩
 exact zz.1 c i.toNat (f l[i.toNat]) (by simp [hi])
theorem zr.len_eq {α:Type} {f:α→Value} {w:World} {s:Slc} {l:List α} (h:zr w s 1 (l.map f)):s.len=l.length:=by
 have:=h.1; simp at this; omega
theorem zwb {w w1:World} {b:Nat} {T:TypeId} {vs:List Value} {n c:Nat} (hb:b=w.heap.size) (hw:w1=w.alloc (.cells vs.toArray T (0,0))) (hn:vs.length=n) :
    zr w1 ⟨some ⟨b,0,none⟩,n,c⟩ 1 vs:=⟨by simp [hn],.inr ⟨rfl,(Blk.new hb hw).all⟩⟩

/-- A slice that is the call's own, from block B on: its things, and room behind them. -/
def Row (w:World) (B:Nat) (s:Slc) (sz:Nat) (xs:List Value):Prop :=
 (s.ptr=none∧xs=[]∧s.len=0∧s.cap=0) ∨
 (∃ b rest,B≤b∧s.ptr=some ⟨b,0,none⟩∧Blk w b (xs++rest)∧xs.length=s.len*sz∧xs.length+rest.length=s.cap*sz∧s.len≤s.cap)
theorem Row.src {w:World} {B:Nat} {s:Slc} {sz:Nat} {xs:List Value} (h:Row w B s sz xs):zr w s sz xs:=by
 rcases h with ⟨h1,rfl,h2,h3⟩ | ⟨b,rest,_,hp,hb,h1,_,_⟩
 ·exact⟨by simp [h2],.inl rfl⟩
 ·refine⟨h1,.inr ?_⟩
  rw [hp]
  refine⟨rfl,hb.cells fun i v hi=> ?_⟩
  rw [show poff (some ⟨b,0,none⟩)=0 from rfl,Nat.zero_add,List.getElem?_append_left (List.getElem?_eq_some_iff.1 hi).1]
  exact hi
theorem Row.nil (w:World) (B sz:Nat):Row w B ⟨none,0,0⟩ sz []:= .inl ⟨rfl,rfl,rfl,rfl⟩
theorem Row.len {w:World} {B:Nat} {s:Slc} {sz:Nat} {xs:List Value} (h:Row w B s sz xs):xs.length=s.len*sz:=h.src.1
theorem Row.cap_le {w:World} {B:Nat} {s:Slc} {sz:Nat} {xs:List Value} (h:Row w B s sz xs):s.len≤s.cap:=by
 rcases h with ⟨_,_,h2,h3⟩ | ⟨_,_,_,_,_,_,_,h⟩ <;> omega
theorem Row.keep {w w':World} {B B':Nat} {s:Slc} {sz:Nat} {xs:List Value} (h:Row w B s sz xs) (hk:Ext w w') (hB:B'≤B):Row w' B' s sz xs:=by
 rcases h with h | ⟨b,rest,h0,hp,hb,h1,h2,h3⟩
 ·exact .inl h
 ·exact .inr ⟨b,rest,by omega,hp,hb.ext hk,h1,h2,h3⟩
/-- Another's block was written. -/
theorem Row.grown {w w':World} {B:Nat} {r:Option Nat} {s:Slc} {sz:Nat} {xs:List Value} (h:Row w B s sz xs) (hk:w.grownBy w' r) (hr:∀ a,s.ptr=some a→some a.block≠r):Row w' B s sz xs:=by
 rcases h with h | ⟨b,rest,h0,hp,hb,h1,h2,h3⟩
 ·exact .inl h
 ·exact .inr ⟨b,rest,h0,hp,hb.grown hk (hr _ hp),h1,h2,h3⟩

theorem zmf (w:World) (o:Obj):Ext w (w.drew.alloc o):=Ext.trans ((RowKit.Below.refl _ w).drew) (Ext.alloc w.drew o)

/-- Appending to a slice of one's own. -/
theorem Row.append {w:World} {B:Nat} {s:Slc} {sz by_ k:Nat} {e:TypeId} {zs xs src:List Value} {K:Slc→World→Prop} (h:Row w B s sz xs) (hB:B≤w.heap.size)
    (hk:src.length=k*sz) (h1:zI src=true) (hz:zs.length=sz) (hcap:(s.len+k)*by_≤140737488355328)
    (hK:∀ s' w',Row w' B s' sz (xs++src)→RowKit.Below B w w'→s'.len=s.len+k→(∀ a,s'.ptr=some a→(s.ptr=some a∧w.grownBy w' (some a.block))∨(w.heap.size≤a.block∧Ext w w'))→(s'.ptr=none→w'=w)→K s' w') :
    zo sz by_ e zs s src k w K:=by
 refine⟨fun hc=> ?_,fun hc=>⟨growslice_fits hc hcap,xs,h.src,fun cap b w' hcl _ hb hw=> ?_⟩⟩
 ·rcases h with ⟨hp,rfl,hl,hcz⟩ | ⟨b,rest,h0,hp,hb,hx,hr,hle⟩
  ·have hk0:k=0:=by omega
   have hs:src=[]:=by
    have:src.length=0:=by rw [hk,hk0,Nat.zero_mul]
    exact List.eq_nil_of_length_eq_zero this
   subst hs
   exact .inl ⟨rfl,hK _ _ (.inl ⟨hp,rfl,by simp [hl,hk0],hcz⟩) (RowKit.Below.refl _ _) rfl (fun a ha=>by simp [hp] at ha) (fun _=>rfl)⟩
  ·have hroom:src.length≤rest.length:=by
     have:(s.len+k)*sz≤s.cap*sz:=Nat.mul_le_mul_right _ hc
     rw [Nat.add_mul] at this
     omega
   have hlen:poff s.ptr+s.len*sz=xs.length:=by rw [hp]; show 0+s.len*sz=_; omega
   refine .inr ⟨by rw [hp]; rfl,?_,h1,fun w' hw=> ?_⟩
   ·rw [hlen]
    rw [hp]
    exact hb.writable (by simp; omega)
   ·rw [hlen] at hw
    have hpb:pblk s.ptr=b:=by rw [hp]; rfl
    rw [hpb] at hw
    subst hw
    have hn:=hb.puts src (o:=xs.length)
    have e1:xs++rest=xs++rest.take src.length++rest.drop src.length:=by rw [List.append_assoc,List.take_append_drop]
    rw [e1,zlb _ _ _ _ (by simp; omega)] at hn
    refine hK _ _ (.inr ⟨b,rest.drop src.length,h0,hp,hn,?_,?_,hc⟩) (z3d _ (RowKit.Below.refl _ _) h0) rfl (fun a ha=> .inl ⟨ha,?_⟩) (fun hn=>by simp [hp] at hn)
    ·simp [hx,hk,Nat.add_mul]
    ·simp; omega
    ·simp only [hp,Option.some.injEq] at ha
     subst ha
     exact zqb _ _ _ _
 ·have hE:Ext w w':=hw ▸ zmf w _
  have hbs:b=w.drew.heap.size:=hb
  refine hK _ _ (.inr ⟨b,(zu (cap - (s.len+k)) zs).toList,by omega,rfl,?_,?_,?_,hcl⟩) (hE.mono hB) rfl (fun a ha=> .inr ⟨?_,hE⟩) (fun hn=>by cases hn)
  ·exact Blk.new hbs hw
  ·simp only [List.length_append,hk,h.len,Nat.add_mul]
  ·simp only [List.length_append,hk,h.len,zu]
   simp only [List.length_flatten,List.map_replicate,hz,List.sum_replicate_nat]
   rw [←Nat.add_mul,←Nat.add_mul]
   congr 1
   show s.len+k+(cap - (s.len+k))=cap
   omega
  ·simp only [Option.some.injEq] at ha
   subst ha
   show w.heap.size≤b
   omega



/-! ### What came in, as lists -/
theorem zWe {α:Type} {P:Nat→α→Prop}:∀ {n:Nat},(∀ i,i<n→∃ x,P i x)→∃ l:List α,l.length=n∧∀ i x,l[i]? =some x→P i x
 | 0,_=>⟨[],rfl,fun i x h=>by simp at h⟩
 | n+1,h=>by
  obtain⟨l,hl,hp⟩:=zWe (n:=n) fun i hi=>h i (by omega)
  obtain⟨y,hy⟩:=h n (by omega)
  refine⟨l++[y],by simp [hl],fun i x hx=> ?_⟩
  rcases Nat.lt_or_ge i n with h1 | h1
  ·rw [List.getElem?_append_left (by omega)] at hx; exact hp i x hx
  ·rw [List.getElem?_append_right (by omega)] at hx
   have:i - l.length=0:=by
    rcases Nat.eq_zero_or_pos (i - l.length) with h2 | h2
    ·exact h2
    ·rw [List.getElem?_eq_none (by simp; omega)] at hx; cases hx
   rw [this] at hx
   simp only [List.getElem?_cons_zero,Option.some.injEq] at hx
   subst hx
   rw [show i=n from by omega]
   exact hy

theorem zej {α:Type} {l:List α} {i:Nat} {x:α} (h:l[i]? =some x):l.drop i=x::l.drop (i+1):=by
 obtain⟨hl,rfl⟩:=List.getElem?_eq_some_iff.1 h
 exact List.drop_eq_getElem_cons hl
theorem z6m {α:Type} {l:List α} {i:Nat} (h:l.length≤i):l.drop i=[]:=List.drop_eq_nil_of_le h
theorem zXe {i:Int} {n:Nat} (h0:0≤i) (h1:i<((n:Nat):Int)) (hn:n≤4611686018427387904):IntKind.i64.wrap (i+1)=i+1:=i64_in _ (by omega) (by omega)
theorem zmc {i:Int} (h:0≤i):(i+1).toNat=i.toNat+1:=by omega

end Go.Proofs.YtofjmclceflgiaaGreat
