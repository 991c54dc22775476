/-
  A part of the proof of TopCollects.
  Conditions: none.
-/
import Derived.Test.YtofjmclceflgiaaGreatLib
import Derived.Test.YtofjmclceflgiaaGreatGF
import Derived.Test.YtofjmclceflgiaaGreatG1
import Derived.Test.YtofjmclceflgiaaGreatG2
import Derived.Test.YtofjmclceflgiaaGreatG3
import Derived.Laws.Strings
namespace Go.Proofs.YtofjmclceflgiaaGreat
open Go
open Go.IntKind (i64 u64 u32 u8)
set_option linter.unusedVariables false
attribute [simp] Z0
set_option linter.unusedSimpArgs false
abbrev zb:=Nat×List Value
structure Base where
 w:World
 mp:List (Nat×Obj)
def zsl (o:Obj):Prop:=∀ c t f,o≠ .cells c t f
structure MpOk (w0:Base) (w:World):Prop where
 at_:∀ q∈w0.mp,w.heap[q.1]? =some q.2
 solid:∀ q∈w0.mp,zsl q.2
 own:∀ q∈w0.mp,w0.w.heap.size<=q.1
 nodup:(w0.mp.map (·.1)).Nodup
theorem zEm {w w':World} {r:Nat} {o:Obj} (e:Ext w w') (h:w.heap[r]? =some o):w'.heap[r]? =some o :=
 (e.block r (dD.1 h).1).trans h
theorem MpOk.keep {w0:Base} {w w':World} (h:MpOk w0 w) (e:Ext w w'):MpOk w0 w':=⟨λq hq=>zEm e (h.at_ q hq),h.solid,h.own,h.nodup⟩
theorem zxe {b k:Nat} (hne:k≠b):∀(vs:List Value) (o:Nat) (w:World),(World.puts b o vs w).heap[k]? =w.heap[k]?
 | [],_,_=>rfl
 | v::vs,o,w=>by
  show(World.puts b (o+1) vs (w.setCell ⟨b,o,none⟩ v)).heap[k]? =_;rw [zxe hne vs (o+1)];exact RowKit.Below.heap_setCell w ⟨b,o,none⟩ v k hne
structure St (w0:Base) (l:List zb) (w:World):Prop where
 ext:Ext w0.w w
 blk:∀ p∈l,Blk w p.1 p.2
 own:∀ p∈l,w0.w.heap.size<=p.1
 nodup:(l.map (·.1)).Nodup
 mps:MpOk w0 w
namespace St
variable {w0:Base} {w w':World} {l:List zb}
theorem start (w:World):St ⟨w,[]⟩ [] w:=⟨Ext.refl _,λp hp=>(by cases hp),λp hp=>(by cases hp),cX,⟨λq hq=>(by cases hq),λq hq=>(by cases hq),λq hq=>(by cases hq),cX⟩⟩
theorem keep (h:St w0 l w) (e:Ext w w'):St w0 l w':=⟨h.ext.trans e,λp hp=>(h.blk p hp).ext e,h.own,h.nodup,h.mps.keep e⟩
theorem drew (h:St w0 l w) (e:∃ k,w'=w.drewN k):St w0 l w':=h.keep (Qt.ext e)
theorem alloc {b:Nat} {cs:List Value} {T:TypeId} (h:St w0 l w) (hb:b=w.heap.size) (hw:w'=w.alloc (Obj.cells cs.toArray T (0,0))):St w0 ((b,cs)::l) w':=by
 have e:Ext w w':=Ext.new hw;refine⟨h.ext.trans e,λp hp=> ?_,λp hp=> ?_,?_,h.mps.keep e⟩
 ·rcases aU.1 hp with rfl | hp
  ·exact Blk.new hb hw
  ·exact(h.blk p hp).ext e
 ·rcases aU.1 hp with rfl | hp
  ·have:=h.ext.size; show w0.w.heap.size<=b; omega
  ·exact h.own p hp
 ·rw [cG,dP];refine⟨λhm=> ?_,h.nodup⟩;obtain⟨p,hp,he⟩:=aQ.1 hm;have:=(h.blk p hp).lt;simp only at he;omega
theorem perm {l':List zb} (h:St w0 l w) (p:l.Perm l'):St w0 l' w :=
 ⟨h.ext,λq hq=>h.blk q (p.mem_iff.2 hq),λq hq=>h.own q (p.mem_iff.2 hq),(p.map _).nodup_iff.1 h.nodup,h.mps⟩
theorem sub {l':List zb} (h:St w0 l w) (p:l'.Sublist l):St w0 l' w :=
 ⟨h.ext,λq hq=>h.blk q (p.mem hq),λq hq=>h.own q (p.mem hq),(p.map _).nodup h.nodup,h.mps⟩
theorem drop {a:List zb} (h:St w0 (a++l) w):St w0 l w:=h.sub (List.sublist_append_right _ _)
theorem drop1 {c:zb} (h:St w0 (c::l) w):St w0 l w:=h.sub (List.sublist_cons_self _ _)
theorem swap {a b:List zb} (h:St w0 (a++(b++l)) w):St w0 (b++(a++l)) w:=h.perm (dA _ _ _)
theorem swap3 {a b c:List zb} (h:St w0 (a++(b++(c++l))) w):St w0 (c++(a++(b++l))) w :=
 h.perm (((dA b c l).append_left a).trans (dA a c (b++l)))
theorem mid {a b:List zb} {c:zb} (h:St w0 (c::(a++b)) w):St w0 (a++(c::b)) w:=h.perm fH.symm
theorem unmid {a b:List zb} {c:zb} (h:St w0 (a++(c::b)) w):St w0 (c::(a++b)) w:=h.perm fH
theorem get {b:Nat} {cs:List Value} (h:St w0 l w) (i:Nat) (hi:l[i]? =some (b,cs)):Blk w b cs:=h.blk (b,cs) (mG hi)
theorem cell {b:Nat} {cs:List Value} {o:Nat} {v:Value} (h:St w0 l w) (i:Nat) (hi:l[i]? =some (b,cs)) (hv:cs[o]? =some v):w.cell? ⟨b,o,none⟩=some v:=(h.get i hi).cell hv
theorem put {b o:Nat} {cs vs:List Value} (h:St w0 l w) (i:Nat) (hi:l[i]? =some (b,cs)) (hw:w'=World.puts b o vs w):St w0 (l.set i (b,putL o vs cs)) w':=by
 subst hw;have hm:=mG hi;have hil:=(gSo hi).1;have hb:w0.w.heap.size<=b:=h.own _ hm
 have hmap:(l.set i (b,putL o vs cs)).map (·.1)=l.map (·.1):=by
  rw [cV];refine eI λj=> ?_;by_cases hj:i=j
  ·subst hj;rw [aL (by simpa using hil),aF,hi]; rfl
  ·rw [aT hj]
 have hnm:∀ q∈w0.mp,q.1≠b:=λq hq e=>by
  obtain⟨T,lo,hi',hb',_⟩:=h.blk _ hm;have hr:=h.mps.at_ q hq;rw [e] at hr;rw [hr] at hb';exact h.mps.solid q hq _ _ _ (aE hb')
 refine⟨zle _ h.ext hb,λp hp=> ?_,λp hp=> ?_,by rw [hmap]; exact h.nodup,⟨λq hq=>(zxe (hnm q hq) _ _ _).trans (h.mps.at_ q hq),h.mps.solid,h.mps.own,h.mps.nodup⟩⟩
 ·obtain⟨j,hj⟩:=bG.1 hp;by_cases hij:i=j
  ·subst hij;rw [aL hil] at hj;obtain rfl:=aE hj;exact(h.blk _ hm).puts vs
  ·rw [aT hij] at hj;refine(h.blk p (mG hj)).puts_ne λe=> ?_;refine hij ((dG (by simpa using hil) h.nodup).1 ?_);rw [aF,aF,hi,hj];exact congrArg some e.symm
 ·obtain⟨j,hj⟩:=bG.1 hp;by_cases hij:i=j
  ·subst hij;rw [aL hil] at hj;obtain rfl:=aE hj;exact hb
  ·rw [aT hij] at hj;exact h.own p (mG hj)
theorem put0 {b o:Nat} {cs vs:List Value} (h:St w0 ((b,cs)::l) w) (hw:w'=World.puts b o vs w):St w0 ((b,putL o vs cs)::l) w':=h.put 0 rfl hw
theorem put1 {b o:Nat} {cs vs:List Value} {c0:zb} (h:St w0 (c0::(b,cs)::l) w) (hw:w'=World.puts b o vs w):St w0 (c0::(b,putL o vs cs)::l) w':=h.put 1 rfl hw
theorem writable {b o k:Nat} {cs:List Value} (h:St w0 l w) (i:Nat) (hi:l[i]? =some (b,cs):=by rfl) (hk:o+k<=cs.length:=by exact aM rfl):zr w b o k:=(h.get i hi).writable hk
theorem shape {b:Nat} {cs:List Value} (h:St w0 ((b,cs)::l) w):∃ T,w.shape? b=some (T,cs.length):=by
 obtain⟨T,lo,hi,hb,_⟩:=h.get 0 rfl;exact⟨T,by unfold World.shape?; rw [hb]; simp⟩
theorem below (h:St w0 l w):RowKit.Below w0.w.heap.size w0.w w:=h.ext
theorem newObj {b:Nat} {o:Obj} (h:St w0 l w) (hb:b=w.heap.size) (hw:w'=w.alloc o) (ho:zsl o):St ⟨w0.w,(b,o)::w0.mp⟩ l w':=by
 have h':=h.keep (Ext.new hw);have hs:=h.ext.size;refine⟨h'.ext,h'.blk,h'.own,h'.nodup,⟨λq hq=> ?_,λq hq=> ?_,λq hq=> ?_,?_⟩⟩
 ·rcases aU.1 hq with rfl | hq
  ·subst hb; subst hw;show(w.heap.push o)[w.heap.size]? =some o;rw [Array.getElem?_push_size]
  ·exact h'.mps.at_ q hq
 ·rcases aU.1 hq with rfl | hq
  ·exact ho
  ·exact h'.mps.solid q hq
 ·rcases aU.1 hq with rfl | hq
  ·show w0.w.heap.size<=b; omega
  ·exact h'.mps.own q hq
 ·show((b::w0.mp.map (·.1))).Nodup;rw [dP];refine⟨λhm=> ?_,h.mps.nodup⟩;obtain⟨q,hq,he⟩:=aQ.1 hm;have:=(dD.1 (h.mps.at_ q hq)).1;omega
theorem turn {a b:List (Nat×Obj)} {r:Nat} {o o':Obj} {W:World} (h:St ⟨W,a++(r,o)::b⟩ l w) (hw:w'=w.putObj r o') (ho:zsl o'):St ⟨W,a++(r,o')::b⟩ l w':=by
 have hm:(r,o)∈a++(r,o)::b:=aH _ (aI ..);have hat:=h.mps.at_ _ hm;have hlt:=(dD.1 hat).1;have hWr:W.heap.size<=r:=h.mps.own _ hm;have hne:∀ k,k≠r->w'.heap[k]? =w.heap[k]? :=λk hk=>by subst hw; exact World.putObj_heap_other hk
 have hsz:w'.heap.size=w.heap.size:=by subst hw; exact World.putObj_size
 have hx:=h.ext.size;have hnod:((a++(r,o')::b).map (·.1))=((a++(r,o)::b).map (·.1)):=by rw [aR,aR]; rfl
 have hn2:=h.mps.nodup
 have hsplit:∀ q∈a++(r,o')::b,q=(r,o')\/(q∈a++(r,o)::b/\q.1≠r):=λq hq=>by
  have hn3:((a++(r,o)::b).map (·.1)).Nodup:=hn2;rw [aR,cG,cJ,dP] at hn3;rcases aG.1 hq with hq | hq
  ·refine .inr ⟨bB _ hq,λe=> ?_⟩;exact hn3.2.2 _ (aQ.2 ⟨q,hq,rfl⟩) _ (aI ..) e
  ·rcases aU.1 hq with rfl | hq
   ·exact .inl rfl
   ·refine .inr ⟨aH _ (aJ _ hq),λe=> ?_⟩;exact hn3.2.1.1 (aQ.2 ⟨q,hq,e⟩)
 refine⟨RowKit.Below.trans h.ext ⟨by subst hw; rfl,by subst hw; rfl,by subst hw; rfl,O_,λk hk=>hne k (λe=>by
     have hk:k<W.heap.size:=hk;omega)⟩,λp hp=> ?_,h.own,h.nodup,⟨λq hq=> ?_,λq hq=> ?_,λq hq=> ?_,by show((a++(r,o')::b).map (·.1)).Nodup; rw [hnod]; exact hn2⟩⟩
 ·obtain⟨T,lo,hi,hb,hf⟩:=h.blk p hp;refine⟨T,lo,hi,(hne p.1 λe=> ?_).trans hb,hf⟩;rw [e,hat] at hb;exact h.mps.solid _ hm _ _ _ (aE hb)
 ·rcases hsplit q hq with rfl | ⟨hq,hqr⟩
  ·subst hw; exact World.putObj_heap_same hlt
  ·exact(hne q.1 hqr).trans (h.mps.at_ q hq)
 ·rcases hsplit q hq with rfl | ⟨hq,hqr⟩
  ·exact ho
  ·exact h.mps.solid q hq
 ·rcases hsplit q hq with rfl | ⟨hq,hqr⟩
  ·exact hWr
  ·exact h.mps.own q hq
theorem forget {a b:List (Nat×Obj)} {W:World} (h:St ⟨W,a++b⟩ l w):St ⟨W,b⟩ l w :=
 ⟨h.ext,h.blk,h.own,h.nodup,⟨λq hq=>h.mps.at_ q (aH _ hq),λq hq=>h.mps.solid q (aH _ hq),λq hq=>h.mps.own q (aH _ hq),(by
  have h2:=h.mps.nodup;have h3:((a++b).map (·.1)).Nodup:=h2;rw [aR,cJ] at h3;exact h3.2.1)⟩⟩
theorem objAt {r:Nat} {o:Obj} (h:St w0 l w) (i:Nat) (hi:w0.mp[i]? =some (r,o)):w.heap[r]? =some o:=h.mps.at_ _ (mG hi)
theorem lt {b:Nat} {cs:List Value} (h:St w0 l w) (i:Nat) (hi:l[i]? =some (b,cs)):b<w.heap.size:=(h.get i hi).lt
end St
def RowC (sz:Nat) (s:Slc) (xs:List Value) (bs:List zb):Prop :=
 (s.ptr=none/\s.len=0/\s.cap=0/\xs=[]/\bs=[]) \/
 ∃ b pre rest suf,s.ptr=some ⟨b,pre.length,none⟩/\bs=[(b,pre++(xs++(rest++suf)))]/\xs.length=s.len*sz/\xs.length+rest.length=s.cap*sz/\s.len<=s.cap
namespace RowC
variable {sz:Nat} {s:Slc} {xs:List Value} {bs l:List zb} {w0:Base} {w:World}
theorem nil:RowC sz ⟨none,0,0⟩ [] []:= .inl ⟨rfl,rfl,rfl,rfl,rfl⟩
theorem new {b:Nat} {n:Nat} (h:xs.length=n*sz):RowC sz ⟨some ⟨b,0,none⟩,n,n⟩ xs [(b,xs)]:= .inr ⟨b,[],[],[],rfl,by simp,h,by simpa using h,bC _⟩
theorem len (h:RowC sz s xs bs):xs.length=s.len*sz:=by
 rcases h with ⟨_,h,_,rfl,_⟩ | ⟨_,_,_,_,_,_,h,_,_⟩
 ·simp [h]
 ·exact h
theorem cap_le (h:RowC sz s xs bs):s.len<=s.cap:=by
 rcases h with ⟨_,h,_,_,_⟩ | ⟨_,_,_,_,_,_,_,_,h⟩ <;> omega
theorem src (h:RowC sz s xs bs) (st:St w0 (bs++l) w):zj w s sz xs:=by
 rcases h with ⟨h1,h2,h3,rfl,_⟩ | ⟨b,pre,rest,suf,hp,rfl,h1,h2,h3⟩
 ·exact⟨by simp [h2],.inl rfl⟩
 ·refine⟨h1,.inr ?_⟩;rw [hp];refine⟨rfl,(st.get 0 rfl).cells λi v hi=> ?_⟩;have hl:=(gSo hi).1;show(pre++(xs++(rest++suf)))[pre.length+i]? =some v;rw [aS O_,aO O_];rw [show pre.length+i - pre.length=i from by omega];exact hi
theorem append {by_ k:Nat} {e:TypeId} {zs src:List Value} {K:Slc->WP} (h:RowC sz s xs bs) (st:St w0 (bs++l) w)
    (hk:src.length=k*sz) (h1:zv src=true) (hz:zs.length=sz) (hcap:(s.len+k)*by_<=140737488355328)
    (hK:∀ s' bs' w',RowC sz s' (xs++src) bs'->St w0 (bs'++l) w'->s'.len=s.len+k->K s' w'):zG sz by_ e zs s src k w K:=by
 refine⟨λhc=> ?_,λhc=>⟨growslice_fits hc hcap,xs,h.src st,λcap b w' hcl _ hb hw=> ?_⟩⟩
 ·rcases h with ⟨hp,hl,hcz,rfl,rfl⟩ | ⟨b,pre,rest,suf,hp,rfl,hx,hr,hle⟩
  ·have hk0:k=0:=O_
   have hs:src=[]:=by
    have:src.length=0:=by rw [hk,hk0,fG]
    exact aX this
   subst hs;exact .inl ⟨rfl,hK _ [] _ (.inl ⟨hp,by simp [hl,hk0],hcz,rfl,rfl⟩) st rfl⟩
  ·have hroom:src.length<=rest.length:=by
     have:(s.len+k)*sz<=s.cap*sz:=bV _ hc;rw [cR] at this;omega
   have hlen:poff s.ptr+s.len*sz=(pre++xs).length:=by rw [hp]; show pre.length+s.len*sz=_; simp; omega
   have hpb:pblk s.ptr=b:=by rw [hp]; rfl
   refine .inr ⟨by rw [hp]; rfl,?_,h1,λw' hw=> ?_⟩
   ·rw [hlen,hpb];exact st.writable 0 rfl (by simp; omega)
   ·rw [hlen,hpb] at hw;have hn:=st.put0 hw
    have e1:pre++(xs++(rest++suf))=(pre++xs)++rest.take src.length++(rest.drop src.length++suf):=by
     conv=>lhs; rw [<-bM src.length rest]
     simp only [aN]
    rw [e1,zdb _ _ _ _ (by simp; omega)] at hn;refine hK _ [(b,pre++((xs++src)++(rest.drop src.length++suf)))] _ (.inr ⟨b,pre,rest.drop src.length,suf,hp,rfl,?_,?_,hc⟩) ?_ rfl
    ·simp [hx,hk,cR]
    ·simp; omega
    ·have e2:pre++((xs++src)++(rest.drop src.length++suf))=(pre++xs)++src++(rest.drop src.length++suf):=by simp only [aN]
     rw [e2]; exact hn
 ·have hE:Ext w w.drew:=Qt.ext ⟨1,rfl⟩;have hbs:b=w.drew.heap.size:=hb;have st':=(st.drop.keep hE).alloc hbs hw;refine hK _ [(b,xs++src++(zp (cap - (s.len+k)) zs).toList)] _ (.inr ⟨b,[],(zp (cap - (s.len+k)) zs).toList,[],rfl,by simp,?_,?_,hcl⟩) st' rfl
  ·simp only [aB,hk,h.len,cR]
  ·simp only [aB,hk,h.len,zp];simp only [eL,dX,hz,List.sum_replicate_nat];rw [<-cR,<-cR];congr 1;show s.len+k+(cap - (s.len+k))=cap;omega
theorem cut {lo hi mx:Int} (h:RowC sz s xs bs) (h0:0<=lo) (h1:lo<=hi) (h2:hi<=((s.len:Nat):Int)) (h3:hi<=mx) (h4:mx<=((s.cap:Nat):Int)) :
    RowC sz (Slc.cut sz s lo hi mx) ((xs.drop (lo.toNat*sz)).take ((hi.toNat - lo.toNat)*sz)) bs:=by
 rcases h with ⟨hp,hl,hcz,rfl,rfl⟩ | ⟨b,pre,rest,suf,hp,rfl,hx,hr,hle⟩
 ·refine .inl ⟨?_,?_,?_,by simp,rfl⟩
  ·unfold Slc.cut; rw [hp]; simp
  ·unfold Slc.cut; simp only; omega
  ·unfold Slc.cut; simp only; omega
 ·obtain⟨lo,rfl⟩:=toN h0;obtain⟨hi,rfl⟩:=toN (show 0<=hi by omega);obtain⟨mx,rfl⟩:=toN (show 0<=mx by omega);simp only [tN] at *
  have hlo:lo*sz<=hi*sz:=bV _ O_;have hhi:hi*sz<=s.len*sz:=bV _ O_;have hmx:hi*sz<=mx*sz:=bV _ O_;have hcp:mx*sz<=s.cap*sz:=bV _ O_;have hsub:(hi - lo)*sz=hi*sz - lo*sz:=gG _ _ _;have hsub2:(mx - lo)*sz=mx*sz - lo*sz:=gG _ _ _
  have hxl:((xs.drop (lo*sz)).take ((hi - lo)*sz)).length=(hi - lo)*sz:=by
   rw [aZ,bJ,hsub]; omega
  by_cases hm:mx=lo
  ·subst hm;have:hi=mx:=O_;subst this;refine .inr ⟨b,pre,[],xs++(rest++suf),?_,?_,?_,?_,?_⟩
   ·unfold Slc.cut; simp [hp]
   ·rw [cY,fG,gO]; simp
   ·unfold Slc.cut; simp
   ·unfold Slc.cut; simp
   ·unfold Slc.cut; simp
  ·refine .inr ⟨b,pre++xs.take (lo*sz),((xs++rest).drop (hi*sz)).take ((mx - hi)*sz),(xs++rest).drop (mx*sz)++suf,?_,?_,?_,?_,?_⟩
   ·unfold Slc.cut;simp only [tN];rw [if_neg hm,hp];simp only [bY,addr_add,aB,aZ,aC,Addr.mk.injEq,true_and,and_true];omega
   ·congr 2;have hsub3:(mx - hi)*sz=mx*sz - hi*sz:=gG _ _ _
    have e1:xs++rest=xs.take (lo*sz)++((xs.drop (lo*sz)).take ((hi - lo)*sz)++(((xs++rest).drop (hi*sz)).take ((mx - hi)*sz)++(xs++rest).drop (mx*sz))):=by
     have a1:((xs++rest).drop (hi*sz)).take ((mx - hi)*sz)++(xs++rest).drop (mx*sz)=(xs++rest).drop (hi*sz):=by
      conv=>rhs; rw [<-bM ((mx - hi)*sz) ((xs++rest).drop (hi*sz))]
      rw [fS,show hi*sz+(mx - hi)*sz=mx*sz from by omega]
     have a2:(xs.drop (lo*sz)).take ((hi - lo)*sz)++(xs++rest).drop (hi*sz)=(xs++rest).drop (lo*sz):=by
      conv=>rhs; rw [<-bM ((hi - lo)*sz) ((xs++rest).drop (lo*sz))]
      rw [fS,show lo*sz+(hi - lo)*sz=hi*sz from by omega,List.drop_append_of_le_length (by omega:lo*sz<=xs.length),dL (by rw [bJ]; omega)]
     rw [a1,a2]
     conv=>lhs; rw [<-bM (lo*sz) (xs++rest)]
     rw [dL O_]
    rw [<-aN xs,e1];simp only [aN];rw [<-e1]
   ·rw [hxl]; unfold Slc.cut; simp
   ·rw [hxl,aZ,bJ,aB,hr];have hsub3:(mx - hi)*sz=mx*sz - hi*sz:=gG _ _ _;unfold Slc.cut;simp only [tN];omega
   ·unfold Slc.cut; simp only [tN]; omega
theorem over {lo:Nat} {src:List Value} {K:WP} (h:RowC 1 s xs bs) (st:St w0 (bs++l) w) (h1:lo+src.length<=s.len) (ho:zv src=true)
    (hK:∀ bs' w',RowC 1 s (xs.take lo++src++xs.drop (lo+src.length)) bs'->St w0 (bs'++l) w'->K w'):zRc (Slc.cut 1 s (lo:Int) ((s.len:Nat):Int) ((s.cap:Nat):Int)) src w K:=by
 cases hsrc:src with
 | nil =>
  subst hsrc;refine .inl ⟨rfl,hK bs w ?_ st⟩;simpa using h
 | cons v vs =>
  rw [<-hsrc];have hpos:0<src.length:=by rw [hsrc]; simp
  rcases h with ⟨hp,hl,hcz,rfl,rfl⟩ | ⟨b,pre,rest,suf,hp,rfl,hx,hr,hle⟩
  ·omega
  ·have hptr:(Slc.cut 1 s (lo:Int) ((s.len:Nat):Int) ((s.cap:Nat):Int)).ptr=some ⟨b,pre.length+lo,none⟩:=by
     unfold Slc.cut;simp only [tN];rw [if_neg O_,hp];simp [addr_add]
   right;rw [hptr];have hx1:xs.length=s.len:=O_
   have e0:xs=xs.take lo++((xs.drop lo).take src.length++xs.drop (lo+src.length)):=by
    conv=>lhs; rw [<-bM lo xs,<-bM src.length (xs.drop lo),fS]
   refine⟨rfl,st.writable 0 rfl (by show pre.length+lo+src.length<=_; simp; omega),ho,λw' hw=> ?_⟩;have hn:=st.put0 hw
   have e1:pre++(xs++(rest++suf))=(pre++xs.take lo)++(xs.drop lo).take src.length++(xs.drop (lo+src.length)++(rest++suf)):=by
    conv=>lhs; rw [e0]
    simp only [aN]
   have e2:poff (some ⟨b,pre.length+lo,none⟩:OA)=(pre++xs.take lo).length:=by
    show pre.length+lo=_;rw [aB,aZ]; omega
   rw [e1,e2,zdb _ _ _ _ (by rw [aZ,bJ]; omega)] at hn;refine hK [(b,pre++((xs.take lo++src++xs.drop (lo+src.length))++(rest++suf)))] w' (.inr ⟨b,pre,rest,suf,hp,rfl,?_,?_,hle⟩) ?_
   ·simp only [aB,aZ,bJ]; omega
   ·simp only [aB,aZ,bJ]; omega
   ·have e3:pre++((xs.take lo++src++xs.drop (lo+src.length))++(rest++suf))=(pre++xs.take lo)++src++(xs.drop (lo+src.length)++(rest++suf)):=by simp only [aN]
    rw [e3]; exact hn
end RowC
theorem zj.cut {w:World} {s:Slc} {sz:Nat} {src:List Value} {lo hi mx:Int} (h:zj w s sz src) (h0:0<=lo) (h1:lo<=hi) (h2:hi<=((s.len:Nat):Int)) (h3:hi<=mx) :
    zj w (Slc.cut sz s lo hi mx) sz ((src.drop (lo.toNat*sz)).take ((hi.toNat - lo.toNat)*sz)):=by
 obtain⟨lo,rfl⟩:=toN h0;obtain⟨hi,rfl⟩:=toN (show 0<=hi by omega);obtain⟨mx,rfl⟩:=toN (show 0<=mx by omega);simp only [tN];obtain⟨hl,hc⟩:=h;have hlo:lo*sz<=hi*sz:=bV _ O_;have hhi:hi*sz<=s.len*sz:=bV _ O_;have hsub:(hi - lo)*sz=hi*sz - lo*sz:=gG _ _ _
 have hxl:((src.drop (lo*sz)).take ((hi - lo)*sz)).length=(hi - lo)*sz:=by
  rw [aZ,bJ,hsub]; omega
 refine⟨by rw [hxl]; unfold Slc.cut; simp,?_⟩;by_cases he:(src.drop (lo*sz)).take ((hi - lo)*sz)=[]
 ·exact .inl he
 ·right;rcases hc with hc | ⟨ha,hc⟩
  ·exact absurd (by rw [hc]; simp) he
  ·have hlh:lo≠hi:=λe=>he (by subst e; simp);have hp:s.ptr=some ⟨pblk s.ptr,poff s.ptr,none⟩:=ha
   have hq:(Slc.cut sz s (lo:Int) (hi:Int) (mx:Int)).ptr=some ⟨pblk s.ptr,poff s.ptr+lo*sz,none⟩:=by
    unfold Slc.cut;simp only [tN];rw [if_neg O_];generalize pblk s.ptr=pb at *
    generalize poff s.ptr=po at *
    rw [hp]; simp [addr_add]
   rw [hq];refine⟨rfl,zy.2 λi v hi'=> ?_⟩;show w.cell? ⟨pblk s.ptr,poff s.ptr+lo*sz+i,none⟩=some v;rw [eY];refine zy.1 hc _ v ?_;have hil:=(gSo hi').1;rw [hxl] at hil;rw [dJ,if_pos hil,dK] at hi';exact hi'
theorem zj.getN {α:Type} {f:α->List Value} {w:World} {s:Slc} {sz:Nat} {l:List α} (h:zj w s sz (l.flatMap f)) (hf:∀ x,(f x).length=sz) (hz:0<sz) {i:Int} (h0:0<=i) (h1:i<((s.len:Nat):Int)) :
    IsAt s.ptr/\∃ x,l[i.toNat]? =some x/\zf w (pblk s.ptr) (poff s.ptr+i.toNat*sz) (f x):=by
 have hfl:∀ l:List α,(l.flatMap f).length=l.length*sz:=λl=>by
  induction l with
  | nil=>simp
  | cons x l ih=>rw [aY,aB,ih,hf,aV,cR]; omega
 have hl:l.length=s.len:=by
  have:=h.1;rw [hfl] at this;exact fD hz this
 obtain⟨a,c⟩:=zsb.at_ h O_ hz;have hlt:i.toNat<l.length:=O_;refine⟨a,l[i.toNat],aA hlt,zy.2 λj v hj=> ?_⟩
 have e1:l.flatMap f=(l.take i.toNat).flatMap f++(f l[i.toNat]++(l.drop (i.toNat+1)).flatMap f):=by
  conv=>lhs; rw [<-bM i.toNat l,bO hlt,bE,aY]
 rw [eY];refine zy.1 c _ v ?_;have e2:((l.take i.toNat).flatMap f).length=i.toNat*sz:=by rw [hfl,aZ,eV O_]
 rw [e1,aS O_,e2,show i.toNat*sz+j - i.toNat*sz=j from by omega,aO (gSo hj).1];exact hj
theorem zj.pre {w:World} {s:Slc} {sz k:Nat} {src:List Value} (h:zj w s sz src) (hk:k<=s.len):zj w ⟨s.ptr,k,s.cap⟩ sz (src.take (k*sz)):=by
 obtain⟨hl,hc⟩:=h;have hm:k*sz<=s.len*sz:=bV _ hk;refine⟨by rw [aZ]; show min (k*sz) src.length=k*sz; omega,?_⟩;rcases hc with hc | ⟨ha,hc⟩
 ·exact .inl (by rw [hc]; simp)
 ·refine .inr ⟨ha,zy.2 λi v hi=>zy.1 hc i v ?_⟩;have hil:=(gSo hi).1;rw [aZ] at hil;rw [dJ,if_pos O_] at hi;exact hi
theorem zc {α:Type} {f:α->List Value} {sz:Nat} (hf:∀ x,(f x).length=sz):∀ l:List α,(l.flatMap f).length=l.length*sz
 | []=>by simp
 | x::l=>by rw [aY,aB,zc hf l,hf,aV,cR]; omega
theorem zyg {α:Type} {f:α->List Value} {Pr:α->Prop} {w:World} {s:Slc} {sz by_:Nat} {E:List Value->Prop} (h:OkSl w s sz by_ E) (hE:∀ es,E es->∃ x,es=f x/\Pr x)
    (hf:∀ x,(f x).length=sz) (hz:0<sz):∃ l:List α,zj w s sz (l.flatMap f)/\s.len<=s.cap/\s.cap*by_<=140737488351232/\l.length=s.len/\∀ x∈l,Pr x:=by
 rcases h with ⟨h1,h2,h3⟩ | ⟨h1,h2,h3,a,hp,hi⟩
 ·exact⟨[],⟨by simp [h2],.inl rfl⟩,O_,by simp [h3],by simp [h2],λx hx=>by cases hx⟩
 ·by_cases hl0:s.len=0
  ·exact⟨[],⟨by simp [hl0],.inl rfl⟩,h1,h3,by simp [hl0],λx hx=>by cases hx⟩
  have hspot:a.spot=none:=by
   obtain⟨es0,hes0,_⟩:=hi 0 O_;rw [fG] at hes0;obtain⟨_,hlen,hc⟩:=World.cells?_some hes0;have h0:=hc 0 O_
   have:w.cell? a=some (es0[0]'O_):=by
    have e:a.add 0=a:=rfl;rw [e,aA O_] at h0;exact h0
   unfold World.cell? at this;split at this
   ·split at this
    ·cases this
    ·rename_i hs; simpa using hs
   ·cases this
  have hadd:∀ k,a.add k=⟨a.block,a.off+k,none⟩:=λk=>by
   unfold Addr.add;split
   ·rename_i h0; subst h0; cases a; simp only at hspot; subst hspot; rfl
   ·rfl
  have key:∀ i,i<s.len->∃ x,zf w a.block (a.off+i*sz) (f x)/\Pr x:=by
   intro i hlt;obtain⟨es,hes,he⟩:=hi i O_;obtain⟨x,rfl,hx⟩:=hE es he;obtain⟨_,hlen,hc⟩:=World.cells?_some hes;refine⟨x,zy.2 λj v hj=> ?_,hx⟩;have hjl:=(gSo hj).1;have h0:=hc j O_;rw [hj,hadd] at h0;have e:(⟨a.block,a.off+i*sz,none⟩:Addr).add j=⟨a.block,a.off+i*sz+j,none⟩:=addr_add _ _ _;rw [e] at h0;exact h0
  obtain⟨l,hl,hp'⟩:=zsf (α:=α) (n:=s.len) key;have ha:a=⟨a.block,a.off,none⟩:=by cases a; simp only at hspot; subst hspot; rfl
  refine⟨l,⟨by rw [zc hf,hl],.inr ?_⟩,h1,h3,hl,λx hx=> ?_⟩
  ·rw [hp];refine⟨by show some a=some _; rw [ha]; rfl,?_⟩
   have hall:∀(m:List α) (o:Nat),(∀ i x,m[i]? =some x->zf w a.block (o+i*sz) (f x))->zf w a.block o (m.flatMap f):=by
    intro m
    induction m with
    | nil=>intro o _; trivial
    | cons y ys ih =>
     intro o hm;rw [aY];refine zy.2 λj v hj=> ?_;by_cases hjl:j<(f y).length
     ·rw [aO hjl] at hj;have:=zy.1 (hm 0 y rfl) j v hj;simpa using this
     ·rw [aS O_] at hj
      have h2:=zy.1 (ih (o+sz) λi x hx=>by
       have:=hm (i+1) x (by simpa using hx);rw [cR,Nat.one_mul] at this;rw [show o+sz+i*sz=o+(i*sz+sz) from by omega]; exact this) _ v hj
      rw [hf] at h2 hjl;rw [show o+sz+(j - sz)=o+j from by omega] at h2;exact h2
   exact hall l a.off λi x hx=>(hp' i x hx).1
  ·obtain⟨i,hi'⟩:=bG.1 hx;exact(hp' i x hi').2
theorem St.rot {w0:Base} {w:World} {a l:List zb} (h:St w0 (a++l) w):St w0 (l++a) w:=h.perm List.perm_append_comm
theorem St.skip2 {w0:Base} {w:World} {a b l:List zb} (h:St w0 (a++(b++l)) w):St w0 (a++l) w:=h.sub (List.Sublist.append (gU a) (List.sublist_append_right b l))
theorem St.join {w0:Base} {w1 w2:World} {a l:List zb} (h:St w0 l w1) (h2:St ⟨w1,[]⟩ a w2):St w0 (a++l) w2:=by
 have h':=h.keep h2.ext;have hs:=h.ext.size;refine⟨h'.ext,λp hp=> ?_,λp hp=> ?_,?_,h'.mps⟩
 ·rcases aG.1 hp with hp | hp
  ·exact h2.blk p hp
  ·exact h'.blk p hp
 ·rcases aG.1 hp with hp | hp
  ·have h3:w1.heap.size<=p.1:=h2.own p hp;omega
  ·exact h'.own p hp
 ·rw [aR,cJ];refine⟨h2.nodup,h.nodup,λx hx y hy e=> ?_⟩;obtain⟨p,hp,rfl⟩:=aQ.1 hx;obtain⟨q,hq,rfl⟩:=aQ.1 hy;have h1:w1.heap.size<=p.1:=h2.own p hp;have h3:=(h.blk q hq).lt;omega
def Plain (w:World) (b:Nat):Prop:=∀ o,w.frozen? ⟨b,o,none⟩=false
theorem Plain.new {w w1:World} {b:Nat} {vs:List Value} {T:TypeId} (hb:b=w.heap.size) (hw:w1=w.alloc (.cells vs.toArray T (0,0))):Plain w1 b:=by
 intro o;subst hb; subst hw;unfold World.frozen? World.alloc;simp
theorem Plain.ext {w w1:World} {b:Nat} (h:Plain w b) (e:Ext w w1) (hb:b<w.heap.size):Plain w1 b:=by
 intro o;have:=h o;unfold World.frozen? at this ⊢;have e5:=e.block b hb;simp only at this ⊢;rw [e5];exact this
theorem ztl {w:World} {s:Slc} {sz k:Nat} {src:List Value} (h:zj w s sz src) (hk:k<=s.len):zsb w s k sz (src.take (k*sz)):=by
 obtain⟨h1,h2⟩:=h.pre hk;exact⟨h1,h2⟩
theorem zJ {w w1:World} {b:Nat} {T:TypeId} {vs:List Value} {n c sz:Nat} (hb:b=w.heap.size) (hw:w1=w.alloc (.cells vs.toArray T (0,0))) (hn:vs.length=n*sz) :
    zj w1 ⟨some ⟨b,0,none⟩,n,c⟩ sz vs:=⟨hn,.inr ⟨rfl,(Blk.new hb hw).all⟩⟩
section
variable {sz:Nat} {s:Slc} {xs:List Value} {bs l:List zb} {w0:Base} {w:World}
theorem Slc.cut_len {lo hi mx:Int} (h0:0<=lo) (h1:lo<=hi):(Slc.cut sz s lo hi mx).len=hi.toNat - lo.toNat:=by unfold Slc.cut; rfl
theorem RowC.overN {lo m:Nat} {src:List Value} {hi mx:Int} {K:WP} (h:RowC sz s xs bs) (st:St w0 (bs++l) w) (hm:src.length=m*sz) (hm0:0<m) (hz:0<sz) (h1:lo+m<=s.len) (hh:hi=((s.len:Nat):Int)) (hx:mx=((s.cap:Nat):Int)) (ho:zv src=true)
    (hK:∀ bs' w',RowC sz s (xs.take (lo*sz)++src++xs.drop (lo*sz+src.length)) bs'->St w0 (bs'++l) w'->K w'):zRc (Slc.cut sz s (lo:Int) hi mx) src w K:=by
 subst hh; subst hx;have hpos:0<src.length:=by rw [hm]; exact Nat.mul_pos hm0 hz
 rcases h with ⟨hp,hl,hcz,rfl,rfl⟩ | ⟨b,pre,rest,suf,hp,rfl,hx,hr,hle⟩
 ·omega
 ·have hptr:(Slc.cut sz s (lo:Int) ((s.len:Nat):Int) ((s.cap:Nat):Int)).ptr=some ⟨b,pre.length+lo*sz,none⟩:=by
    unfold Slc.cut;simp only [tN];rw [if_neg O_,hp];simp [addr_add]
  right;rw [hptr];have hle2:(lo+m)*sz<=s.len*sz:=bV _ h1;rw [cR] at hle2
  have e0:xs=xs.take (lo*sz)++((xs.drop (lo*sz)).take src.length++xs.drop (lo*sz+src.length)):=by
   conv=>lhs; rw [<-bM (lo*sz) xs,<-bM src.length (xs.drop (lo*sz)),fS]
  refine⟨rfl,st.writable 0 rfl (by show pre.length+lo*sz+src.length<=_; simp; omega),ho,λw' hw=> ?_⟩;have hn:=st.put0 hw
  have e1:pre++(xs++(rest++suf))=(pre++xs.take (lo*sz))++(xs.drop (lo*sz)).take src.length++(xs.drop (lo*sz+src.length)++(rest++suf)):=by
   conv=>lhs; rw [e0]
   simp only [aN]
  have e2:poff (some ⟨b,pre.length+lo*sz,none⟩:OA)=(pre++xs.take (lo*sz)).length:=by
   show pre.length+lo*sz=_;rw [aB,aZ]; omega
  rw [e1,e2,zdb _ _ _ _ (by rw [aZ,bJ]; omega)] at hn;refine hK [(b,pre++((xs.take (lo*sz)++src++xs.drop (lo*sz+src.length))++(rest++suf)))] w' (.inr ⟨b,pre,rest,suf,hp,rfl,?_,?_,hle⟩) ?_
  ·simp only [aB,aZ,bJ]; omega
  ·simp only [aB,aZ,bJ]; omega
  ·have e3:pre++((xs.take (lo*sz)++src++xs.drop (lo*sz+src.length))++(rest++suf))=(pre++xs.take (lo*sz))++src++(xs.drop (lo*sz+src.length)++(rest++suf)):=by simp only [aN]
   rw [e3]; exact hn
theorem RowC.trim {ps ds:List Value} (h:RowC sz s (ps++ds) bs) (hp:ps.length=s.len*sz):RowC sz s ps bs:=by
 have hl:=h.len;rw [aB] at hl;have:ds=[]:=aX O_;rw [this,bZ] at h;exact h
theorem RowC.extend {n:Nat} (h:RowC sz s xs bs) (h0:s.len<=n) (h1:n<=s.cap) (hc:0<s.cap):∃ js,js.length=(n - s.len)*sz/\RowC sz ⟨s.ptr,n,s.cap⟩ (xs++js) bs:=by
 rcases h with ⟨hp,hl,hcz,rfl,rfl⟩ | ⟨b,pre,rest,suf,hp,rfl,hx,hr,hle⟩
 ·omega
 ·have hn:n*sz<=s.cap*sz:=bV _ h1;have hl:s.len*sz<=n*sz:=bV _ h0;have hsub:(n - s.len)*sz=n*sz - s.len*sz:=gG _ _ _;refine⟨rest.take ((n - s.len)*sz),by rw [aZ]; omega,.inr ⟨b,pre,rest.drop ((n - s.len)*sz),suf,hp,?_,?_,?_,h1⟩⟩
  ·congr 2
   conv=>lhs; rw [<-bM ((n - s.len)*sz) rest]
   simp only [aN]
  ·simp only [aB,aZ]; show _=n*sz; omega
  ·simp only [aB,aZ,bJ]; show _=s.cap*sz; omega
end
abbrev Wr:=T_i
def wV (x:Wr):List Value:=[Vt x.Key,Vt x.Val,Vo x.Drop]
def zYc (x:Wr):Prop:=1<=x.Key.size/\x.Key.size<=64/\x.Val.size<=1024/\(x.Drop=true->x.Val.size=0)
instance (x:Wr):Decidable (zYc x):=inferInstanceAs (Decidable (_/\_))
def okT (n:Int) (ws:List Wr):Prop:=1<=n/\n<=65536/\ws.length<=32/\∀ x∈ws,zYc x
instance (n:Int) (ws:List Wr):Decidable (okT n ws):=inferInstanceAs (Decidable (_/\_))
theorem zcd (s:ByteArray):(s.toList==Be.toList)=decide (s.size=0):=by
 rw [ByteArray.toList_eq,ByteArray.toList_eq];have:s.data.toList.length=s.size:=by simp
 cases h:s.data.toList with
 | nil=>rw [h] at this; have h0:s.size=0:=by simpa using this.symm
        rw [h0]; rfl
 | cons c r=>rw [h] at this; have h0:¬ s.size=0:=by simp at this; omega
             rw [decide_eq_false h0]; rfl
theorem zjp {w:World} {s:Slc} {ws:List Wr} {i:Int} (h:zj w s 3 (ws.flatMap wV)) (h0:0<=i) (h1:i<((s.len:Nat):Int)) :
    IsAt s.ptr/\∃ x,ws[i.toNat]? =some x/\zf w (pblk s.ptr) (poff s.ptr+i.toNat*3) (wV x):=zj.getN h (λ_=>rfl) D_ h0 h1
theorem zye {w:World} {s:Slc} {ws:List Wr} (h:zj w s 3 (ws.flatMap wV)):s.len=ws.length:=by
 have:=h.1;have hf:∀ x:Wr,(wV x).length=3:=λ_=>rfl;rw [zc hf] at this;exact(fD D_ this).symm
theorem zze (x:Wr):(wV x).length=3:=rfl
theorem znj (v:Wr):[v].flatMap wV=wV v:=by rw [aY,dW,bZ]
instance decWr:DecidableEq Wr:=λx y =>
 if h:x.Key=y.Key/\x.Val=y.Val/\x.Drop=y.Drop then isTrue (by cases x; cases y; simp only at h; obtain⟨h1,h2,h3⟩:=h; rw [h1,h2,h3]) else isFalse λe=>h (by rw [e]; exact⟨rfl,rfl,rfl⟩)
theorem zhh {w:World} {s:Slc} {ws:List Wr} {i:Nat} (h:zj w s 3 (ws.flatMap wV)) (hp:i<s.len):IsAt s.ptr/\∃ x,ws[i]? =some x/\zf w (pblk s.ptr) (poff s.ptr+i*3) (wV x):=by
 have:=zjp (i:=(i:Int)) h O_ O_;rw [tN] at this; exact this
abbrev txW (n:Int) (s:Slc):List Value:=[Vi n,Vs s]
abbrev Tx:=Int×List Wr
def chkL:Nat->List Tx->Int
 | _,[]=>0
 | i,t::r=>if okT t.1 t.2 then(if t.1=(i:Int) then chkL (i+1) r else 6) else 1
theorem zpc:∀ {ts:List Tx} {i:Nat},chkL i ts=0->∀ {k:Nat} {t:Tx},ts[k]? =some t->okT t.1 t.2/\t.1=((i+k:Nat):Int)
 | [],_,_,k,t,h=>by simp at h
 | x::r,i,hc,k,t,h=>by
  unfold chkL at hc;by_cases h1:okT x.1 x.2
  ·rw [if_pos h1] at hc;by_cases h2:x.1=(i:Int)
   ·rw [if_pos h2] at hc;cases k with
    | zero=>have:x=t:=by simpa using h
            subst this; exact⟨h1,h2⟩
    | succ k =>
     have h':r[k]? =some t:=by simpa using h
     obtain⟨a,b⟩:=zpc hc h';exact⟨a,by rw [b]; omega⟩
   ·rw [if_neg h2] at hc; cases hc
  ·rw [if_neg h1] at hc; cases hc
structure LAt (w:World) (sl:Slc) (ts:List Tx) (sls:List Slc):Prop where
 len:ts.length=sls.length
 src:zj w sl 2 ((ts.zip sls).flatMap λp=>txW p.1.1 p.2)
 wr:∀(i:Nat) (t:Tx) (s:Slc),ts[i]? =some t->sls[i]? =some s->zj w s 3 (t.2.flatMap wV)
 cp:∀ s∈sls,s.len<=s.cap/\s.len*40<=140737488351232
theorem LAt.ext {w w':World} {sl:Slc} {ts:List Tx} {sls:List Slc} (h:LAt w sl ts sls) (e:Ext w w'):LAt w' sl ts sls :=
 ⟨h.len,e.src h.src,λi t s h1 h2=>e.src (h.wr i t s h1 h2),h.cp⟩
theorem LAt.slen {w:World} {sl:Slc} {ts:List Tx} {sls:List Slc} (h:LAt w sl ts sls):sl.len=ts.length:=by
 have:=h.src.1;rw [zc (sz:=2) (λ_=>rfl),List.length_zip,<-h.len,Nat.min_self] at this;omega
theorem LAt.get {w:World} {sl:Slc} {ts:List Tx} {sls:List Slc} (h:LAt w sl ts sls) {p:Nat} (hp:p<sl.len) :
    IsAt sl.ptr/\∃ t s,ts[p]? =some t/\sls[p]? =some s/\zf w (pblk sl.ptr) (poff sl.ptr+p*2) (txW t.1 s)/\zj w s 3 (t.2.flatMap wV)/\s.len<=s.cap/\s.len*40<=140737488351232:=by
 obtain⟨a,x,hx,hc⟩:=zj.getN h.src (λ_=>rfl) D_ (i:=(p:Int)) O_ O_;rw [tN] at hx hc;have hl:=h.slen;have hll:=h.len;have h1:ts[p]? =some (ts[p]'O_):=aA O_;have h2:sls[p]? =some (sls[p]'O_):=aA O_;rw [eA (z:=(ts[p]'O_,sls[p]'O_)) |>.2 ⟨h1,h2⟩] at hx;cases hx;have hm:=h.cp _ (mG h2);exact⟨a,_,_,h1,h2,hc,h.wr p _ _ h1 h2,hm.1,hm.2⟩
theorem zoj {w:World} {t:T_c} (h:O_a w t):∃ ws:List Wr,zj w t.Writes 3 (ws.flatMap wV)/\t.Writes.len<=t.Writes.cap/\t.Writes.cap*40<=140737488351232/\∀ x∈ws,x.Key.size<=140737488351232/\x.Val.size<=140737488351232:=by
 obtain⟨ws,h1,h2,h3,h4,h5⟩:=zyg (f:=wV) (Pr:=λx=>x.Key.size<=140737488351232/\x.Val.size<=140737488351232) h.2 (λes ⟨e,h,h'⟩=>⟨e,h,h'.1,h'.2.1⟩) (λ_=>rfl) D_;exact⟨ws,h1,h2,h3,h5⟩
theorem zTi {w:World}:∀ {es:List T_c},(∀ e∈es,O_a w e)->∃ ts:List Tx,ts.length=es.length/\((ts.zip (es.map (·.Writes))).flatMap λp=>txW p.1.1 p.2)=(es.flatMap λe=>txW e.Number e.Writes) /\
    (∀(i:Nat) (t:Tx) (s:Slc),ts[i]? =some t->(es.map (·.Writes))[i]? =some s->zj w s 3 (t.2.flatMap wV))/\∀ s∈es.map (·.Writes),s.len<=s.cap/\s.len*40<=140737488351232
 | [],_=>⟨[],rfl,rfl,λi t s h=>by simp at h,λs h=>by simp at h⟩
 | e::es,h=>by
  obtain⟨ts,h1,h2,h3,h4⟩:=zTi (es:=es) λx hx=>h x (aJ _ hx);obtain⟨ws,g1,g2,g3,g4⟩:=zoj (h e (aI ..));refine⟨(e.Number,ws)::ts,by simp [h1],?_,λi t s hi hs=> ?_,λs hs=> ?_⟩
  ·rw [cG,gP,aY,aY,h2]
  ·cases i with
   | zero =>
    have a:(e.Number,ws)=t:=by simpa using hi
    have b:e.Writes=s:=by simpa using hs
    subst a; subst b; exact g1
   | succ i=>exact h3 i t s (by simpa using hi) (by simpa using hs)
  ·rw [cG] at hs;rcases aU.1 hs with rfl | hs
   ·exact⟨g2,O_⟩
   ·exact h4 s (by simpa using hs)
theorem zkp {w:World} {s:Slc} (h:OkSl w s 2 32 (λes=>∃ e_:T_c,es=txW e_.Number e_.Writes/\(O_a w e_))):∃ ts sls,LAt w s ts sls/\s.len<=4398046511104:=by
 obtain⟨es,hs,hcl,hcap,hlen,hok⟩:=zyg (f:=λt:T_c=>txW t.Number t.Writes) h (λes ⟨e,h,h'⟩=>⟨e,h,h'⟩) (λ_=>rfl) D_;obtain⟨ts,h1,h2,h3,h4⟩:=zTi hok;exact⟨ts,es.map (·.Writes),⟨by simp [h1],by rw [h2]; exact hs,h3,h4⟩,O_⟩
theorem zFm:∀ {ts:List Tx} {i p:Nat} {t:Tx},ts[p]? =some t->chkL i (ts.drop p)=if okT t.1 t.2 then(if t.1=(i:Int) then chkL (i+1) (ts.drop (p+1)) else 6) else 1:=by
 intro ts i p t h;obtain⟨hl,rfl⟩:=gSo h;rw [bO hl];rfl
theorem zUi {ts:List Tx} (h:chkL 1 ts=0):ts.length<=65536:=by
 by_cases h0:ts.length=0
 ·omega
 ·have hg:ts[ts.length - 1]? =some (ts[ts.length - 1]'O_):=aA O_;obtain⟨a,b⟩:=zpc h hg;have:=a.2.1;omega
section
variable {w0 w:World} {fr bs:List zb}
theorem s_Pc {x:Wr} {R:Bool->WP} (k:∀ w',Ext w w'->R (!decide (zYc x)) w'):C_id x w R:=by
 apply S_tc;intro b w1 hb hw;have kb:=Blk.new hb hw;have k:=k w1 (Ext.new hw);refine⟨x.Key,kb.cell rfl,λh=> ?_,λh=>⟨x.Key,kb.cell rfl,λh2=> ?_,λh2=>⟨x.Val,kb.cell rfl,λh3=> ?_,λh3=>⟨x.Drop,kb.cell rfl,λh4=>⟨x.Val,kb.cell rfl,?_⟩,λh4=> ?_⟩⟩⟩⟩
 ·rw [zcd,decide_eq_true_eq] at h;rw [decide_eq_false (λhg=>by have:=hg.1; omega)] at k; exact k
 ·have h2:=dT h2;rw [decide_eq_false (λhg=>by have:=hg.2.1; omega)] at k; exact k
 ·have h3:=dT h3;rw [decide_eq_false (λhg=>by have:=hg.2.2.1; omega)] at k; exact k
 ·rw [zcd,decide_eq_false_iff_not] at h;have h2:=dF h2;have h3:=dF h3;rw [zcd];by_cases hv:x.Val.size=0
  ·rw [decide_eq_true (show zYc x from⟨O_,O_,O_,λ_=>hv⟩)] at k;rw [decide_eq_true hv]; exact k
  ·rw [decide_eq_false (λhg=>hv (hg.2.2.2 h4))] at k;rw [decide_eq_false hv]; exact k
 ·rw [zcd,decide_eq_false_iff_not] at h;have h2:=dF h2;have h3:=dF h3;rw [decide_eq_true (show zYc x from⟨O_,O_,O_,λh=>by rw [h4] at h; cases h⟩)] at k; exact k
theorem s_mc {s:Slc} {ws:List Wr} {R:Bool->WP} (hs:zj w s 3 (ws.flatMap wV)) (hl:s.len<=140737488351232)
    (k:∀ w',Ext w w'->R (!decide (∀ x∈ws,zYc x)) w'):C_b s (Value.func (.func 113) #[] #[]) w R:=by
 apply S_a;apply S_c;have hlen:=zye hs;refine⟨λi w'=>Ext w w'/\0<=i/\i<=s.len/\∀ x∈ws.take i.toNat,zYc x,λi _=>s.len - i.toNat,⟨Ext.refl _,O_,O_,λx hx=>by simp at hx⟩,?_⟩;rintro i w1 ⟨e,h0,h1,hg⟩;refine⟨λhi=> ?_,λhi=> ?_⟩
 ·have hi:=dT hi;obtain⟨a,x,hx,hc⟩:=zjp (e.src hs) h0 hi;refine⟨a,h0,hi,x,hc,zw.mk (all:=#[Value.agg #[Vt x.Key,Vt x.Val,Vo x.Drop]]) K_ rfl ?_⟩;refine s_Pc λw2 e2=>⟨λhb=> ?_,λhb=> ?_⟩
  ·have hb:¬ zYc x:=by simpa using hb
   have:=k w2 (e.trans e2);rw [decide_eq_false (λhh=>hb (hh x (mG hx)))] at this;show R (decide (i>=0)) w2;rw [decide_eq_true (show i>=0 from h0)]; exact this
  ·have hb:zYc x:=by simpa using hb
   rw [ztf h0 hi O_];refine⟨⟨e.trans e2,O_,O_,λy hy=> ?_⟩,by show s.len - (i+1).toNat<s.len - i.toNat; omega⟩;rw [zsc h0,bL,hx] at hy;rcases aG.1 hy with hy | hy
   ·exact hg y hy
   ·have:y=x:=by simpa using hy
    subst this; exact hb
 ·have hi:=dF hi;have:=k w1 e;rw [bF O_] at hg;rw [decide_eq_true hg] at this;exact this
theorem s_0 {t:T_c} {ws:List Wr} {R:Int->WP} (hs:zj w t.Writes 3 (ws.flatMap wV)) (hl:t.Writes.len<=140737488351232)
    (k:∀ w',Ext w w'->R (if okT t.Number ws then 0 else 1) w'):C_Lb t w R:=by
 apply S_1c;intro b w1 hb hw;have kb:=Blk.new hb hw;have e1:Ext w w1:=Ext.new hw;have hlen:=zye hs
 have bad:¬ okT t.Number ws->F_R R true w1:=λh=>by
  unfold F_R;have:=k w1 e1;rw [if_neg h] at this;exact⟨λ_=>this,N_⟩
 refine⟨t.Number,kb.cell rfl,λh=>bad λhg=> ?_,λh=>⟨t.Number,kb.cell rfl,λh2=>bad λhg=> ?_,λh2=>⟨t.Writes,kb.cell rfl,λh3=>bad λhg=> ?_,λh3=>⟨t.Writes,kb.cell rfl,?_⟩⟩⟩⟩
 ·have h:=dT h;have:=hg.1; omega
 ·have h2:=dT h2;have:=hg.2.1; omega
 ·have h3:=dT h3;have:=hg.2.2.1; omega
 ·have h:=dF h;have h2:=dF h2;have h3:=dF h3;refine s_mc (e1.src hs) hl λw2 e2=> ?_;have:=k w2 (e1.trans e2);unfold F_R;refine⟨λhb=> ?_,λhb=> ?_⟩
  ·have hb:¬ ∀ x∈ws,zYc x:=by simpa using hb
   rw [if_neg (λhg=>hb hg.2.2.2)] at this; exact this
  ·have hb:∀ x∈ws,zYc x:=by simpa using hb
   rw [if_pos ⟨O_,O_,O_,hb⟩] at this; exact this
end
theorem za {α:Type} {l l':List α} (h:∀ f:α->Nat,(l.map f).sum=(l'.map f).sum):l.Perm l':=by
 classical
 refine List.perm_iff_count.2 λa=> ?_
 have key:∀ l:List α,List.count a l=(l.map λx=>if x=a then 1 else 0).sum:=λl=>by
  induction l with
  | nil=>rfl
  | cons x l ih =>
   rw [List.count_cons,ih,cG,gE];by_cases hx:x=a
   ·simp [hx]; omega
   ·simp [hx]
 rw [key,key];exact h _
theorem St.weak {w0:Base} {w:World} {l l':List zb} (h:St w0 l w) (r:List zb) (p:l.Perm (r++l')):St w0 l' w:=(h.perm p).drop
theorem St.pq {w0:Base} {w:World} {l l':List zb} (h:St w0 l w)(p:∀ f:zb->Nat,(l.map f).sum=(l'.map f).sum:=by intro f_; simp <;> omega):St w0 l' w:=h.perm (za p)
theorem St.wq {w0:Base} {w:World} {l l':List zb} (h:St w0 l w)(r:List zb)(p:∀ f:zb->Nat,(l.map f).sum=((r++l').map f).sum:=by intro f_; simp <;> omega):St w0 l' w:=h.weak r (za p)
theorem St.more {w0:Base} {w1 w2:World} {a l:List zb} (h:St w0 l w1) (h2:St ⟨w1,[]⟩ a w2):St w0 (a++l) w2:=h.join h2
theorem zlp:∀ ws:List Wr,zv (ws.flatMap wV)=true
 | []=>rfl
 | x::r=>by
  have:=zlp r;unfold zv at this ⊢;rw [aY,List.all_append,this]; rfl
theorem zul {w:World} {s:Slc} {sz:Nat} {src:List Value} (hs:zj w s sz src) (hp:s.ptr=none):src=[]:=by
 obtain⟨_,h2 | ⟨h2,_⟩⟩:=hs
 ·exact h2
 ·rw [hp] at h2; cases h2
theorem zcr {ws:List Wr} (h:ws.flatMap wV=[]):ws=[]:=by
 cases ws with
 | nil=>rfl
 | cons x r=>rw [aY] at h; cases h
section
variable {w0:Base} {w:World} {fr:List zb}
theorem s_Qc {t:T_c} {ws:List Wr} {b n:Nat} {R:Int->WP} (st:St w0 ((b,[Vi (n:Int)])::fr) w) (hs:zj w t.Writes 3 (ws.flatMap wV)) (hl:t.Writes.len<=140737488351232) (hn:n<=140737488351232)
    (k1:¬ okT t.Number ws->∀ w',St w0 ((b,[Vi (n:Int)])::fr) w'->R 1 w') (k2:okT t.Number ws->t.Number≠(n:Int)->∀ w',St w0 ((b,[Vi (n:Int)])::fr) w'->R 6 w') (k3:okT t.Number ws->t.Number=(n:Int)->∀ w',St w0 ((b,[Vi ((n+1:Nat):Int)])::fr) w'->R 0 w'):C_dd t (Z0 b) w R:=by
 apply S_4b;unfold F_Pd;intro b1 w1 hb1 hw1;have e1:Ext w w1:=Ext.new hw1;have st1:St w0 ((b1,txW t.Number t.Writes)::(b,[Vi (n:Int)])::fr) w1:=st.alloc hb1 hw1;refine⟨t,⟨st1.cell 0 rfl rfl,st1.cell 0 rfl rfl,trivial⟩,s_0 (e1.src hs) hl λw2 e2=>⟨λh=> ?_,λh=> ?_⟩⟩
 ·by_cases hok:okT t.Number ws
  ·rw [if_pos hok] at h; cases h
  ·rw [if_neg hok]; exact k1 hok w2 (st1.keep e2).drop1
 ·by_cases hok:okT t.Number ws
  ·have st2:=st1.keep e2;refine⟨t.Number,st2.cell 0 rfl rfl,rfl,(n:Int),st2.cell 1 rfl rfl,λh2=> ?_,λh2=>⟨rfl,(n:Int),st2.cell 1 rfl rfl,st2.writable 1,λw3 hw3=> ?_⟩⟩
   ·have h2:t.Number≠(n:Int):=by simpa using h2
    exact k2 hok h2 w2 st2.drop1
   ·have h2:t.Number=(n:Int):=by simpa using h2
    have st3:=st2.put1 hw3;have wn:i64.wrap ((n:Int)+1)=((n+1:Nat):Int):=W_;rw [wn] at st3;exact k3 hok h2 w3 st3.drop1
  ·rw [if_neg hok] at h; cases h
theorem s_nc {sl:Slc} {ts:List Tx} {sls:List Slc} {R:Int->WP} (ha:LAt w sl ts sls) (hl:sl.len<=4398046511104)
    (k:∀ w',Ext w w'->R (chkL 1 ts) w'):C_Pc sl w R:=by
 apply S_Oc;apply S_Pc;intro b w1 hb hw;have st:St ⟨w,[]⟩ [(b,[Vi 0])] w1:=(St.start w).alloc hb hw;refine⟨st.writable 0 rfl D_,λw2 hw2=> ?_⟩;have st:St ⟨w,[]⟩ [(b,[Vi 1])] w2:=st.put0 hw2;have hsl:=ha.slen;refine⟨λi w'=>∃ p:Nat,i=(p:Int)/\p<=sl.len/\chkL 1 ts=chkL (p+1) (ts.drop p)/\St ⟨w,[]⟩ [(b,[Vi ((p+1:Nat):Int)])] w',λi _=>sl.len - i.toNat,⟨0,rfl,O_,by simp,st⟩,?_⟩;clear st hw hw2;rintro i w3 ⟨p,rfl,hp,hc,st⟩;unfold F_4e;refine⟨λhi=> ?_,λhi=> ?_⟩
 ·have hi:=dT hi;have hpl:p<sl.len:=O_;obtain⟨a,t,s,ht,hs,hct,hsr,hcp1,hcp2⟩:=(LAt.ext ha st.ext).get hpl;refine⟨a,O_,hi,⟨t.1,s⟩,by rw [tN]; exact hct,λb1 w4 hb1 hw4=> ?_⟩;have st4:St ⟨w,[]⟩ ((b1,txW 0 ⟨none,0,0⟩)::[(b,[Vi ((p+1:Nat):Int)])]) w4:=st.alloc hb1 hw4;refine⟨st4.writable 0 rfl D_,λw5 hw5=> ?_⟩;have st5:St ⟨w,[]⟩ ((b1,txW t.1 s)::[(b,[Vi ((p+1:Nat):Int)])]) w5:=st4.put0 hw5;refine⟨⟨t.1,s⟩,⟨st5.cell 0 rfl rfl,st5.cell 0 rfl rfl,trivial⟩,zw.mk (all:=#[Value.agg #[Vi t.1,Vs s],Vp (Z0 b)]) K_ rfl ?_⟩;have wp:i64.wrap ((p:Int)+1)=((p+1:Nat):Int):=W_;have hcd:=zFm (i:=p+1) ht;have hsr5:zj w5 s 3 (t.2.flatMap wV):=st5.ext.src (ha.wr p t s ht hs);refine s_Qc (t:=⟨t.1,s⟩) (ws:=t.2) st5.drop1 hsr5 (by show s.len<=_; omega) O_ (λh1 w' st'=> ?_) (λh1 h2 w' st'=> ?_) λh1 h2 w' st'=> ?_
  ·refine⟨λ_=> ?_,λh=>by simp at h⟩;have:=k w' st'.ext;rw [hc,hcd,if_neg h1] at this; exact this
  ·refine⟨λ_=> ?_,λh=>by simp at h⟩;have:=k w' st'.ext;rw [hc,hcd,if_pos h1,if_neg h2] at this; exact this
  ·refine⟨λh=>by simp at h,λ_=> ?_⟩;rw [wp];refine⟨⟨p+1,rfl,O_,?_,st'⟩,L_⟩;rw [hc,hcd,if_pos h1,if_pos h2]
 ·have hi:=dF hi;have:=k w3 st.ext;rw [hc,eP O_] at this;exact this
end
section
variable {w0:Base} {w:World} {fr:List zb}
theorem s_6c {s:Slc} {ws:List Wr} {R:Slc->WP} (hs:zj w s 3 (ws.flatMap wV)) (hl:s.len*40<=140737488351232)
    (k:∀ s' rb w',RowC 3 s' (ws.flatMap wV) rb->St ⟨w,[]⟩ rb w'->s'.len=ws.length->R s' w'):C_A s w R:=by
 apply S_p;unfold F_3b;have hlen:=zye hs;refine⟨λh=> ?_,λh=>λb w1 hb hw=> ?_⟩
 ·have hp:s.ptr=none:=by simpa using h
  have hv:=zcr (zul hs hp);subst hv;exact k _ [] _ RowC.nil (St.start w) rfl
 ·have st2:=(St.start w).alloc hb hw;refine⟨_,st2.ext.src hs,?_⟩;refine(RowC.new (b:=b) (xs:=[]) (n:=0) rfl:RowC 3 ⟨some ⟨b,0,none⟩,0,0⟩ [] [(b,[])]).append st2 (by rw [zc zze,hlen]) (zlp ws) rfl (by show(0+s.len)*40<=_; omega) λs' rb w' r st' hl'=> ?_;have st3:St ⟨w,[]⟩ rb w':=by simpa using st'
  exact k _ _ _ (by simpa using r) st3 (by rw [hl']; show 0+s.len=_; omega)
theorem s_wb {t:T_c} {ws:List Wr} {R:T_c->WP} (hs:zj w t.Writes 3 (ws.flatMap wV)) (hl:t.Writes.len*40<=140737488351232)
    (k:∀ s rb w',RowC 3 s (ws.flatMap wV) rb->St ⟨w,[]⟩ rb w'->s.len=ws.length->R ⟨t.Number,s⟩ w'):C_Qb t w R:=by
 apply S_uc;unfold F_Ff;intro b w1 hb hw b1 w2 hb1 hw1 w3 hw3;have st:St ⟨w,[]⟩ ([(b1,txW 0 ⟨none,0,0⟩)]++[(b,txW t.Number t.Writes)]) w3:=(((St.start w).alloc (cs:=txW t.Number t.Writes) hb hw).alloc (cs:=txW 0 ⟨none,0,0⟩) hb1 hw1).drew hw3;refine⟨t.Number,st.cell 1 rfl rfl,t.Writes,st.cell 1 rfl rfl,s_6c (st.ext.src hs) hl λs rb w4 r st4 hl4=> ?_⟩;have st:=st.join st4;refine⟨st.drop.cell 1 rfl rfl,st.drop.writable 0 rfl D_,λw5 hw5=>⟨⟨t.Number,s⟩,?_⟩⟩;have st5:=(St.unmid (a:=rb) (c:=(b1,txW 0 ⟨none,0,0⟩)) (b:=[(b,txW t.Number t.Writes)]) st).put0 hw5;have st5:St ⟨w,[]⟩ ((b1,txW t.Number s)::(rb++[(b,txW t.Number t.Writes)])) w5:=st5;exact⟨⟨st5.cell 0 rfl rfl,st5.cell 0 rfl rfl,trivial⟩,k s rb w5 r (st5.drop1.rot.drop) hl4⟩
end
def zzb {α σ:Type} (In:α->σ->List zb->Prop):List α->List σ->List zb->Prop
 | [],[],cs=>cs=[]
 | x::xs,s::sls,cs=>∃ c cs',cs=c++cs'/\In x s c/\zzb In xs sls cs'
 | _,_,_=>False
namespace zzb
variable {α σ:Type} {In:α->σ->List zb->Prop}
theorem nil:zzb In [] [] []:=rfl
theorem len:∀ {xs:List α} {sls:List σ} {cs:List zb},zzb In xs sls cs->sls.length=xs.length
 | [],[],_,_=>rfl
 | [],_::_,_,h=>h.elim
 | _::_,[],_,h=>h.elim
 | x::xs,s::sls,_,⟨_,_,_,_,h⟩=>by rw [aV,aV,len h]
theorem snoc:∀ {xs:List α} {sls:List σ} {cs:List zb} {x:α} {s:σ} {c:List zb},zzb In xs sls cs->In x s c->zzb In (xs++[x]) (sls++[s]) (cs++c)
 | [],[],cs,x,s,c,h,hi=>⟨c,[],by rw [show cs=[] from h]; simp,hi,rfl⟩
 | [],_::_,_,_,_,_,h,_=>h.elim
 | _::_,[],_,_,_,_,h,_=>h.elim
 | y::xs,t::sls,cs,x,s,c,⟨c1,cs1,e,h1,h2⟩,hi=>⟨c1,cs1++c,by rw [e,aN],h1,snoc h2 hi⟩
theorem mono {In':α->σ->List zb->Prop} (f:∀ x s c,In x s c->In' x s c):∀ {xs:List α} {sls:List σ} {cs:List zb},zzb In xs sls cs->zzb In' xs sls cs
 | [],[],_,h=>h
 | [],_::_,_,h=>h.elim
 | _::_,[],_,h=>h.elim
 | _::_,_::_,_,⟨c,cs',e,h1,h2⟩=>⟨c,cs',e,f _ _ _ h1,mono f h2⟩
theorem at_:∀ {xs:List α} {sls:List σ} {cs:List zb} {i:Nat} {x:α} {s:σ},zzb In xs sls cs->xs[i]? =some x->sls[i]? =some s->∃ a c b,cs=a++(c++b)/\In x s c
 | [],_,_,i,x,s,_,h1,_=>by simp at h1
 | _::_,[],_,_,_,_,h,_,_=>h.elim
 | y::xs,t::sls,cs,0,x,s,⟨c,cs',e,h1,h2⟩,g1,g2=>by
  simp only [cA,aC] at g1 g2;subst g1 g2;exact⟨[],c,cs',e,h1⟩
 | y::xs,t::sls,cs,i+1,x,s,⟨c,cs',e,h1,h2⟩,g1,g2=>by
  simp only [cB] at g1 g2;obtain⟨a,c2,b,e2,h⟩:=at_ h2 g1 g2;exact⟨c++a,c2,b,by rw [e,e2,aN],h⟩
theorem cut:∀ {xs:List α} {sls:List σ} {cs:List zb} (i:Nat),zzb In xs sls cs->∃ a b,cs=a++b/\zzb In (xs.take i) (sls.take i) a/\zzb In (xs.drop i) (sls.drop i) b
 | xs,sls,cs,0,h=>⟨[],cs,rfl,by simpa using nil,by simpa using h⟩
 | [],[],cs,i+1,h=>⟨[],cs,rfl,by simpa using nil,by simpa using h⟩
 | [],_::_,_,_+1,h=>h.elim
 | _::_,[],_,_+1,h=>h.elim
 | x::xs,s::sls,cs,i+1,⟨c,cs',e,h1,h2⟩=>by
  obtain⟨a,b,e2,g1,g2⟩:=cut i h2;exact⟨c++a,b,by rw [e,e2,aN],⟨c,a,rfl,h1,g1⟩,g2⟩
theorem get:∀ {xs:List α} {sls:List σ} {cs:List zb} {i:Nat},zzb In xs sls cs->i<xs.length->∃ x s,xs[i]? =some x/\sls[i]? =some s:=λ{xs sls cs i} h hi=>by
 have:=h.len;exact⟨_,_,aA hi,aA O_⟩
theorem cons {x:α} {s:σ} {xs:List α} {sls:List σ} {cs:List zb} (h:zzb In (x::xs) (s::sls) cs):∃ c cs',cs=c++cs'/\In x s c/\zzb In xs sls cs':=h
end zzb
def LogO (sl:Slc) (ts:List Tx) (sls:List Slc) (cs:List zb):Prop:=∀ {w0:Base} {w:World} {fr:List zb},St w0 (cs++fr) w->LAt w sl ts sls
def InR (t:Tx) (s:Slc) (c:List zb):Prop:=RowC 3 s (t.2.flatMap wV) c
structure BldO (ts:List Tx) (p:Nat) (sl:Slc) (sls:List Slc) (tb cs:List zb):Prop where
 row:RowC 2 sl (((ts.take p).zip sls).flatMap λq=>txW q.1.1 q.2) tb
 len:sls.length=p
 ple:p<=ts.length
 ps:∃ cs',cs'.Perm cs/\zzb InR (ts.take p) sls cs'
 cp:∀ s∈sls,s.len<=s.cap/\s.len*40<=140737488351232
theorem BldO.wr {ts:List Tx} {p:Nat} {sl:Slc} {sls:List Slc} {tb cs:List zb} (o:BldO ts p sl sls tb cs) {w0:Base} {w:World} {fr:List zb} (st:St w0 (cs++fr) w) (i:Nat) (t:Tx) (s:Slc) (h1:ts[i]? =some t) (h2:sls[i]? =some s):zj w s 3 (t.2.flatMap wV):=by
 obtain⟨cs',pm,ps⟩:=o.ps;have hl:=o.len;have hi:=(gSo h2).1;have h1':(ts.take p)[i]? =some t:=by rw [eK O_]; exact h1
 obtain⟨a,c,b,rfl,h⟩:=ps.at_ h1' h2;have st':St w0 ((a++(c++b))++fr) w:=st.perm (pm.symm.append_right fr);have h:RowC 3 s (t.2.flatMap wV) c:=h;exact h.src (l:=a++(b++fr)) (st'.pq)
theorem BldO.start (ts:List Tx):BldO ts 0 ⟨none,0,0⟩ [] [] []:=⟨RowC.nil,rfl,bU _,⟨[],gQ _,by simpa using zzb.nil⟩,λs h=>by simp at h⟩
theorem BldO.add {ts:List Tx} {p:Nat} {sl sl':Slc} {sls:List Slc} {tb tb' cs rb:List zb} {t:Tx} {s:Slc} (o:BldO ts p sl sls tb cs) (ht:ts[p]? =some t) (r:RowC 3 s (t.2.flatMap wV) rb) (hs:s.len*40<=140737488351232)
    (row:RowC 2 sl' (((ts.take p).zip sls).flatMap (λq=>txW q.1.1 q.2)++txW t.1 s) tb'):BldO ts (p+1) sl' (sls++[s]) tb' (rb++cs):=by
 have hpl:=(gSo ht).1;have hl:=o.len;refine⟨?_,by simp [hl],hpl,?_,λs' h=> ?_⟩
 ·have e1:(ts.take (p+1)).zip (sls++[s])=(ts.take p).zip sls++[(t,s)]:=by
    rw [bL,ht,List.zip_append (by rw [aZ]; omega)]; rfl
  rw [e1,bE];exact row
 ·obtain⟨cs',pm,ps⟩:=o.ps;refine⟨cs'++rb,List.perm_append_comm.trans (pm.append_left rb),?_⟩;rw [bL,ht];exact ps.snoc r
 ·rcases aG.1 h with h | h
  ·exact o.cp s' h
  ·have:s'=s:=by simpa using h
   subst this; exact⟨r.cap_le,hs⟩
theorem BldO.done {ts:List Tx} {sl:Slc} {sls:List Slc} {tb cs:List zb} (o:BldO ts ts.length sl sls tb cs):LogO sl ts sls (tb++cs):=by
 intro w0 w fr st;have row:=o.row;rw [cU] at row;have st1:St w0 (tb++(cs++fr)) w:=st.pq;have st2:St w0 (cs++(tb++fr)) w:=st.pq;exact⟨o.len.symm,row.src st1,λi t s h1 h2=>o.wr st2 i t s h1 h2,o.cp⟩
def SrcO (b:Nat) (ts:List Tx) (ask:List Int) (cs:List zb):Prop :=
 ∃ sl sls lcs asl ab,cs=(b,[Vo true,Vs sl,Vs asl])::(ab++lcs)/\LogO sl ts sls lcs/\RowC 1 asl (ask.map Vi) ab
section
variable {w0:Base} {w:World} {fr cs:List zb} {b:Nat} {ts:List Tx} {ask:List Int}
theorem s_fb {sl:Slc} {sls:List Slc} {R:OA->Int->WP} (st:St w0 fr w) (hs:∀ l w',St w0 (l++fr) w'->LAt w' sl ts sls) (hl:sl.len<=4398046511104)
    (k0:chkL 1 ts≠0->∀ w',St w0 fr w'->R none (chkL 1 ts) w') (k1:chkL 1 ts=0->∀ b cs w',SrcO b ts [] cs->St w0 (cs++fr) w'->R (Z0 b) 0 w'):C_8c sl w R:=by
 apply S_6c;unfold F_xg;have hsl:=(hs [] w st).slen;refine s_nc (hs [] w st) O_ λw1 e1=>⟨λh=> ?_,λh b w2 hb hw=> ?_⟩
 ·exact k0 (by simpa using h) w1 (st.keep e1)
 have hc:chkL 1 ts=0:=by simpa using h
 have st2:St w0 ((b,[Vo true,Vs ⟨none,0,0⟩,Vs ⟨none,0,0⟩])::fr) w2:=(st.keep e1).alloc hb hw;refine⟨λi w'=>∃(p:Nat) (own:Slc) (sls':List Slc) (tb cs:List zb),i=(p:Int)/\BldO ts p own sls' tb cs/\own.len=p/\St w0 ((b,[Vo true,Vs own,Vs ⟨none,0,0⟩])::(tb++(cs++fr))) w',λi _=>sl.len - i.toNat,⟨0,_,[],[],[],rfl,BldO.start ts,rfl,st2⟩,?_⟩;clear st2 hb hw e1;rintro i w3 ⟨p,own,sls',tb,cs,rfl,o,hol,st⟩;unfold F_Df;refine⟨λhi=> ?_,λhi=> ?_⟩
 ·have hi:=dT hi;obtain⟨a,t,s,ht,hs0,hct,hsr,hcp1,hcp2⟩:=(hs ((b,[Vo true,Vs own,Vs ⟨none,0,0⟩])::(tb++cs)) _ (by simpa using st)).get (p:=p) O_;refine⟨a,O_,hi,⟨t.1,s⟩,by rw [tN]; exact hct,λb1 w4 hb1 hw4=> ?_⟩;have st4:=st.alloc (cs:=txW 0 ⟨none,0,0⟩) hb1 hw4;refine⟨st4.writable 0 rfl D_,λw5 hw5 w6 hw6=> ?_⟩;have st6:St w0 ((b1,txW t.1 s)::(b,[Vo true,Vs own,Vs ⟨none,0,0⟩])::(tb++(cs++fr))) w6:=(st4.put0 hw5).drew hw6;refine⟨own,st6.cell 1 rfl rfl,⟨t.1,s⟩,⟨st6.cell 0 rfl rfl,st6.cell 0 rfl rfl,trivial⟩,?_⟩;refine s_wb (t:=⟨t.1,s⟩) (ws:=t.2) ((hs ((b1,txW t.1 s)::(b,[Vo true,Vs own,Vs ⟨none,0,0⟩])::(tb++cs)) _ (by simpa using st6)).wr p t s ht hs0) hcp2 λs' rb w7 r' st7 hl7=> ?_;have st7:=st6.more st7;have st7:St w0 ((b,[Vo true,Vs own,Vs ⟨none,0,0⟩])::(tb++(rb++(cs++fr)))) w7:=st7.wq [(b1,txW t.1 s)];refine⟨st7.cell 0 rfl rfl,λb2 w8 hb2 hw8=> ?_⟩;have st8:St w0 ((b2,txW t.1 s')::(b,[Vo true,Vs own,Vs ⟨none,0,0⟩])::(tb++(rb++(cs++fr)))) w8:=st7.alloc hb2 hw8;have st8b:St w0 (tb++((b,[Vo true,Vs own,Vs ⟨none,0,0⟩])::(rb++(cs++fr)))) w8:=st8.wq [(b2,txW t.1 s')];refine⟨st8.cell 1 rfl rfl,txW t.1 s',zJ hb2 hw8 rfl,?_⟩;have wp:i64.wrap ((p:Int)+1)=((p+1:Nat):Int):=W_;refine o.row.append st8b rfl rfl rfl O_ λown' tb' w9 r9 st9 hl9=> ?_;have st9:St w0 ((b,[Vo true,Vs own,Vs ⟨none,0,0⟩])::(tb'++(rb++(cs++fr)))) w9:=st9.pq;refine⟨st9.writable 0,λw10 hw10=> ?_⟩;have st10:St w0 ((b,[Vo true,Vs own',Vs ⟨none,0,0⟩])::(tb'++(rb++(cs++fr)))) w10:=st9.put0 hw10;have hws:s.len=t.2.length:=zye hsr;rw [wp];exact⟨⟨p+1,own',sls'++[s'],tb',rb++cs,rfl,o.add ht r' O_ r9,O_,st10.pq⟩,L_⟩
 ·have hi:=dF hi;have hpe:p=ts.length:=by have:=o.ple; omega
  subst hpe;refine k1 hc b ((b,[Vo true,Vs own,Vs ⟨none,0,0⟩])::([]++(tb++cs))) w3 ⟨own,sls',tb++cs,⟨none,0,0⟩,[],rfl,o.done,RowC.nil⟩ (st.pq)
theorem SrcO.log (o:SrcO b ts ask cs) (st:St w0 (cs++fr) w):∃ sl sls,w.cell? ⟨b,0,none⟩=some (Vo true)/\w.cell? ⟨b,1,none⟩=some (Vs sl)/\LAt w sl ts sls:=by
 obtain⟨sl,sls,lcs,asl,ab,rfl,hlo,ra⟩:=o;have st2:St w0 (lcs++((b,[Vo true,Vs sl,Vs asl])::(ab++fr))) w:=st.pq;exact⟨sl,sls,st.cell 0 rfl rfl,st.cell 0 rfl rfl,hlo st2⟩
theorem s_gb {R:Int->WP} (o:SrcO b ts ask cs) (st:St w0 (cs++fr) w) (k:R ((ts.length:Nat):Int) w):C_1 (Z0 b) w R:=by
 apply S_cb;unfold F_le;obtain⟨sl,sls,c0,c1,hla⟩:=o.log st;refine⟨N_,λ_=>⟨rfl,sl,c1,?_⟩⟩;dsimp only; rw [hla.slen]; exact k
theorem s_xb {n:Int} {R:T_c->Int->WP} (o:SrcO b ts ask cs) (st:St w0 (cs++fr) w) (hl:ask.length<=1099511627776) (hn: -9223372036854775808<=n/\n<=9223372036854775807)
    (k0:¬ (1<=n/\n<=((ts.length:Nat):Int))->∀ w',St w0 (cs++fr) w'->R ⟨0,⟨none,0,0⟩⟩ 1 w')
    (k1:∀(p:Nat) (t:Tx),n=((p+1:Nat):Int)->ts[p]? =some t->∀ s rb cs' w',RowC 3 s (t.2.flatMap wV) rb->s.len=t.2.length->SrcO b ts (ask++[n]) cs'->St w0 (rb++(cs'++fr)) w'->R ⟨t.1,s⟩ 0 w'):C_5 (Z0 b) n w R:=by
 apply S_jb;unfold F_Ee;intro b1 w1 hb1 hw1;have st1:St w0 ((b1,txW 0 ⟨none,0,0⟩)::(cs++fr)) w1:=st.alloc hb1 hw1;have hst1:St w0 (cs++((b1,txW 0 ⟨none,0,0⟩)::fr)) w1:=st1.pq;obtain⟨sl,sls,c0,c1,hla⟩:=o.log hst1;have hsl:=hla.slen
 have bad:¬ (1<=n/\n<=((ts.length:Nat):Int))->F_P (Z0 b) n R b1 true w1:=λh=>by
  unfold F_P;refine⟨λ_=>⟨st1.writable 0 rfl D_,λw2 hw2=> ?_⟩,N_⟩;have st2:St w0 ((b1,txW 0 ⟨none,0,0⟩)::(cs++fr)) w2:=st1.put0 hw2;exact⟨⟨0,⟨none,0,0⟩⟩,⟨st2.cell 0 rfl rfl,st2.cell 0 rfl rfl,trivial⟩,k0 h w2 st2.drop1⟩
 refine⟨N_,λ_=>⟨rfl,true,c0,?_⟩⟩;unfold F_Ec;refine⟨N_,λ_=>⟨λh=>bad λhg=> ?_,λh=>⟨rfl,sl,c1,?_⟩⟩⟩
 ·have h:=dT h;omega
 have h:=dF h;dsimp only; rw [hsl];by_cases hbig:n>((ts.length:Nat):Int)
 ·rw [decide_eq_true hbig]; exact bad λhg=>by omega
 rw [decide_eq_false hbig];unfold F_P;refine⟨N_,λ_=> ?_⟩;obtain⟨p,hp⟩:=toN (show 0<=n - 1 by omega);obtain rfl:n=((p+1:Nat):Int):=O_;have wn:i64.wrap (((p+1:Nat):Int) - 1)=(p:Int):=W_;rw [wn];clear c0 c1 hla bad hst1 hsl;obtain⟨sl,sls,lcs,asl,ab,rfl,hlo,ra⟩:=o;refine⟨rfl,asl,st1.cell 1 rfl rfl,λb2 w3 hb2 hw3=> ?_⟩;have st3:=st1.alloc (cs:=[Vi ((p+1:Nat):Int)]) hb2 hw3;have st3:St w0 (ab++((b,[Vo true,Vs sl,Vs asl])::(b1,txW 0 ⟨none,0,0⟩)::(lcs++fr))) w3:=st3.weak [(b2,[Vi ((p+1:Nat):Int)])] (za λf_=>by simp <;> omega);have hal:=ra.len;refine⟨[Vi ((p+1:Nat):Int)],zJ hb2 hw3 rfl,ra.append st3 rfl rfl rfl (by simp at hal; omega) λasl' ab' w4 ra' st4 hl4=> ?_⟩;have st4:St w0 ((b,[Vo true,Vs sl,Vs asl])::(b1,txW 0 ⟨none,0,0⟩)::(ab'++(lcs++fr))) w4:=st4.pq;refine⟨rfl,st4.writable 0,λw5 hw5=> ?_⟩;have st5:St w0 ((b,[Vo true,Vs sl,Vs asl'])::(b1,txW 0 ⟨none,0,0⟩)::(ab'++(lcs++fr))) w5:=st4.put0 hw5;have hla:=hlo (fr:=(b,[Vo true,Vs sl,Vs asl'])::(b1,txW 0 ⟨none,0,0⟩)::(ab'++fr)) (st5.pq);have hsl:=hla.slen;obtain⟨a,t,s,ht,hs,hct,hsr,hcp1,hcp2⟩:=hla.get (p:=p) O_;refine⟨rfl,sl,st5.cell 0 rfl rfl,a,O_,O_,⟨t.1,s⟩,by rw [tN]; exact hct,?_⟩;refine s_wb (t:=⟨t.1,s⟩) (ws:=t.2) hsr hcp2 λs' rb w6 r6 st6 hl6=> ?_;have st6:=st5.more st6;have st6:St w0 ((b1,txW 0 ⟨none,0,0⟩)::(rb++(((b,[Vo true,Vs sl,Vs asl'])::(ab'++lcs))++fr))) w6:=st6.pq;refine⟨st6.writable 0 rfl D_,λw7 hw7=>⟨⟨t.1,s'⟩,?_⟩⟩;have st7:St w0 ((b1,txW t.1 s')::(rb++(((b,[Vo true,Vs sl,Vs asl'])::(ab'++lcs))++fr))) w7:=st6.put0 hw7;refine⟨⟨st7.cell 0 rfl rfl,st7.cell 0 rfl rfl,trivial⟩,k1 p t rfl ht s' rb _ w7 r6 hl6 ⟨sl,sls,lcs,asl',ab',rfl,hlo,?_⟩ st7.drop1⟩;rw [aR]; exact ra'
end
structure FdM where
 ts:List Tx
 m0:Nat
 at_:Nat
 fed:Nat
 win:Nat
 bey:List Int
 held:Option Tx
 closed:Bool
structure FdM.Ok (m:FdM):Prop where
 chk:chkL 1 m.ts=0
 ma:m.m0<=m.at_
 af:m.at_<=m.fed
 fl:m.fed<=m.ts.length
 win:m.win<=64
 held:∀ t,m.held=some t->m.m0<m.at_/\m.ts[m.at_ - 1]? =some t
theorem FdM.Ok.len {m:FdM} (h:m.Ok):m.ts.length<=65536:=zUi h.chk
theorem FdM.Ok.num {m:FdM} (h:m.Ok) {t:Tx} (ht:m.held=some t):t.1=(m.at_:Int)/\1<=m.at_:=by
 obtain⟨a,b⟩:=h.held t ht;obtain⟨_,c⟩:=zpc h.chk b;exact⟨by rw [c]; omega,O_⟩
def askL (m:FdM):List Int:=(List.range (m.at_ - m.m0)).map λi=>((m.m0+1+i:Nat):Int)
theorem zvl (m:FdM):(askL m).length=m.at_ - m.m0:=by unfold askL; simp
theorem zdk {m:FdM} (h:m.m0<=m.at_) (t:Option Tx):askL { m with at_:=m.at_+1,held:=t }=askL m++[((m.at_+1:Nat):Int)]:=by
 show(List.range (m.at_+1 - m.m0)).map (λi=>((m.m0+1+i:Nat):Int))=(List.range (m.at_ - m.m0)).map (λi=>((m.m0+1+i:Nat):Int))++_;rw [show m.at_+1 - m.m0=(m.at_ - m.m0)+1 from by omega,List.range_succ,aR,cG,List.map_nil];rw [show m.m0+1+(m.at_ - m.m0)=m.at_+1 from by omega]
abbrev zzg (m:FdM) (t:Tx) (mark:Int):Prop:=t.1 - (m.win:Int)<=mark
abbrev zeroT:Tx:=(0,[])
def zpj (m:Option FdM) (last:Int):Int×Option FdM :=
 match m with
 | none=>(2,none)
 | some m=>if m.closed then(12,some m) else if last<(m.fed:Int)\/last>((m.ts.length:Nat):Int) then(1,some m) else(0,some { m with fed:=last.toNat })
def canM (m:Option FdM) (mark:Int):Int :=
 match m with
 | none=>0
 | some m=>match m.held with
  | none=>if m.closed then 0 else if m.at_<m.fed then 1 else 0
  | some t=>if t.1∈m.bey then 2 else if zzg m t mark then 3 else 0
def zAg (m:Option FdM):Int×Int×Option FdM :=
 match m with
 | none=>(0,2,none)
 | some m=>match m.held with
  | some _=>(0,10,some m)
  | none=>if m.closed then(0,12,some m) else if m.at_<m.fed then(((m.at_+1:Nat):Int),0,some { m with at_:=m.at_+1,held:=m.ts[m.at_]? }) else(0,9,some m)
def zNe (m:Option FdM) (mark:Int):Tx×Int×Option FdM :=
 match m with
 | none=>(zeroT,2,none)
 | some m=>match m.held with
  | none=>(zeroT,9,some m)
  | some t=>if t.1∈m.bey\/¬ zzg m t mark then(zeroT,6,some m) else(t,0,some { m with held:=none })
theorem FdM.Ok.more {m:FdM} (h:m.Ok) {n:Nat} (h1:m.fed<=n) (h2:n<=m.ts.length):FdM.Ok { m with fed:=n }:=⟨h.chk,h.ma,by show m.at_<=n; have:=h.af; omega,h2,h.win,h.held⟩
theorem FdM.Ok.drop {m:FdM} (h:m.Ok):FdM.Ok { m with held:=none }:=⟨h.chk,h.ma,h.af,h.fl,h.win,λt ht=>(by cases ht)⟩
theorem FdM.Ok.read {m:FdM} (h:m.Ok) (h1:m.at_<m.fed):FdM.Ok { m with at_:=m.at_+1,held:=m.ts[m.at_]? } :=
 ⟨h.chk,by show m.m0<=m.at_+1; have:=h.ma; omega,h1,h.fl,h.win,λt ht=>⟨by show m.m0<m.at_+1; have:=h.ma; omega,ht⟩⟩
def zdr (w0:Base) (mb:Nat) (bey:List Int):Prop:=∃ es c,(mb,Obj.map es c)∈w0.mp/\z6c es/\∀ n,zFb es n=decide (n∈bey)
def zmp (t:Option Tx) (hp:OA) (hcs:List zb):Prop :=
 match t with
 | none=>hp=none/\hcs=[]
 | some t=>∃ hb s rb,hp=some ⟨hb,0,none⟩/\hcs=(hb,txW t.1 s)::rb/\RowC 3 s (t.2.flatMap wV) rb
abbrev fdV (s:OA) (a f w:Int) (m:Option Nat) (h:OA) (c:Bool):List Value:=[Vp s,Vi a,Vi f,Vi w,Value.map m,Vp h,Vo c]
def FdS (w0:Base) (sb:Nat) (m:FdM) (b:Nat) (cs:List zb):Prop :=
 ∃ mb hp hcs scs,m.Ok/\cs=(b,fdV (Z0 sb) m.at_ m.fed m.win (some mb) hp m.closed)::(hcs++scs)/\zdr w0 mb m.bey/\SrcO sb m.ts (askL m) scs/\zmp m.held hp hcs
def FdO (w0:Base) (sp:OA) (m:Option FdM) (f:OA) (cs:List zb):Prop :=
 match m with
 | none=>(f=none/\cs=[])\/∃ b,f=some ⟨b,0,none⟩/\cs=[(b,fdV none 0 0 0 none none false)]
 | some m=>∃ b sb,f=some ⟨b,0,none⟩/\sp=some ⟨sb,0,none⟩/\FdS w0 sb m b cs
section
variable {w0 v0:Base} {w:World} {fr cs:List zb} {sp f:OA} {m:Option FdM}
theorem s_m {R:Bool->WP} (hv:∀ q∈v0.mp,q∈w0.mp) (o:FdO v0 sp m f cs) (st:St w0 (cs++fr) w) (k:R m.isSome w):C_Q f w R:=by
 apply S_5b;unfold F_pf;cases m with
 | none =>
  rcases o with ⟨rfl,rfl⟩ | ⟨b,rfl,rfl⟩
  ·exact⟨N_,λ_=>k⟩
  ·exact⟨λ_=>⟨rfl,none,st.cell 0 rfl rfl,k⟩,N_⟩
 | some m =>
  obtain⟨b,sb,rfl,rfl,mb,hp,hcs,scs,ok,rfl,hm,hs,hh⟩:=o;exact⟨λ_=>⟨rfl,_,st.cell 0 rfl rfl,k⟩,N_⟩
theorem s_T {m:FdM} {b sb:Nat} {t:Tx} {R:Bool->WP} (hv:∀ q∈v0.mp,q∈w0.mp) (o:FdS v0 sb m b cs) (st:St w0 (cs++fr) w) (ht:m.held=some t) (k:∀ w',St w0 (cs++fr) w'->R (decide (t.1∈m.bey)) w'):C_Eb (Z0 b) w R:=by
 apply S_6b;unfold F_Rd;intro w1 hw1;obtain⟨mb,hp,hcs,scs,ok,rfl,⟨es,c,hmem,hmi,hmh⟩,hs,hh⟩:=o;rw [ht] at hh;obtain⟨hb,s,rb,rfl,rfl,rs⟩:=hh;have st:=st.drew hw1;have hmp:=st.mps.at_ _ (hv _ hmem);refine⟨rfl,some mb,st.cell 0 rfl rfl,rfl,_,st.cell 0 rfl rfl,rfl,t.1,st.cell 1 rfl rfl,es,.inr ⟨mb,c,rfl,hmp⟩,hmi,λb2 w2 hb2 hw2=> ?_⟩;have st2:=st.alloc (cs:=[]) hb2 hw2;refine⟨.inr ⟨mb,c,rfl,st2.mps.at_ _ (hv _ hmem)⟩,st2.cell 2 rfl rfl,st2.cell 1 rfl rfl,st2.cell 1 rfl rfl,st2.writable 0 rfl D_,λw3 hw3=> ?_⟩;have:w3=w2:=hw3;subst this;rw [hmh];exact k w3 st2.drop1
theorem s_hb {m:FdM} {b sb:Nat} {t:Tx} {mark:Int} {R:Bool->WP} (hv:∀ q∈v0.mp,q∈w0.mp) (o:FdS v0 sb m b cs) (st:St w0 (cs++fr) w) (ht:m.held=some t) (k:∀ w',St w0 (cs++fr) w'->R (decide (zzg m t mark)) w'):C_Vb (Z0 b) mark w R:=by
 apply S_xc;unfold F_Vf;obtain⟨mb,hp,hcs,scs,ok,rfl,hm,hs,hh⟩:=o;obtain⟨hn1,hn2⟩:=ok.num ht;have h1:=ok.len;have h2:=ok.af;have h3:=ok.fl;have h4:=ok.win;rw [ht] at hh;obtain⟨hb,s,rb,rfl,rfl,rs⟩:=hh;refine⟨rfl,_,st.cell 0 rfl rfl,rfl,t.1,st.cell 1 rfl rfl,rfl,_,st.cell 0 rfl rfl,λw1 e1=> ?_⟩;rw [i64_in _ O_ O_];exact k w1 (st.keep e1)
theorem s_Rc {last:Int} {R:Int->WP} (hv:∀ q∈v0.mp,q∈w0.mp) (o:FdO v0 sp m f cs) (st:St w0 (cs++fr) w) (k:∀ cs' w',FdO v0 sp (zpj m last).2 f cs'->St w0 (cs'++fr) w'->R (zpj m last).1 w'):C_Cc f last w R:=by
 apply S_vc;unfold F_Hf;refine s_m hv o st ⟨λh=> ?_,λh=> ?_⟩
 ·cases m with
  | none=>exact k cs w o st
  | some m=>cases h
 cases m with
 | none=>cases h
 | some m =>
  obtain⟨b,sb,rfl,rfl,mb,hp,hcs,scs,ok,rfl,hm,hs,hh⟩:=o;have st2:St w0 (scs++((b,fdV (Z0 sb) m.at_ m.fed m.win (some mb) hp m.closed)::(hcs++fr))) w:=st.pq
  have bad:m.closed=false->(last<(m.fed:Int)\/last>((m.ts.length:Nat):Int))->R 1 w:=λh1 h2=>by
   have e:zpj (some m) last=(1,some m):=by show(if _ then _ else if _ then _ else _)=_; rw [if_neg (by rw [h1]; decide),if_pos h2]
   rw [e] at k;exact k _ w ⟨b,sb,rfl,rfl,mb,hp,hcs,scs,ok,rfl,hm,hs,hh⟩ st
  refine⟨rfl,m.closed,st.cell 0 rfl rfl,λhc=> ?_,λhc=>⟨rfl,_,st.cell 0 rfl rfl,λh1=> ?_,λh1=>⟨rfl,_,st.cell 0 rfl rfl,?_⟩⟩⟩
  ·have e:zpj (some m) last=(12,some m):=by show(if _ then _ else if _ then _ else _)=_; rw [if_pos hc]
   rw [e] at k;exact k _ w ⟨b,sb,rfl,rfl,mb,hp,hcs,scs,ok,rfl,hm,hs,hh⟩ st
  ·unfold F_vc;exact⟨λ_=>bad hc (.inl (dT h1)),N_⟩
  ·have h1:=dF h1;refine s_gb hs st2 ?_;unfold F_vc;refine⟨λh2=>bad hc (.inr (dT h2)),λh2=>⟨rfl,st.writable 0,λw1 hw1=> ?_⟩⟩;have h2:=dF h2;obtain⟨n,rfl⟩:=toN (show 0<=last by omega);have st1:St w0 (((b,fdV (Z0 sb) m.at_ n m.win (some mb) hp m.closed)::(hcs++scs))++fr) w1:=st.put0 hw1;have e:zpj (some m) (n:Int)=(0,some { m with fed:=n }):=by show(if _ then _ else if _ then _ else _)=_; rw [if_neg (by rw [hc]; decide),if_neg O_]; rfl
   rw [e] at k;exact k _ w1 ⟨b,sb,rfl,rfl,mb,hp,hcs,scs,ok.more O_ O_,rfl,hm,hs,hh⟩ st1
theorem s_7c {mark:Int} {R:Int->WP} (hv:∀ q∈v0.mp,q∈w0.mp) (o:FdO v0 sp m f cs) (st:St w0 (cs++fr) w) (k:∀ w',St w0 (cs++fr) w'->R (canM m mark) w'):C_Xc f mark w R:=by
 apply S_Qc;unfold F_dg;refine s_m hv o st ⟨λh=> ?_,λh=> ?_⟩
 ·cases m with
  | none=>exact k w st
  | some m=>cases h
 cases m with
 | none=>cases h
 | some m =>
  obtain⟨b,sb,rfl,rfl,o⟩:=o;obtain⟨mb,hp,hcs,scs,ok,rfl,hm,hs,hh⟩:=id o;refine⟨rfl,hp,st.cell 0 rfl rfl,?_⟩;cases ht:m.held with
  | none =>
   rw [ht] at hh;obtain⟨rfl,rfl⟩:=hh;have e:canM (some m) mark=(if m.closed then 0 else if m.at_<m.fed then 1 else 0):=by unfold canM; simp only [ht]
   rw [e] at k;refine⟨N_,λ_=> ?_⟩;unfold F_Lc;refine⟨N_,λ_=>⟨rfl,none,st.cell 0 rfl rfl,N_,λ_=> ?_⟩⟩;unfold F_Kc;refine⟨N_,λ_=>⟨rfl,none,st.cell 0 rfl rfl,N_,λ_=>⟨rfl,m.closed,st.cell 0 rfl rfl,?_⟩⟩⟩;unfold F_Jc F_Ic F_Z;refine⟨λh=> ?_,λh=>⟨rfl,_,st.cell 0 rfl rfl,rfl,_,st.cell 0 rfl rfl,λw1 e1=>⟨λh2=> ?_,λh2=> ?_⟩⟩⟩
   ·rw [if_pos h] at k; exact k w st
   ·have h2:=dT h2;rw [if_neg (by rw [h]; decide),if_neg O_] at k; exact k w1 (st.keep e1)
   ·have h2:=dF h2;rw [if_neg (by rw [h]; decide),if_pos O_] at k; exact k w1 (st.keep e1)
  | some t =>
   have e:canM (some m) mark=(if t.1∈m.bey then 2 else if zzg m t mark then 3 else 0):=by unfold canM; simp only [ht]
   rw [e] at k;rw [ht] at hh;obtain⟨hb,s,rb,rfl,rfl,rs⟩:=hh;refine⟨λ_=>s_T hv o st ht λw1 st=> ?_,N_⟩;unfold F_Lc F_Z;refine⟨λh=> ?_,λh=>⟨rfl,_,st.cell 0 rfl rfl,λ_=>s_hb hv o st ht λw2 st=> ?_,N_⟩⟩
   ·rw [if_pos (dT h)] at k; exact k w1 st
   have h:=dF h;rw [if_neg h] at k;unfold F_Kc F_Z;refine⟨λh=> ?_,λh=>⟨rfl,_,st.cell 0 rfl rfl,λ_=> ?_,N_⟩⟩
   ·rw [if_pos (dT h)] at k; exact k w2 st
   ·rw [if_neg (dF h)] at k;unfold F_Jc F_Ic;exact⟨λ_=>k w2 st,N_⟩
theorem s_Sc {R:Int->Int->WP} (hv:∀ q∈v0.mp,q∈w0.mp) (o:FdO v0 sp m f cs) (st:St w0 (cs++fr) w) (k:∀ cs' w',FdO v0 sp (zAg m).2.2 f cs'->St w0 (cs'++fr) w'->R (zAg m).1 (zAg m).2.1 w'):C_Ec f w R:=by
 apply S_wc;unfold F_ge;refine s_m hv o st ⟨λh=> ?_,λh=> ?_⟩
 ·cases m with
  | none=>exact k cs w o st
  | some m=>cases h
 cases m with
 | none=>cases h
 | some m =>
  obtain⟨b,sb,rfl,rfl,o⟩:=o;obtain⟨mb,hp,hcs,scs,ok,rfl,hm,hs,hh⟩:=id o;refine⟨rfl,hp,st.cell 0 rfl rfl,?_⟩;cases ht:m.held with
  | some t =>
   have e:zAg (some m)=(0,10,some m):=by unfold zAg; simp only [ht]
   rw [e] at k;rw [ht] at hh;obtain⟨hb,s,rb,rfl,rfl,rs⟩:=hh;exact⟨λ_=>k _ w ⟨b,sb,rfl,rfl,o⟩ st,N_⟩
  | none =>
   have e:zAg (some m)=(if m.closed then(0,12,some m) else if m.at_<m.fed then(((m.at_+1:Nat):Int),0,some { m with at_:=m.at_+1,held:=m.ts[m.at_]? }) else(0,9,some m)):=by unfold zAg; simp only [ht]
   rw [e] at k;rw [ht] at hh;obtain⟨rfl,rfl⟩:=hh;refine⟨N_,λ_=>⟨rfl,m.closed,st.cell 0 rfl rfl,λhc=> ?_,λhc=>⟨rfl,_,st.cell 0 rfl rfl,rfl,_,st.cell 0 rfl rfl,λw1 e1=>⟨λh2=> ?_,λh2 w2 hw2=> ?_⟩⟩⟩⟩
   ·rw [if_pos hc] at k; exact k _ w ⟨b,sb,rfl,rfl,o⟩ st
   ·have h2:=dT h2;rw [if_neg (by rw [hc]; decide),if_neg O_] at k; exact k _ w1 ⟨b,sb,rfl,rfl,o⟩ (st.keep e1)
   have h2:=dF h2;rw [if_neg (by rw [hc]; decide),if_pos O_] at k;have hlen:=ok.len;have hfl:=ok.fl;have haf:=ok.af;have wa:i64.wrap ((m.at_:Int)+1)=((m.at_+1:Nat):Int):=W_;have st:=(st.keep e1).drew hw2;have hal:(askL m).length<=1099511627776:=by rw [zvl]; omega
   have hask:=zdk ok.ma (m.ts[m.at_]?)
   have fin:∀(t:Tx) (s:Slc) (rb scs':List zb) (tb:Nat) (w':World),m.ts[m.at_]? =some t->RowC 3 s (t.2.flatMap wV) rb->SrcO sb m.ts (askL m++[((m.at_+1:Nat):Int)]) scs' ->
       St w0 ((b,fdV (Z0 sb) m.at_ m.fed m.win (some mb) none m.closed)::(tb,txW t.1 s)::(rb++(scs'++fr))) w'->F_ob (Z0 b) R (Z0 tb) 0 w':=λt s rb scs' tb w' hts rs so st=>by
    unfold F_ob;refine⟨λh=>absurd h D_,λ_=>⟨rfl,_,st.cell 0 rfl rfl,st.writable 0,λw4 hw4=> ?_⟩⟩;rw [wa] at hw4;have st4:=st.put0 hw4;refine⟨rfl,st4.writable 0,λw5 hw5=> ?_⟩;have st5:St w0 ((b,fdV (Z0 sb) ((m.at_+1:Nat):Int) m.fed m.win (some mb) (Z0 tb) m.closed)::(tb,txW t.1 s)::(rb++(scs'++fr))) w5:=st4.put0 hw5;refine⟨rfl,t.1,st5.cell 1 rfl rfl,?_⟩;obtain⟨_,hn⟩:=zpc ok.chk hts;have ok':=ok.read (show m.at_<m.fed by omega);rw [show t.1=((m.at_+1:Nat):Int) from by rw [hn]; omega];refine k ((b,fdV (Z0 sb) ((m.at_+1:Nat):Int) m.fed m.win (some mb) (Z0 tb) m.closed)::(((tb,txW t.1 s)::rb)++scs')) w5 ⟨b,sb,rfl,rfl,mb,some ⟨tb,0,none⟩,(tb,txW t.1 s)::rb,scs',ok',rfl,hm,?_,?_⟩ (st5.pq)
    ·rw [hask]; exact so
    ·show zmp (m.ts[m.at_]?) _ _;rw [hts]; exact⟨tb,s,rb,rfl,rfl,rs⟩
   refine⟨rfl,_,st.cell 0 rfl rfl,rfl,_,st.cell 0 rfl rfl,?_,λb1 w3 hb1 hw3=> ?_⟩
   ·rw [wa];have st2:St w0 (scs++((b,fdV (Z0 sb) m.at_ m.fed m.win (some mb) none m.closed)::fr)) w2:=st.pq;refine s_xb hs st2 hal O_ (λh=>absurd ⟨O_,O_⟩ h) λp t hp ht s rb scs' w3 rs hsl so st3 b1 w4 hb1 hw4=> ?_;obtain rfl:p=m.at_:=O_;have st4:=st3.alloc (cs:=txW 0 ⟨none,0,0⟩) hb1 hw4;refine⟨st4.writable 0 rfl D_,λw5 hw5=> ?_⟩;have st5:St w0 ((b1,txW t.1 s)::(rb++(scs'++((b,fdV (Z0 sb) m.at_ m.fed m.win (some mb) none m.closed)::fr)))) w5:=st4.put0 hw5;exact fin t s rb scs' b1 w5 ht rs so (st5.pq)
   ·have st3:=st.alloc (cs:=txW 0 ⟨none,0,0⟩) hb1 hw3;refine⟨st3.cell 1 rfl rfl,st3.cell 1 rfl rfl,?_⟩;rw [wa];have st2:St w0 (scs++((b1,txW 0 ⟨none,0,0⟩)::(b,fdV (Z0 sb) m.at_ m.fed m.win (some mb) none m.closed)::fr)) w3:=st3.pq;refine s_xb hs st2 hal O_ (λh=>absurd ⟨O_,O_⟩ h) λp t hp ht s rb scs' w4 rs hsl so st4=> ?_;obtain rfl:p=m.at_:=O_;have st4:St w0 ((b1,txW 0 ⟨none,0,0⟩)::(b,fdV (Z0 sb) m.at_ m.fed m.win (some mb) none m.closed)::(rb++(scs'++fr))) w4:=st4.pq;refine⟨st4.writable 0 rfl D_,λw5 hw5=> ?_⟩;have st5:St w0 ((b1,txW t.1 s)::(b,fdV (Z0 sb) m.at_ m.fed m.win (some mb) none m.closed)::(rb++(scs'++fr))) w5:=st4.put0 hw5;exact fin t s rb scs' b1 w5 ht rs so (st5.pq)
theorem s_rb {mark:Int} {R:T_c->Int->WP} (hv:∀ q∈v0.mp,q∈w0.mp) (o:FdO v0 sp m f cs) (st:St w0 (cs++fr) w)
    (k:∀ s rb cs' w',RowC 3 s ((zNe m mark).1.2.flatMap wV) rb->s.len=(zNe m mark).1.2.length->FdO v0 sp (zNe m mark).2.2 f cs'->St w0 (rb++(cs'++fr)) w'->R ⟨(zNe m mark).1.1,s⟩ (zNe m mark).2.1 w'):C_z f mark w R:=by
 apply S_kb;unfold F_De;intro b1 w1 hb1 hw1;have st1:=st.alloc (cs:=txW 0 ⟨none,0,0⟩) hb1 hw1;have st1:St w0 (cs++((b1,txW 0 ⟨none,0,0⟩)::fr)) w1:=st1.pq
 have no:∀ {e:Int} {w':World},zNe m mark=(zeroT,e,m)->St w0 (cs++((b1,txW 0 ⟨none,0,0⟩)::fr)) w'->zr w' b1 0 2/\∀ w3,w3=World.puts b1 0 [Vi 0,Ns] w'->∃ res:T_c,zf w3 b1 0 [Vi res.Number,Vs res.Writes]/\R res e w3:=λ{e w'} he st=>by
  have st2:St w0 ((b1,txW 0 ⟨none,0,0⟩)::(cs++fr)) w':=st.pq;refine⟨st2.writable 0 rfl D_,λw3 hw3=>⟨⟨0,⟨none,0,0⟩⟩,?_⟩⟩;have st3:St w0 ((b1,txW 0 ⟨none,0,0⟩)::(cs++fr)) w3:=st2.put0 hw3;rw [he] at k;exact⟨⟨st3.cell 0 rfl rfl,st3.cell 0 rfl rfl,trivial⟩,k ⟨none,0,0⟩ [] cs w3 RowC.nil rfl o st3.drop1⟩
 refine s_m hv o st1 ⟨λh=> ?_,λh=> ?_⟩
 ·cases m with
  | none=>exact no rfl st1
  | some m=>cases h
 cases m with
 | none=>cases h
 | some m =>
  obtain⟨b,sb,rfl,rfl,o⟩:=o;obtain⟨mb,hp,hcs,scs,ok,rfl,hm,hs,hh⟩:=id o;refine⟨rfl,hp,st1.cell 0 rfl rfl,?_⟩;cases ht:m.held with
  | none =>
   have e:zNe (some m) mark=(zeroT,9,some m):=by unfold zNe; simp only [ht]
   rw [ht] at hh;obtain⟨rfl,rfl⟩:=hh;exact⟨λ_=>no e st1,N_⟩
  | some t =>
   have e:zNe (some m) mark=(if t.1∈m.bey\/¬ zzg m t mark then(zeroT,6,some m) else(t,0,some { m with held:=none })):=by unfold zNe; simp only [ht]
   have hkeep:=o;rw [ht] at hh;obtain⟨hb,s,rb,rfl,rfl,rs⟩:=hh;refine⟨N_,λ_=>s_T hv o st1 ht λw2 st2=>⟨λh=> ?_,λh=>s_hb hv o st2 ht λw3 st3=> ?_⟩⟩
   ·have h:=dT h;unfold F_ib;exact⟨λ_=>no (by rw [e,if_pos (.inl h)]) st2,N_⟩
   ·have h:=dF h;unfold F_ib;refine⟨λh2=> ?_,λh2=> ?_⟩
    ·have h2:¬ zzg m t mark:=by simpa using h2
     exact no (by rw [e,if_pos (.inr h2)]) st3
    ·have h2:zzg m t mark:=by simpa using h2
     rw [e,if_neg (λh3=>h3.elim h λh4=>h4 h2)] at k;have st3:St w0 ((b,fdV (Z0 sb) m.at_ m.fed m.win (some mb) (Z0 hb) m.closed)::(hb,txW t.1 s)::(b1,txW 0 ⟨none,0,0⟩)::(rb++(scs++fr))) w3:=st3.pq;refine⟨rfl,_,st3.cell 0 rfl rfl,rfl,⟨t.1,s⟩,⟨st3.cell 1 rfl rfl,st3.cell 1 rfl rfl,trivial⟩,λb2 w4 hb2 hw4=> ?_⟩;have st4:=st3.alloc (cs:=txW 0 ⟨none,0,0⟩) hb2 hw4;refine⟨st4.writable 0 rfl D_,λw5 hw5=>⟨rfl,?_⟩⟩;have st5:=st4.put0 hw5;have st5:St w0 ((b2,txW t.1 s)::(b,fdV (Z0 sb) m.at_ m.fed m.win (some mb) (Z0 hb) m.closed)::(hb,txW t.1 s)::(b1,txW 0 ⟨none,0,0⟩)::(rb++(scs++fr))) w5:=st5;refine⟨st5.writable 1,λw6 hw6=> ?_⟩;have st6:St w0 ((b2,txW t.1 s)::(b,fdV (Z0 sb) m.at_ m.fed m.win (some mb) none m.closed)::(hb,txW t.1 s)::(b1,txW 0 ⟨none,0,0⟩)::(rb++(scs++fr))) w6:=st5.put1 hw6;refine⟨⟨t.1,s⟩,⟨st6.cell 0 rfl rfl,st6.cell 0 rfl rfl,trivial⟩,?_⟩;have st6:St w0 ((b1,txW 0 ⟨none,0,0⟩)::(rb++(((b,fdV (Z0 sb) m.at_ m.fed m.win (some mb) none m.closed)::([]++scs))++fr))) w6:=st6.wq [(b2,txW t.1 s),(hb,txW t.1 s)];refine⟨st6.writable 0 rfl D_,λw7 hw7=>⟨⟨t.1,s⟩,?_⟩⟩;have st7:St w0 ((b1,txW t.1 s)::(rb++(((b,fdV (Z0 sb) m.at_ m.fed m.win (some mb) none m.closed)::([]++scs))++fr))) w7:=st6.put0 hw7;exact⟨⟨st7.cell 0 rfl rfl,st7.cell 0 rfl rfl,trivial⟩,k s rb _ w7 rs (by have:=rs.len; rw [zc zze] at this; show s.len=t.2.length; omega) ⟨b,sb,rfl,rfl,mb,none,[],scs,ok.drop,rfl,hm,hs,rfl,rfl⟩ st7.drop1⟩
end
def zBg (mark:Int) (bs:List Int) (p:Nat):Int:=(bs.take p).getLastD mark
theorem zdd (mark:Int) (bs:List Int):zBg mark bs 0=mark:=rfl
theorem z8f {mark x:Int} {bs:List Int} {p:Nat} (h:bs[p]? =some x):zBg mark bs (p+1)=x:=by
 unfold zBg;rw [bL,h];simp
def zGm (mark:Int) (bs:List Int) (i:Nat) (x:Int):Prop:=zBg mark bs i<x/\(i=0->mark<x - 1)
def upBx (mark:Int) (bs:List Int) (p:Nat):Prop:=∀ i x,i<p->bs[i]? =some x->zGm mark bs i x
theorem zwl {mark x:Int} {bs:List Int} {p:Nat} (h:upBx mark bs p) (hx:bs[p]? =some x) (hs:zGm mark bs p x):upBx mark bs (p+1):=λi y hi hy=>by
 by_cases hip:i=p
 ·subst hip;rw [hx] at hy;obtain rfl:=aE hy;exact hs
 ·exact h i y O_ hy
theorem z6h {mark:Int} {bs:List Int}:∀ {p:Nat},upBx mark bs p->p<=bs.length->(∀ x∈bs.take p,x<=zBg mark bs p)/\mark<=zBg mark bs p
 | 0,_,_=>⟨λx hx=>by simp at hx,eO _⟩
 | p+1,h,hp=>by
  obtain⟨a,b⟩:=z6h (p:=p) (λi x hi hx=>h i x O_ hx) O_;have hx:bs[p]? =some (bs[p]'O_):=aA O_;have hs:=h p _ O_ hx;have hl:=hs.1;rw [z8f hx];refine⟨λy hy=> ?_,O_⟩;rw [bL,hx] at hy;rcases aG.1 hy with hy | hy
  ·have:=a y hy; omega
  ·have:y=bs[p]:=by simpa using hy
   omega
open Classical in
noncomputable def zqc (ts:List Tx) (mark:Int) (bs:List Int) (win:Int):Int :=
 if mark<0\/win<1\/win>64 then 1 else if ¬ upBx mark bs bs.length then 1 else if zBg mark bs bs.length>((ts.length:Nat):Int) then 6 else 0
def zjf (ts:List Tx) (mark:Int) (bs:List Int) (win:Int):FdM:=⟨ts,mark.toNat,mark.toNat,mark.toNat,win.toNat,bs,none,false⟩
theorem zek {ts:List Tx} {mark win:Int} {bs:List Int} (hc:chkL 1 ts=0) (h1:¬ (mark<0\/win<1\/win>64)) (h2:upBx mark bs bs.length) (h3:¬ zBg mark bs bs.length>((ts.length:Nat):Int)):(zjf ts mark bs win).Ok:=by
 have:=(z6h h2 (bC _)).2;refine⟨hc,bC _,bC _,?_,?_,λt ht=>(by cases ht)⟩
 ·show mark.toNat<=ts.length; omega
 ·show win.toNat<=64; omega
theorem zqj (ts:List Tx) (mark win:Int) (bs:List Int):askL (zjf ts mark bs win)=[]:=by unfold askL zjf; simp
theorem z7h {es:Array MapEntry} {n k:Int} {c:Nat}:zFb (es.push ⟨.int .i64 n,.agg #[],c⟩) k=(zFb es k||decide (n=k)):=by
 unfold zFb;simp
theorem z8h {es:Array MapEntry} {n:Int} {c:Nat} (h:z6c es):z6c (es.push ⟨.int .i64 n,.agg #[],c⟩):=by
 intro e he;rw [Array.toList_push] at he;rcases aG.1 he with he | he
 ·exact h e he
 ·have:e=⟨.int .i64 n,.agg #[],c⟩:=by simpa using he
  subst this; exact⟨⟨n,rfl⟩,rfl⟩
section
variable {w0:Base} {w:World} {fr scs:List zb} {sb:Nat} {ts:List Tx}
theorem s_8c {mark window:Int} {beyond:Slc} {bs:List Int} {R:OA->Int->WP} (hc:chkL 1 ts=0) (o:SrcO sb ts [] scs) (st:St w0 (scs++fr) w) (hb:∀ {l':List zb} {w':World},St w0 (l'++(scs++fr)) w'->zj w' beyond 1 (bs.map Vi))
    (hl:beyond.len<=17592186043904) (hm: -9223372036854775808<=mark/\mark<=9223372036854775807) (hbs:∀ x∈bs,-9223372036854775808<=x/\x<=9223372036854775807)
    (k0:zqc ts mark bs window≠0->∀ w',St w0 (scs++fr) w'->R none (zqc ts mark bs window) w')
    (k1:zqc ts mark bs window=0->∀ fm b cs w',FdS ⟨w0.w,fm⟩ sb (zjf ts mark bs window) b cs->St ⟨w0.w,fm++w0.mp⟩ (cs++fr) w'->R (Z0 b) 0 w'):C_wd (Z0 sb) mark beyond window w R:=by
 classical
 apply S_pd;unfold F_tg;have hbl:beyond.len=bs.length:=(hb (l':=[]) st).len_eq;refine⟨N_,λ_=>⟨λh=> ?_,λh b w1 hb1 hw1=> ?_⟩⟩
 ·simp only [cE,decide_eq_true_eq] at h;have e:zqc ts mark bs window=1:=by unfold zqc; rw [if_pos O_]
  rw [e] at k0;exact k0 D_ w st
 simp only [cD,decide_eq_false_iff_not] at h;have hg:¬ (mark<0\/window<1\/window>64):=O_;have st1:St ⟨w0.w,(b,.map #[] 0)::w0.mp⟩ (scs++fr) w1:=st.newObj hb1 hw1 (λ_ _ _ h=>by cases h);have back:∀ {x:Nat×Obj} {l:List zb} {w':World},St ⟨w0.w,x::w0.mp⟩ l w'->St w0 l w':=λ{x l w'} st'=>St.forget (a:=[x]) (b:=w0.mp) (W:=w0.w) st'
 refine⟨λlast i w'=>∃(p:Nat) (es:Array MapEntry) (c:Nat),i=(p:Int)/\p<=beyond.len/\last=zBg mark bs p/\upBx mark bs p/\z6c es/\(∀ n,zFb es n=decide (n∈bs.take p))/\St ⟨w0.w,(b,.map es c)::w0.mp⟩ (scs++fr) w',λ_ i _=>beyond.len - i.toNat,
  ⟨0,#[],0,rfl,O_,rfl,λi x hi=>by omega,λe he=>by simp at he,λn=>by simp [zFb],st1⟩,?_⟩
 clear st st1 hw1 hb1;rintro last i w2 ⟨p,es,c,rfl,hp,rfl,hup,hmi,hmh,st⟩;have hmp:w2.heap[b]? =some (.map es c):=st.objAt 0 rfl;obtain⟨hle,hml⟩:=z6h hup O_;unfold F_8d;refine⟨λhi=> ?_,λhi=> ?_⟩
 ·have hi:=dT hi;obtain⟨a,x,hx,hcx⟩:=zj.get (hb (l':=[]) (back st)) (i:=(p:Int)) O_ hi;rw [tN] at hx;have hxr:=hbs x (mG hx);refine⟨a,O_,hi,x,hcx,λh2=> ?_,λh2=> ?_⟩
  ·have e:zqc ts mark bs window=1:=by
     unfold zqc;rw [if_neg hg,if_pos];intro hall;have hst:=hall p x O_ hx;simp only [cE,aD,decide_eq_true_eq,beq_iff_eq] at h2;rcases h2 with h2 | ⟨h2,h3⟩
     ·have:=hst.1; omega
     ·have hp0:p=0:=O_;have h4:=hst.2 hp0;have h5:=hst.1;subst hp0;rw [zdd] at h3 h5;rw [i64_in _ O_ O_] at h3;omega
   rw [e] at k0;exact k0 D_ w2 (back st)
  ·simp only [cD,fA,decide_eq_false_iff_not] at h2
   have hst:zGm mark bs p x:=⟨O_,λhp0=>by
    subst hp0;rcases h2.2 with h3 | h3
    ·simp at h3
    ·rw [zdd] at h3;have h4:=h2.1;rw [zdd] at h4;rw [i64_in _ O_ O_] at h3;omega⟩
   have hno:zFb es x=false:=by
    rw [hmh,decide_eq_false];intro hx2;have:=hle x hx2;have:=hst.1;omega
   refine⟨b,es,c,rfl,hmp,hmi,hno,λw3 hw3=> ?_⟩;have st3:=St.turn (a:=[]) (b:=w0.mp) (W:=w0.w) st hw3 (o':= .map (es.push ⟨.int .i64 x,Value.agg #[],c⟩) (c+1)) (λ_ _ _ h=>by cases h);have wp:i64.wrap ((p:Int)+1)=((p+1:Nat):Int):=W_;rw [wp];refine⟨⟨p+1,_,_,rfl,O_,(z8f hx).symm,zwl hup hx hst,z8h hmi,λn=> ?_,st3⟩,L_⟩;rw [z7h,hmh,bL,hx,<-Bool.decide_or];refine decide_eq_decide.2 ?_;simp only [aG,dY,bK];exact⟨λh=>h.elim .inl λh=> .inr h.symm,λh=>h.elim .inl λh=> .inr h.symm⟩
 ·have hi:=dF hi;have hpe:p=bs.length:=O_;subst hpe;refine s_gb o st ⟨λh2=> ?_,λh2 b1 w3 hb1 hw3=> ?_⟩
  ·have h2:=dT h2;have e:zqc ts mark bs window=6:=by unfold zqc; rw [if_neg hg,if_neg (λhn=>hn hup),if_pos h2]
   rw [e] at k0;exact k0 D_ w2 (back st)
  ·have h2:=dF h2;have e:zqc ts mark bs window=0:=by unfold zqc; rw [if_neg hg,if_neg (λhn=>hn hup),if_neg h2]
   have st3:=st.alloc (cs:=fdV (Z0 sb) mark mark window (some b) none false) hb1 hw3;rw [cU] at hmh;have hmk:(((zjf ts mark bs window).at_:Nat):Int)=mark:=by show((mark.toNat:Nat):Int)=mark; omega
   have hwk:(((zjf ts mark bs window).win:Nat):Int)=window:=by show((window.toNat:Nat):Int)=window; omega
   refine k1 e [(b,.map es c)] b1 ((b1,fdV (Z0 sb) mark mark window (some b) none false)::([]++scs)) w3 ⟨b,none,[],scs,zek hc hg hup h2,?_,⟨es,c,aI ..,hmi,hmh⟩,by rw [zqj]; exact o,rfl,rfl⟩ (st3.pq);rw [show(((zjf ts mark bs window).fed:Nat):Int)=mark from hmk,hmk,hwk]; rfl
end
def fnvF:Int->List UInt8->Int
 | h,[]=>h
 | h,x::r=>fnvF (u32.wrap (bxor .u32 h (u32.wrap (x.toNat:Int))*16777619)) r
theorem zrj {s:ByteArray} {i:Int} (h0:0<=i) (h1:i<((s.size:Nat):Int)):∃ x,s.data.toList[i.toNat]? =some x/\zCe s i=(x.toNat:Int):=by
 have hl:i.toNat<s.data.toList.length:=by have:s.data.toList.length=s.size:=by simp
                                          omega
 refine⟨s.data.toList[i.toNat],aA hl,?_⟩;unfold zCe;rw [cF,aA hl];rfl
theorem s_oc {key:ByteArray} {w:World} {R:Int->WP} (hl:key.size<=140737488351232) (h:R (fnvF 2166136261 key.data.toList) w):C_zd key w R:=by
 apply S_qd;unfold F_ug;have hlen:key.data.toList.length=key.size:=by simp
 refine⟨λn i w'=>w'=w/\0<=i/\i<=key.size/\fnvF n (key.data.toList.drop i.toNat)=fnvF 2166136261 key.data.toList,λn i w'=>key.size - i.toNat,⟨rfl,O_,O_,by simp⟩,?_⟩;rintro n i _ ⟨rfl,h0,h1,hb⟩;unfold F_ae;refine⟨λhi=> ?_,λhi=> ?_⟩
 ·have hi:=dT hi;obtain⟨x,hx,hc⟩:=zrj h0 hi;rw [zYi hx,fnvF] at hb;have hw:=ztf h0 hi O_;refine⟨h0,hi,⟨rfl,O_,O_,?_⟩,by simp only [hw]; omega⟩;rw [hw,zsc h0,hc]; exact hb
 ·have hi:=dF hi;rw [zKl O_,fnvF] at hb;rw [<-hb] at h; exact h
abbrev Cfg:=T_j
abbrev cfgV (c:Cfg):List Value:=[Vi c.Lanes,Vi c.Shards,Vi c.Window,Vi c.Queue]
def zsj (c:Cfg):List (Int×Int):=[(c.Lanes,16),(c.Shards,16),(c.Window,64),(c.Queue,16)]
def chk:List (Int×Int)->Int
 | []=>0
 | (x,m)::r=>if x<1\/x>m then 7 else chk r
def zih (c:Cfg):Prop:=(1<=c.Lanes/\c.Lanes<=16)/\(1<=c.Shards/\c.Shards<=16)/\(1<=c.Window/\c.Window<=64)/\(1<=c.Queue/\c.Queue<=16)
instance (c:Cfg):Decidable (zih c):=by unfold zih; exact inferInstance
def zV (c:Cfg):Int:=if zih c then 0 else 7
theorem zjh (c:Cfg):chk (zsj c)=zV c:=by
 unfold zsj zV zih;simp only [chk]
 repeat' split
 all_goals first | rfl | omega
theorem ztj {w:World} {b:Nat} {c:Cfg} (h:Blk w b [Vi c.Lanes,Vi 16,Vi c.Shards,Vi 16,Vi c.Window,Vi 64,Vi c.Queue,Vi 16])
    {t:Int} (h0:0<=t) (h1:t<4):∃ x m,(zsj c).drop t.toNat=(x,m)::(zsj c).drop (t.toNat+1)/\zf w b (0+t.toNat*2) [Vi x,Vi m]:=by
 have:t=0\/t=1\/t=2\/t=3:=O_;rcases this with rfl | rfl | rfl | rfl
 ·exact⟨_,_,rfl,h.cell rfl,h.cell rfl,trivial⟩
 ·exact⟨_,_,rfl,h.cell rfl,h.cell rfl,trivial⟩
 ·exact⟨_,_,rfl,h.cell rfl,h.cell rfl,trivial⟩
 ·exact⟨_,_,rfl,h.cell rfl,h.cell rfl,trivial⟩
theorem s_h {c:Cfg} {w:World} {R:Int->WP} (h:∀ w',Ext w w'->R (zV c) w'):C_db c w R:=by
 apply S_ed;unfold F_Ig;intro b w1 hb hw;have k:Blk w1 b (cfgV c):=Blk.new hb hw;have e1:Ext w w1:=Ext.new hw;refine⟨c.Lanes,k.cell rfl,c.Shards,k.cell rfl,c.Window,k.cell rfl,c.Queue,k.cell rfl,λb1 w2 hb1 hw2=> ?_⟩;have k2:=Blk.new hb1 hw2;have e2:Ext w w2:=e1.trans (Ext.new hw2);have hlt:=k2.lt;refine⟨λt w'=>0<=t/\t<=4/\Ext w2 w'/\chk ((zsj c).drop t.toNat)=chk (zsj c),λt w'=>4 - t.toNat,⟨O_,O_,Ext.refl _,rfl⟩,?_⟩;rintro t w3 ⟨h0,h1,e3,hc⟩;have k3:=k2.ext e3;unfold F_7f;refine⟨λhi=> ?_,λhi=> ?_⟩
 ·have hi:t<4:=dT hi;have hw':i64.wrap (t+1)=t+1:=i64_in _ O_ O_;obtain⟨x,m,hd,hcl⟩:=ztj k3 h0 hi;rw [hd,chk] at hc;refine⟨h0,hi,⟨x,m⟩,hcl,λb2 w4 hb2 hw4=> ?_⟩;have k4:=Blk.new hb2 hw4;have e4:Ext w3 w4:=Ext.new hw4;refine⟨k4.writable (by simp),λw5 hw5=> ?_⟩;have k5:=k4.puts [Vi x,Vi m] (o:=0);rw [<-hw5] at k5;have k5:Blk w5 b2 [Vi x,Vi m]:=k5;have hb2':w3.heap.size<=b2:=O_;have e5:Ext w3 w5:=hw5 ▸ zle _ e4 hb2'
  have bad:(x<1\/x>m)->R 7 w5:=λhx=>by
   rw [if_pos hx,zjh] at hc;rw [hc];exact h _ ((e2.trans e3).trans e5)
  refine⟨O_,O_,x,k5.cell rfl,λhx=> ?_,λhx=> ?_⟩
  ·exact⟨λ_=>bad (.inl (dT hx)),λhh=>by cases hh⟩
  ·have hx:=dF hx;refine⟨O_,O_,x,k5.cell rfl,O_,O_,m,k5.cell rfl,λhh=>bad (.inr (dT hh)),λhh=> ?_⟩;have hh:=dF hh;rw [if_neg O_] at hc;refine⟨⟨O_,O_,e3.trans e5,by rw [hw',zsc h0]; exact hc⟩,by simp only [hw']; omega⟩
 ·have hi:¬ t<4:=dF hi;rw [show t.toNat=4 from by omega,zjh] at hc;have hc:(0:Int)=zV c:=hc;rw [hc];exact h _ (e2.trans e3)
def zkb (c:Cfg) (key:ByteArray):Int×Int :=
 if zV c≠0 then(0,zV c) else if key.size=0\/key.size>64 then(0,1) else(Int.tmod (fnvF 2166136261 key.data.toList) c.Shards,0)
theorem z7 {c:Cfg} (h:zV c=0):zih c:=by
 unfold zV at h;split at h
 ·assumption
 ·cases h
theorem zkf (s:ByteArray):s.toList=s.data.toList:=ByteArray.toList_eq s
theorem zTb (s:ByteArray):(s.toList==Be.toList)=decide (s.size=0):=by
 rw [zkf,zkf];have:s.data.toList.length=s.size:=by simp
 cases h:s.data.toList with
 | nil=>rw [h] at this; simp only [eC] at this; rw [<-this]; rfl
 | cons a l=>rw [h] at this; simp only [aV] at this; rw [<-this]; simp
theorem z9h:∀(l:List UInt8) (h:Int),0<=h/\h<=4294967295->0<=fnvF h l/\fnvF h l<=4294967295
 | [],_,h=>h
 | x::r,h,_=>by
  rw [fnvF];exact z9h r _ (by rw [zXi]; omega)
theorem s_B {c:Cfg} {key:ByteArray} {w:World} {R:Int->Int->WP} (hk:key.size<=140737488351232) (h:∀ w',Ext w w'->R (zkb c key).1 (zkb c key).2 w'):C_3b c key w R:=by
 apply S_fd;unfold F_Jf;intro b w1 hb hw;have k:Blk w1 b (cfgV c):=Blk.new hb hw;have e1:Ext w w1:=Ext.new hw;refine⟨c,k.all,s_h λw2 e2=>⟨λhn=> ?_,λhn=> ?_⟩⟩
 ·have h:=h _ (e1.trans e2);unfold zkb at h;rw [if_pos (by simpa using hn)] at h;exact h
 ·have hc:zV c=0:=by simpa using hn
  have ok:=z7 hc;refine⟨λhs=> ?_,λhs=> ?_⟩
  ·have h:=h _ (e1.trans e2);unfold zkb at h;rw [zTb] at hs;simp only [cE,decide_eq_true_eq] at hs;rw [if_neg O_,if_pos O_] at h;exact h
  ·rw [zTb] at hs;simp only [cD,decide_eq_false_iff_not] at hs;have hm:=(z9h key.data.toList 2166136261 O_)
   unfold zih at ok;have hsw:u32.wrap c.Shards=c.Shards:=zqp _ O_ O_;refine⟨fnvF 2166136261 key.data.toList,λw' e'=>s_oc hk ⟨rfl,Ext.refl _⟩,c.Shards,(k.ext e2).cell rfl,by rw [hsw]; omega,λw4 e4=> ?_⟩;have h:=h _ ((e1.trans e2).trans e4);unfold zkb at h;rw [if_neg O_,if_neg O_] at h;rw [hsw];have h3:=eR (fnvF 2166136261 key.data.toList) (show 0<c.Shards by omega);have h4:=Int.tmod_nonneg c.Shards hm.1;rw [i64_in _ O_ O_];exact h
def zlf (x:Wr) (r:List Wr):Bool:= !(r.any λy=>decide (y.Key=x.Key))
def cntP:List Wr->Nat->List Wr
 | _,0=>[]
 | [],_+1=>[]
 | x::r,p+1=>(if zlf x r=true then [x] else [])++cntP r p
theorem zkh:∀ {ws:List Wr} {p:Nat} {x:Wr},ws[p]? =some x->cntP ws (p+1)=cntP ws p++(if zlf x (ws.drop (p+1))=true then [x] else [])
 | [],p,x,h=>by simp at h
 | y::r,0,x,h=>by
  have:y=x:=by simpa using h
  subst this;show(if zlf y r=true then [y] else [])++cntP r 0=[]++_;cases r <;> simp [cntP]
 | y::r,p+1,x,h=>by
  have h':r[p]? =some x:=by simpa using h
  show(if zlf y r=true then [y] else [])++cntP r (p+1)=((if zlf y r=true then [y] else [])++cntP r p)++_;rw [zkh h',aN]; rfl
theorem zfk (ws:List Wr):cntP ws 0=[]:=by cases ws <;> rfl
def z8 (ws:List Wr):List Wr:=cntP ws ws.length
theorem zZe:∀ {ws:List Wr} {p:Nat} {x:Wr},x∈cntP ws p->x∈ws
 | [],0,x,h=>by cases h
 | [],p+1,x,h=>by cases h
 | y::r,0,x,h=>by cases h
 | y::r,p+1,x,h=>by
  have h:x∈(if zlf y r=true then [y] else [])++cntP r p:=h;rcases aG.1 h with h | h
  ·split at h
   ·have:x=y:=by simpa using h
    subst this; exact aI ..
   ·cases h
  ·exact aJ _ (zZe h)
theorem zCg:∀(ws:List Wr) (p:Nat),(cntP ws p).length<=p
 | [],0=>bC _
 | [],p+1=>bU _
 | y::r,0=>bC _
 | y::r,p+1=>by
  have:=zCg r p;show((if zlf y r=true then [y] else [])++cntP r p).length<=p+1;rw [aB];split
  ·simp; omega
  ·simp; omega
structure LHd where
 n:Int
 ws:List Wr
 sent:Nat
 acked:Nat
structure LnM where
 num:Int
 c:Cfg
 held:Option LHd
abbrev Ln:=Option LnM
def zlh (m:Ln) (n:Int) (ws:List Wr):Ln×Int:=match m with
 | none=>(none,2)
 | some ⟨num,c,some h⟩=>(some ⟨num,c,some h⟩,10)
 | some ⟨num,c,none⟩=>if okT n ws then(some ⟨num,c,some ⟨n,z8 ws,0,0⟩⟩,0) else(some ⟨num,c,none⟩,1)
def zeroReq:T_d:=⟨0,0,0,⟨Be,Be,false⟩,Be,Be,⟨none,0,0⟩⟩
def reqV (r:T_d):List Value:=[Vb r.Kind,Vi r.From,Vi r.Number,Vt r.Write.Key,Vt r.Write.Val,Vo r.Write.Drop,Vt r.Key,Vt r.End,Vs r.Beyond]
def zje (num n:Int) (x:Wr):T_d:=⟨1,num,n,x,Be,Be,⟨none,0,0⟩⟩
def zEc:Ln->Int×T_d×Bool
 | some ⟨num,c,some h⟩=>match h.ws[h.sent]? with
  | some x=>((zkb c x.Key).1,zje num h.n x,true)
  | none=>(0,zeroReq,false)
 | _=>(0,zeroReq,false)
def zmh:Ln->Ln×Int
 | none=>(none,2)
 | some ⟨num,c,some h⟩=>if h.sent<h.ws.length then(some ⟨num,c,some ⟨h.n,h.ws,h.sent+1,h.acked⟩⟩,0) else(some ⟨num,c,some h⟩,9)
 | some ⟨num,c,none⟩=>(some ⟨num,c,none⟩,9)
def zAe:Ln->Ln×Int
 | none=>(none,2)
 | some ⟨num,c,some h⟩=>if h.acked<h.sent then(some ⟨num,c,some ⟨h.n,h.ws,h.sent,h.acked+1⟩⟩,0) else(some ⟨num,c,some h⟩,9)
 | some ⟨num,c,none⟩=>(some ⟨num,c,none⟩,9)
def z6l:Ln->Bool
 | some ⟨_,_,some h⟩=>decide (h.acked=h.ws.length)
 | _=>false
def zDg:Ln->Ln×Int×Int
 | none=>(none,0,2)
 | some ⟨num,c,some h⟩=>if h.acked=h.ws.length then(some ⟨num,c,none⟩,h.n,0) else(some ⟨num,c,some h⟩,0,10)
 | some ⟨num,c,none⟩=>(some ⟨num,c,none⟩,0,9)
def z7l:Ln->Int
 | some ⟨_,_,some h⟩=>h.n
 | _=>0
structure OkH (h:LHd):Prop where
 s:h.sent<=h.ws.length
 a:h.acked<=h.sent
 n:1<=h.n
 l:h.ws.length<=32
 k:∀ x∈h.ws,x.Key.size<=64
theorem zgk {n:Int} {ws:List Wr} (h:okT n ws):OkH ⟨n,z8 ws,0,0⟩:=by
 have h1:=zCg ws ws.length;have h2:=h.2.2.1;exact⟨bU _,bC _,h.1,by show(cntP ws ws.length).length<=32; omega,λx hx=>(h.2.2.2 x (zZe hx)).2.1⟩
theorem zHm (a b:ByteArray):(a.toList==b.toList)=decide (a=b):=by
 rw [ByteArray.toList_eq,ByteArray.toList_eq];by_cases h:a=b
 ·subst h; simp
 ·rw [decide_eq_false h];have:a.data.toList≠b.data.toList:=λe=>h (by cases a; cases b; congr; exact Array.toList_inj.1 e);simpa using this
theorem s_sb {w:World} {s:Slc} {us:List Wr} {b:Nat} {key:ByteArray} {R:Bool->WP} (hs:zj w s 3 (us.flatMap wV)) (hl:s.len<=1099511627776) (hk:∀ w',Ext w w'->w'.cell? ⟨b,0,none⟩=some (Vt key))
    (k:∀ w',Ext w w'->R (us.any λy=>decide (y.Key=key)) w'):C_b s (Value.func (.func 233) #[] #[Vp (Z0 b)]) w R:=by
 apply S_a;apply S_c;have hlen:=zye hs;refine⟨λi w'=>Ext w w'/\∃ p:Nat,i=(p:Int)/\p<=s.len/\us.any (λy=>decide (y.Key=key))=(us.drop p).any (λy=>decide (y.Key=key)),λi _=>s.len - i.toNat,⟨Ext.refl _,0,rfl,O_,rfl⟩,?_⟩;rintro i w1 ⟨e,p,rfl,hp,ha⟩;unfold F_7;refine⟨λhi=> ?_,λhi=> ?_⟩
 ·have hi:=dT hi;obtain⟨a,x,hx,hc⟩:=zhh (e.src hs) (i:=p) O_;have hpl:=(gSo hx).1
  have hdc:us.drop p=x::us.drop (p+1):=by
   rw [bO hpl];rw [aA hpl] at hx;rw [aE hx]
  rw [hdc,List.any_cons] at ha;have wp:i64.wrap ((p:Int)+1)=((p+1:Nat):Int):=W_;refine⟨a,O_,hi,x,by rw [tN]; exact hc,zw.mk (all:=#[Value.agg #[Vt x.Key,Vt x.Val,Vo x.Drop],Vp (Z0 b)]) K_ rfl ?_⟩
  have key1:C_ed x (Z0 b) w1 (λr w2=>r=decide (x.Key=key)/\Ext w1 w2):=by
   apply S_9b;intro b1 w2 hb hw;have kb:=Blk.new hb hw;have e1:Ext w1 w2:=Ext.new hw;exact⟨x.Key,kb.cell rfl,rfl,key,hk w2 (e.trans e1),zHm _ _,e1⟩
  refine Calls.mono key1 ?_;rintro e' w2 ⟨r,rfl,rfl,e2⟩;refine⟨_,rfl,λhb=> ?_,λhb=> ?_⟩
  ·have:=k w2 (e.trans e2);rw [ha,hb] at this;show R (decide ((p:Int)>=0)) w2;rw [decide_eq_true (show(p:Int)>=0 by omega)]; exact this
  ·rw [wp];refine⟨⟨e.trans e2,p+1,rfl,O_,?_⟩,L_⟩;rw [ha,hb]; rfl
 ·have hi:=dF hi;have:=k w1 e;rw [ha,cL O_] at this;exact this
section
variable {w0:Base} {w:World} {fr:List zb}
theorem s_pc {t:T_c} {ws:List Wr} {R:Slc->WP} (st:St w0 fr w) (hs:∀ {l':List zb} {w':World},St w0 (l'++fr) w'->zj w' t.Writes 3 (ws.flatMap wV)) (hl:t.Writes.len<=1099511627776) (hlc:t.Writes.len<=t.Writes.cap)
    (k:∀ s rb w',RowC 3 s ((z8 ws).flatMap wV) rb->St w0 (rb++fr) w'->R s w'):C_Yc t w R:=by
 apply S_Rc;unfold F_eg;intro b w1 hb hw;have st:St w0 ([(b,txW t.Number t.Writes)]++fr) w1:=st.alloc hb hw;have hsl:=zye (hs st);refine⟨t.Writes,st.cell 0 rfl rfl,λout i w'=>∃(p:Nat) (ob:List zb),i=(p:Int)/\p<=t.Writes.len/\out.len<=p/\RowC 3 out ((cntP ws p).flatMap wV) ob/\St w0 (ob++([(b,txW t.Number t.Writes)]++fr)) w',λ_ i _=>t.Writes.len - i.toNat,⟨0,[],rfl,O_,by show 0<=0; omega,by rw [zfk]; exact RowC.nil,st⟩,?_⟩;clear st;rintro out i w2 ⟨p,ob,rfl,hp,hol,ro,st⟩;unfold F_ef;have hsrc:∀ {l':List zb} {w':World},St w0 (l'++([(b,txW t.Number t.Writes)]++fr)) w'->zj w' t.Writes 3 (ws.flatMap wV):=λ{l' w'} st=>hs (l':=l'++[(b,txW t.Number t.Writes)]) (by simpa using st);refine⟨λhi=> ?_,λhi=> ?_⟩
 ·have hi:=dT hi;obtain⟨a,x,hx,hc⟩:=zhh (hsrc st) (i:=p) O_;have wp:i64.wrap ((p:Int)+1)=((p+1:Nat):Int):=W_;refine⟨a,O_,hi,x,by rw [tN]; exact hc,λb1 w4 hb1 hw4=> ?_⟩;have st:=st.alloc hb1 hw4;refine⟨st.writable 0 rfl (by simp),λw5 hw5=> ?_⟩;have st:St w0 ([(b1,wV x)]++(ob++([(b,txW t.Number t.Writes)]++fr))) w5:=st.put0 hw5;refine⟨t.Writes,(st.drop.drop.cell 0 rfl rfl),?_⟩;rw [wp];refine⟨⟨O_,O_,O_,O_⟩,λs hsc=> ?_⟩;have hl':s.len=t.Writes.len - (p+1):=by rw [hsc,Slc.cut_len O_ O_]; simp only [tN]
  have hcut:=(hsrc (l':=[(b1,wV x)]++ob) (by simpa using st)).cut (lo:=((p+1:Nat):Int)) (hi:=((t.Writes.len:Nat):Int)) (mx:=((t.Writes.cap:Nat):Int)) O_ O_ O_ O_;rw [<-hsc,tN,tN] at hcut
  have e1:((ws.flatMap wV).drop ((p+1)*3)).take ((t.Writes.len - (p+1))*3)=(ws.drop (p+1)).flatMap wV:=by
   conv=>lhs; rw [<-bM (p+1) ws,bE]
   rw [eD (by rw [zc zze,aZ,eV O_]),bF (by rw [zc zze,bJ]; omega)]
  rw [e1] at hcut;refine s_sb (key:=x.Key) hcut O_ (λw' e=>(st.keep e).cell 0 rfl rfl) λw6 e6=> ?_;have st:=st.keep e6;unfold F_Ed;rw [wp];have hcs:=zkh hx;refine⟨λhn=>⟨x,(st.get 0 rfl).all,λb2 w7 hb2 hw7=>⟨wV x,zJ hb2 hw7 rfl,?_⟩⟩,λhn=> ?_⟩
  ·refine ro.append (st.drop.keep (Ext.new hw7)) rfl rfl rfl (by show(out.len+1)*40<=_; omega) λo' ob' w8 ro' st' hl'=> ?_;refine⟨⟨p+1,ob',rfl,O_,O_,?_,st'⟩,L_⟩;rw [hcs,if_pos (show zlf x (ws.drop (p+1))=true from hn),bE,znj]; exact ro'
  ·refine⟨⟨p+1,ob,rfl,O_,O_,?_,st.drop⟩,L_⟩
   rw [hcs,if_neg (show ¬ zlf x (ws.drop (p+1))=true from λh=>by
    have h2:(!((ws.drop (p+1)).any λy=>decide (y.Key=x.Key)))=true:=h;rw [h2] at hn; cases hn),bZ]; exact ro
 ·have hi:=dF hi;have hpl:p=ws.length:=O_;rw [hpl] at ro;exact k out ob w2 ro st.skip2
end
def zGb (num:Int) (c:Cfg) (st:Value):List Value:=[Vi num,Vi c.Lanes,Vi c.Shards,Vi c.Window,Vi c.Queue,st]
def noneV:Value:=Value.iface 198 (Value.agg #[])
def zrc (bb:Nat):Value:=Value.iface 341 (Vp (Z0 bb))
def zhc (h:LHd) (left:Slc):List Value:=[Vi h.n,Vs left,Vi ((h.sent:Int) - h.acked)]
inductive LnO:OA->Ln->List zb->Prop
 | nil:LnO none none []
 | zero (b:Nat):LnO (Z0 b) none [(b,zGb 0 ⟨0,0,0,0⟩ .nilIface)]
 | idle (bl:Nat) (num:Int) (c:Cfg):LnO (Z0 bl) (some ⟨num,c,none⟩) [(bl,zGb num c noneV)]
 | busy (bl bb:Nat) (num:Int) (c:Cfg) (h:LHd) (left:Slc) (lb:List zb) (row:RowC 3 left ((h.ws.drop h.sent).flatMap wV) lb) (ok:OkH h) :
     LnO (Z0 bl) (some ⟨num,c,some h⟩) ((bl,zGb num c (zrc bb))::(bb,zhc h left)::lb)
theorem zxl {s:Slc} {x:Wr} {r:List Wr} {lb:List zb} (h:RowC 3 s ((x::r).flatMap wV) lb):RowC 3 (Slc.cut 3 s 1 ((s.len:Nat):Int) ((s.cap:Nat):Int)) (r.flatMap wV) lb:=by
 have hl:=h.len;rw [zc zze,aV] at hl;have hc:=h.cap_le;have:=h.cut (lo:=1) (hi:=((s.len:Nat):Int)) (mx:=((s.cap:Nat):Int)) O_ O_ O_ O_ O_
 have e:(((x::r).flatMap wV).drop ((1:Int).toNat*3)).take ((((s.len:Nat):Int).toNat - (1:Int).toNat)*3)=r.flatMap wV:=by
  rw [aY,tN,show(1:Int).toNat*3=(wV x).length from rfl,eD rfl,bF (by rw [zc zze]; show _<=(s.len - 1)*3; omega)]
 rw [e] at this;exact this
theorem znh {ws:List Wr} {p:Nat} (h:p<ws.length):∃ x,ws[p]? =some x/\ws.drop p=x::ws.drop (p+1):=⟨ws[p],aA h,bO h⟩
section
variable {w0:Base} {w:World} {fr bs:List zb} {g:OA} {m:Ln}
theorem s_c {R:Bool->WP} (o:LnO g m bs) (st:St w0 (bs++fr) w) (k:R m.isNone w):C_v g w R:=by
 apply S_Cc;unfold F_Zf;cases o with
 | nil=>exact⟨λ_=>k,N_⟩
 | zero b=>exact⟨N_,λ_=>⟨rfl,.nilIface,st.cell 0 rfl rfl,.inl rfl,k⟩⟩
 | idle bl num c=>exact⟨N_,λ_=>⟨rfl,noneV,st.cell 0 rfl rfl,.inr ⟨_,_,rfl⟩,k⟩⟩
 | busy bl bb num c h left lb row ok=>exact⟨N_,λ_=>⟨rfl,zrc bb,st.cell 0 rfl rfl,.inr ⟨_,_,rfl⟩,k⟩⟩
theorem s_a {R:OA->Bool->WP} (o:LnO g m bs) (st:St w0 (bs++fr) w) (hm:∀ num c h,m≠some ⟨num,c,some h⟩) (k:R none false w):C_r g w R:=by
 apply S_J;unfold F_7c;refine s_c o st ?_;cases o with
 | nil=>exact⟨λ_=>k,N_⟩
 | zero b=>exact⟨λ_=>k,N_⟩
 | idle bl num c=>exact⟨N_,λ_=>⟨rfl,noneV,st.cell 0 rfl rfl,.inr ⟨.inr ⟨_,_,rfl,D_⟩,k⟩⟩⟩
 | busy bl bb num c h left lb row ok=>exact absurd rfl (hm num c h)
theorem s_e {bl bb:Nat} {num:Int} {c:Cfg} {h:LHd} {left:Slc} {lb:List zb} {R:OA->Bool->WP} (row:RowC 3 left ((h.ws.drop h.sent).flatMap wV) lb) (ok:OkH h) (st:St w0 (((bl,zGb num c (zrc bb))::(bb,zhc h left)::lb)++fr) w) (k:R (Z0 bb) true w):C_r (Z0 bl) w R:=by
 apply S_J;unfold F_7c;refine s_c (.busy bl bb num c h left lb row ok) st ?_;exact⟨N_,λ_=>⟨rfl,zrc bb,st.cell 0 rfl rfl,.inl ⟨_,rfl,k⟩⟩⟩
theorem zEg {h:LHd} {left:Slc} {lb:List zb} (row:RowC 3 left ((h.ws.drop h.sent).flatMap wV) lb):left.len=h.ws.length - h.sent:=by
 have:=row.len;rw [zc zze,bJ] at this;omega
theorem s_j {R:Int->WP} (o:LnO g m bs) (st:St w0 (bs++fr) w) (k:R (z7l m) w):C_R g w R:=by
 apply S_7b;unfold F_vf;cases o with
 | busy bl bb num c h left lb row ok =>
  refine s_e row ok st ?_;exact⟨λ_=>⟨rfl,h.n,st.cell 1 rfl rfl,k⟩,N_⟩
 | nil=>exact s_a .nil st (λ_ _ _ h=>by cases h) ⟨N_,λ_=>k⟩
 | zero b=>exact s_a (.zero b) st (λ_ _ _ h=>by cases h) ⟨N_,λ_=>k⟩
 | idle bl num c=>exact s_a (.idle bl num c) st (λ_ _ _ h=>by cases h) ⟨N_,λ_=>k⟩
theorem s_C {R:Bool->WP} (o:LnO g m bs) (st:St w0 (bs++fr) w) (k:R (z6l m) w):C_Fb g w R:=by
 apply S_8b;unfold F_wf;cases o with
 | busy bl bb num c h left lb row ok =>
  refine s_e row ok st ?_;have hll:=zEg row;have hs:=ok.s;have ha:=ok.a;have k:R (decide (h.acked=h.ws.length)) w:=k;refine⟨λ_=>⟨rfl,left,st.cell 1 rfl rfl,λhz=>⟨rfl,(h.sent:Int) - h.acked,st.cell 1 rfl rfl,?_⟩,λhz=> ?_⟩,N_⟩
  ·have hz:left.len=0:=by have:((left.len:Nat):Int)=0:=by simpa using hz
                          omega
   have e:(((h.sent:Int) - h.acked)==0)=decide (h.acked=h.ws.length):=by
    by_cases hh:h.acked=h.ws.length
    ·rw [decide_eq_true hh]; have:(h.sent:Int) - h.acked=0:=O_;rw [this]; rfl
    ·rw [decide_eq_false hh]; have:(h.sent:Int) - h.acked≠0:=O_;simpa using this
   dsimp only; rw [e]; exact k
  ·have hz:left.len≠0:=by have:((left.len:Nat):Int)≠0:=by simpa using hz
                          omega
   rw [decide_eq_false O_] at k; exact k
 | nil=>exact s_a .nil st (λ_ _ _ h=>by cases h) ⟨N_,λ_=>k⟩
 | zero b=>exact s_a (.zero b) st (λ_ _ _ h=>by cases h) ⟨N_,λ_=>k⟩
 | idle bl num c=>exact s_a (.idle bl num c) st (λ_ _ _ h=>by cases h) ⟨N_,λ_=>k⟩
theorem s_7b {R:Int->WP} (o:LnO g m bs) (st:St w0 (bs++fr) w) (k:∀ bs' w',LnO g (zmh m).1 bs'->St w0 (bs'++fr) w'->R (zmh m).2 w'):C_Hc g w R:=by
 apply S_Ac;unfold F_Xf;refine s_c o st ?_;cases o with
 | nil=>exact⟨λ_=>k _ _ .nil st,N_⟩
 | zero b=>exact⟨λ_=>k _ _ (.zero b) st,N_⟩
 | idle bl num c =>
  refine⟨N_,λ_=>s_a (.idle bl num c) st (λ_ _ _ h=>by cases h) ⟨λ_=> ?_,N_⟩⟩;unfold F_yc;exact⟨λ_=>k _ _ (.idle bl num c) st,N_⟩
 | busy bl bb num c h left lb row ok =>
  have hll:=zEg row;have hs:=ok.s;have ha:=ok.a;have hl32:=ok.l;have hcl:=row.cap_le;refine⟨N_,λ_=>s_e row ok st ⟨N_,λ_=>⟨rfl,left,st.cell 1 rfl rfl,?_⟩⟩⟩;unfold F_yc;refine⟨λhz=> ?_,λhz=> ?_⟩
  ·have hz:left.len=0:=by have:((left.len:Nat):Int)=0:=by simpa using hz
                          omega
   have e:zmh (some ⟨num,c,some h⟩)=(some ⟨num,c,some h⟩,9):=by unfold zmh; simp only; rw [if_neg O_]
   rw [e] at k;exact k _ _ (.busy bl bb num c h left lb row ok) st
  ·have hz:left.len≠0:=by have:((left.len:Nat):Int)≠0:=by simpa using hz
                          omega
   have e:zmh (some ⟨num,c,some h⟩)=(some ⟨num,c,some ⟨h.n,h.ws,h.sent+1,h.acked⟩⟩,0):=by unfold zmh; simp only; rw [if_pos O_]
   rw [e] at k;obtain⟨x,hx,hd⟩:=znh (ws:=h.ws) (p:=h.sent) O_;refine⟨rfl,left,st.cell 1 rfl rfl,⟨O_,O_,O_,O_⟩,λs hsc=>⟨rfl,st.writable 1,λw4 hw4=> ?_⟩⟩;have st:St w0 ((bl,zGb num c (zrc bb))::(bb,[Vi h.n,Vs s,Vi ((h.sent:Int) - h.acked)])::(lb++fr)) w4:=st.put 1 rfl hw4;refine⟨rfl,(h.sent:Int) - h.acked,st.cell 1 rfl rfl,st.writable 1,λw5 hw5=> ?_⟩;rw [show i64.wrap ((h.sent:Int) - h.acked+1)=((h.sent+1:Nat):Int) - h.acked from W_] at hw5;have st:St w0 (((bl,zGb num c (zrc bb))::(bb,zhc ⟨h.n,h.ws,h.sent+1,h.acked⟩ s)::lb)++fr) w5:=st.put 1 rfl hw5;refine k _ _ (.busy bl bb num c ⟨h.n,h.ws,h.sent+1,h.acked⟩ s lb ?_ ⟨by show h.sent+1<=h.ws.length; omega,by show h.acked<=h.sent+1; omega,ok.n,ok.l,ok.k⟩) st;rw [hd] at row;rw [hsc]; exact zxl row
theorem s_Ib {R:Int->WP} (o:LnO g m bs) (st:St w0 (bs++fr) w) (k:∀ bs' w',LnO g (zAe m).1 bs'->St w0 (bs'++fr) w'->R (zAe m).2 w'):C_lc g w R:=by
 apply S_ac;unfold F_xf;refine s_c o st ?_;cases o with
 | nil=>exact⟨λ_=>k _ _ .nil st,N_⟩
 | zero b=>exact⟨λ_=>k _ _ (.zero b) st,N_⟩
 | idle bl num c =>
  refine⟨N_,λ_=>s_a (.idle bl num c) st (λ_ _ _ h=>by cases h) ⟨λ_=> ?_,N_⟩⟩;unfold F_dc;exact⟨λ_=>k _ _ (.idle bl num c) st,N_⟩
 | busy bl bb num c h left lb row ok =>
  have hs:=ok.s;have ha:=ok.a;have hl32:=ok.l;refine⟨N_,λ_=>s_e row ok st ⟨N_,λ_=>⟨rfl,(h.sent:Int) - h.acked,st.cell 1 rfl rfl,?_⟩⟩⟩;unfold F_dc;refine⟨λhz=> ?_,λhz=> ?_⟩
  ·have hz:(h.sent:Int) - h.acked=0:=by simpa using hz
   have e:zAe (some ⟨num,c,some h⟩)=(some ⟨num,c,some h⟩,9):=by unfold zAe; simp only; rw [if_neg O_]
   rw [e] at k;exact k _ _ (.busy bl bb num c h left lb row ok) st
  ·have hz:(h.sent:Int) - h.acked≠0:=by simpa using hz
   have e:zAe (some ⟨num,c,some h⟩)=(some ⟨num,c,some ⟨h.n,h.ws,h.sent,h.acked+1⟩⟩,0):=by unfold zAe; simp only; rw [if_pos O_]
   rw [e] at k;refine⟨rfl,(h.sent:Int) - h.acked,st.cell 1 rfl rfl,st.writable 1,λw5 hw5=> ?_⟩;rw [show i64.wrap ((h.sent:Int) - h.acked - 1)=(h.sent:Int) - ((h.acked+1:Nat):Int) from W_] at hw5;have st:St w0 (((bl,zGb num c (zrc bb))::(bb,zhc ⟨h.n,h.ws,h.sent,h.acked+1⟩ left)::lb)++fr) w5:=st.put 1 rfl hw5;exact k _ _ (.busy bl bb num c ⟨h.n,h.ws,h.sent,h.acked+1⟩ left lb row ⟨ok.s,by show h.acked+1<=h.sent; omega,ok.n,ok.l,ok.k⟩) st
theorem s_8b {R:Int->Int->WP} (o:LnO g m bs) (st:St w0 (bs++fr) w) (k:∀ bs' w',LnO g (zDg m).1 bs'->St w0 (bs'++fr) w'->R (zDg m).2.1 (zDg m).2.2 w'):C_Ic g w R:=by
 apply S_Bc;unfold F_Yf;refine s_c o st ?_;cases o with
 | nil=>exact⟨λ_=>k _ _ .nil st,N_⟩
 | zero b=>exact⟨λ_=>k _ _ (.zero b) st,N_⟩
 | idle bl num c=>exact⟨N_,λ_=>s_a (.idle bl num c) st (λ_ _ _ h=>by cases h) ⟨λ_=>k _ _ (.idle bl num c) st,N_⟩⟩
 | busy bl bb num c h left lb row ok =>
  refine⟨N_,λ_=>s_e row ok st ⟨N_,λ_=>s_C (.busy bl bb num c h left lb row ok) st ?_⟩⟩;rw [show z6l (some ⟨num,c,some h⟩)=decide (h.acked=h.ws.length) from rfl];by_cases hh:h.acked=h.ws.length
  ·have e:zDg (some ⟨num,c,some h⟩)=(some ⟨num,c,none⟩,h.n,0):=by unfold zDg; simp only; rw [if_pos hh]
   rw [e] at k;refine⟨λh'=>(by rw [decide_eq_true hh] at h'; cases h'),λ_=>⟨rfl,st.writable 0,λw4 hw4=> ?_⟩⟩;have st:St w0 ((bl,zGb num c noneV)::(bb,zhc h left)::(lb++fr)) w4:=st.put 0 rfl hw4;refine⟨rfl,h.n,st.cell 1 rfl rfl,k _ _ (.idle bl num c) ?_⟩;have st:St w0 ([(bl,zGb num c noneV)]++(((bb,zhc h left)::lb)++fr)) w4:=st;exact st.skip2
  ·have e:zDg (some ⟨num,c,some h⟩)=(some ⟨num,c,some h⟩,0,10):=by unfold zDg; simp only; rw [if_neg hh]
   rw [e] at k;exact⟨λ_=>k _ _ (.busy bl bb num c h left lb row ok) st,λh'=>by rw [decide_eq_false hh] at h'; cases h'⟩
theorem s_9b {t:T_c} {ws:List Wr} {R:Int->WP} (o:LnO g m bs) (st:St w0 (bs++fr) w) (hs:∀ {l':List zb} {w':World},St w0 (l'++fr) w'->zj w' t.Writes 3 (ws.flatMap wV)) (hl:t.Writes.len<=140737488351232) (hlc:t.Writes.len<=t.Writes.cap)
    (k:∀ bs' w',LnO g (zlh m t.Number ws).1 bs'->St w0 (bs'++fr) w'->R (zlh m t.Number ws).2 w'):C_Gc g t w R:=by
 apply S_zc;unfold F_Wf;intro b w1 hb hw;have st1:=st.alloc hb hw;have hc:∀ {X l:List zb} {w':World},St w0 ([(b,txW t.Number t.Writes)]++(X++l)) w'->St w0 (X++([(b,txW t.Number t.Writes)]++l)) w':=λst=>st.swap;have st:St w0 ([(b,txW t.Number t.Writes)]++(bs++fr)) w1:=st1;have st:=st.swap;refine s_c o st ?_;cases o with
 | nil=>exact⟨λ_=>k _ _ .nil st.skip2,N_⟩
 | zero b=>exact⟨λ_=>k _ _ (.zero b) st.skip2,N_⟩
 | busy bl bb num c h left lb row ok=>exact⟨N_,λ_=>s_e row ok st ⟨λ_=>k _ _ (.busy bl bb num c h left lb row ok) st.skip2,N_⟩⟩
 | idle bl num c =>
  refine⟨N_,λ_=>s_a (.idle bl num c) st (λ_ _ _ h=>by cases h) ⟨N_,λ_=>⟨t,(st.swap.get 0 rfl).all,?_⟩⟩⟩;have hsrc:∀ {l':List zb} {w':World},St w0 (l'++([(bl,zGb num c noneV)]++([(b,txW t.Number t.Writes)]++fr))) w'->zj w' t.Writes 3 (ws.flatMap wV):=λ{l' w'} st=>hs (l':=l'++([(bl,zGb num c noneV)]++[(b,txW t.Number t.Writes)])) (by simpa using st);have src0:=hsrc (l':=[]) st;refine s_0 src0 O_ λw4 e4=> ?_;have st:=st.keep e4;by_cases hok:okT t.Number ws
  ·have e:zlh (some ⟨num,c,none⟩) t.Number ws=(some ⟨num,c,some ⟨t.Number,z8 ws,0,0⟩⟩,0):=by unfold zlh; simp only; rw [if_pos hok]
   rw [e] at k;rw [if_pos hok];refine⟨λh=>by simp at h,λ_ w5 hd=> ?_⟩;have st:=st.drew hd;refine⟨t.Number,st.drop.cell 0 rfl rfl,t,(st.drop.get 0 rfl).all,s_pc st hsrc (by have:=hok.2.2.1; have:=zye src0; omega) hlc λleft lb w6 row st=>⟨st.drop.drop.cell 0 rfl rfl,λb1 w7 hb1 hw7=> ?_⟩⟩;have st:St w0 ((b1,zhc ⟨t.Number,z8 ws,0,0⟩ left)::(lb++([(bl,zGb num c noneV)]++([(b,txW t.Number t.Writes)]++fr)))) w7:=st.alloc hb1 hw7
   have st:St w0 ([(bl,zGb num c noneV)]++(((b1,zhc ⟨t.Number,z8 ws,0,0⟩ left)::lb)++([(b,txW t.Number t.Writes)]++fr))) w7:=by
    have h:St w0 (((b1,zhc ⟨t.Number,z8 ws,0,0⟩ left)::lb)++([(bl,zGb num c noneV)]++([(b,txW t.Number t.Writes)]++fr))) w7:=st;exact h.swap
   refine⟨rfl,st.writable 0,λw8 hw8=> ?_⟩;have st:St w0 ((bl,zGb num c (zrc b1))::(((b1,zhc ⟨t.Number,z8 ws,0,0⟩ left)::lb)++([(b,txW t.Number t.Writes)]++fr))) w8:=st.put 0 rfl hw8;have st:St w0 (((bl,zGb num c (zrc b1))::(b1,zhc ⟨t.Number,z8 ws,0,0⟩ left)::lb)++([(b,txW t.Number t.Writes)]++fr)) w8:=st;exact k _ _ (.busy bl b1 num c ⟨t.Number,z8 ws,0,0⟩ left lb row (zgk hok)) st.skip2
  ·have e:zlh (some ⟨num,c,none⟩) t.Number ws=(some ⟨num,c,none⟩,1):=by unfold zlh; simp only; rw [if_neg hok]
   rw [e] at k;rw [if_neg hok];exact⟨λ_=>k _ _ (.idle bl num c) st.skip2,λh=>by simp at h⟩
theorem s_ac {r:T_n} {R:T_i->Bool->WP} (st:St w0 fr w) (k:∀ w',St w0 fr w'->R ⟨Be,Be,false⟩ false w'):C_Lc r w R:=by
 apply S_Dc;unfold F_4f;intro b w1 hb hw b1 w2 hb1 hw2;have st:=(st.alloc hb hw).alloc hb1 hw2;refine⟨st.writable 0 rfl (by simp),λw3 hw3=> ?_⟩;have st:St w0 ([(b1,wV ⟨Be,Be,false⟩)]++([(b,[])]++fr)) w3:=st.put0 hw3;exact⟨⟨Be,Be,false⟩,(st.get 0 rfl).all,k w3 st.drop.drop⟩
theorem s_L {R:Int->T_d->Bool->WP} (o:LnO g m bs) (st:St w0 (bs++fr) w) (k:∀ w',St w0 (bs++fr) w'->R (zEc m).1 (zEc m).2.1 (zEc m).2.2 w'):C_Wb g w R:=by
 apply S_yc;unfold F_he;intro b w1 hb hw;have st:St w0 ([(b,reqV zeroReq)]++(bs++fr)) w1:=st.alloc hb hw
 have no:zEc m=(0,zeroReq,false)->∀ w',St w0 ([(b,reqV zeroReq)]++(bs++fr)) w'->zr w' b 0 9/\∀ w3,w3=World.puts b 0 [Vb 0,Vi 0,Vi 0,Vt Be,Vt Be,Vo false,Vt Be,Vt Be,Ns] w'->∃(res:T_d),zf w3 b 0 (reqV res)/\R 0 res false w3:=by
  intro hn w' st;refine⟨st.writable 0 rfl (by simp [reqV]),λw3 hw3=> ?_⟩;have st:St w0 ([(b,reqV zeroReq)]++(bs++fr)) w3:=st.put0 hw3;refine⟨zeroReq,(st.get 0 rfl).all,?_⟩;have:=k w3 st.drop;rw [hn] at this; exact this
 refine s_c o st.swap ?_;cases o with
 | nil=>exact⟨λ_=>no rfl w1 st,N_⟩
 | zero b=>exact⟨λ_=>no rfl w1 st,N_⟩
 | idle bl num c =>
  refine⟨N_,λ_=>⟨rfl,noneV,st.drop.cell 0 rfl rfl,.inl ⟨T_n.mk,rfl,s_ac st λw11 st b1 w12 hb1 hw12=> ?_⟩⟩⟩;have st:=st.alloc hb1 hw12;refine⟨st.writable 0 rfl (by simp),λw13 hw13=> ?_⟩;have st:St w0 ([(b1,wV ⟨Be,Be,false⟩)]++([(b,reqV zeroReq)]++([(bl,zGb num c noneV)]++fr))) w13:=st.put0 hw13;unfold F_G;exact⟨λ_=>no rfl w13 st.drop,N_⟩
 | busy bl bb num c h left lb row ok =>
  have hll:=zEg row;have hs:=ok.s;refine⟨N_,λ_=>⟨rfl,zrc bb,st.drop.cell 0 rfl rfl,.inr ⟨some ⟨bb,0,none⟩,rfl,?_⟩⟩⟩;apply S_Ec;unfold F_5f;intro b1 w2 hb1 hw2;have st:St w0 ([(b1,wV ⟨Be,Be,false⟩)]++([(b,reqV zeroReq)]++(((bl,zGb num c (zrc bb))::(bb,zhc h left)::lb)++fr))) w2:=st.alloc hb1 hw2;refine⟨rfl,left,st.drop.drop.cell 1 rfl rfl,λhz=> ?_,λhz=> ?_⟩
  ·have hz:left.len=0:=by have:((left.len:Nat):Int)=0:=by simpa using hz
                          omega
   have hn:zEc (some ⟨num,c,some h⟩)=(0,zeroReq,false):=by
    unfold zEc; simp only;rw [List.getElem?_eq_none O_]
   refine⟨st.writable 0 rfl (by simp [wV]),λw3 hw3=> ?_⟩;have st:St w0 ([(b1,wV ⟨Be,Be,false⟩)]++([(b,reqV zeroReq)]++(((bl,zGb num c (zrc bb))::(bb,zhc h left)::lb)++fr))) w3:=st.put0 hw3;refine⟨⟨Be,Be,false⟩,(st.get 0 rfl).all,λb2 w15 hb2 hw15=> ?_⟩;have st:=(st.drop).alloc hb2 hw15;refine⟨st.writable 0 rfl (by simp),λw16 hw16=> ?_⟩;have st:St w0 ([(b2,wV ⟨Be,Be,false⟩)]++([(b,reqV zeroReq)]++(((bl,zGb num c (zrc bb))::(bb,zhc h left)::lb)++fr))) w16:=st.put0 hw16;unfold F_G;exact⟨λ_=>no hn w16 st.drop,N_⟩
  ·have hz:left.len≠0:=by have:((left.len:Nat):Int)≠0:=by simpa using hz
                          omega
   obtain⟨x,hx,hd⟩:=znh (ws:=h.ws) (p:=h.sent) O_
   have hn:zEc (some ⟨num,c,some h⟩)=((zkb c x.Key).1,zje num h.n x,true):=by
    unfold zEc; simp only;rw [hx]
   have hkx:=ok.k x (mG hx)
   obtain⟨a,y,hy,hc⟩:=zhh (i:=0) (row.src (l:=[(b1,wV ⟨Be,Be,false⟩)]++([(b,reqV zeroReq)]++((bl,zGb num c (zrc bb))::(bb,zhc h left)::fr))) (by
    refine st.perm ?_;have e1:[(b1,wV ⟨Be,Be,false⟩)]++([(b,reqV zeroReq)]++(((bl,zGb num c (zrc bb))::(bb,zhc h left)::lb)++fr))=((b1,wV ⟨Be,Be,false⟩)::(b,reqV zeroReq)::(bl,zGb num c (zrc bb))::[(bb,zhc h left)])++(lb++fr):=rfl;rw [e1];exact dA _ lb fr)) O_
   rw [hd] at hy;obtain rfl:x=y:=by simpa using hy
   rw [fG] at hc;refine⟨rfl,left,st.drop.drop.cell 1 rfl rfl,a,O_,O_,x,hc,st.writable 0 rfl (by simp [wV]),λw3 hw3=> ?_⟩;have st:St w0 ([(b1,wV x)]++([(b,reqV zeroReq)]++(((bl,zGb num c (zrc bb))::(bb,zhc h left)::lb)++fr))) w3:=st.put0 hw3;refine⟨x,(st.get 0 rfl).all,λb2 w15 hb2 hw15=> ?_⟩;have st:=(st.drop).alloc hb2 hw15;refine⟨st.writable 0 rfl (by simp),λw16 hw16=> ?_⟩;have st:St w0 ([(b2,wV x)]++([(b,reqV zeroReq)]++(((bl,zGb num c (zrc bb))::(bb,zhc h left)::lb)++fr))) w16:=st.put0 hw16;unfold F_G;refine⟨N_,λ_ w6 hd6=> ?_⟩;have st:=st.drew hd6;refine⟨rfl,c,⟨st.drop.drop.cell 0 rfl rfl,st.drop.drop.cell 0 rfl rfl,st.drop.drop.cell 0 rfl rfl,st.drop.drop.cell 0 rfl rfl,trivial⟩,rfl,x.Key,st.cell 0 rfl rfl,s_B O_ λw7 e7 w8 hd8=> ?_⟩;have st:=(st.keep e7).drew hd8;refine⟨rfl,num,st.drop.drop.cell 0 rfl rfl,rfl,x,(st.get 0 rfl).all,s_j (w0:=w0) (.busy bl bb num c h left lb row ok) (fr:=[(b2,wV x)]++([(b,reqV zeroReq)]++fr)) ?_ ⟨(st.get 0 rfl).all,st.drop.drop.cell 0 rfl rfl,st.drop.writable 0 rfl (by simp [reqV]),λw10 hw10=> ?_⟩⟩
   ·exact(St.swap3 (a:=[(b2,wV x)]) (b:=[(b,reqV zeroReq)]) (c:=(bl,zGb num c (zrc bb))::(bb,zhc h left)::lb) st)
   ·have st:St w0 ([(b2,wV x)]++([(b,reqV (zje num h.n x))]++(((bl,zGb num c (zrc bb))::(bb,zhc h left)::lb)++fr))) w10:=st.put 1 rfl hw10;refine⟨zje num h.n x,(st.drop.get 0 rfl).all,?_⟩;have:=k w10 st.drop.drop;rw [hn] at this; exact this
def newM (num:Int) (c:Cfg):Ln×Int:=if zV c≠0 then(none,7) else if num<1\/num>c.Lanes then(none,1) else(some ⟨num,c,none⟩,0)
theorem s_qc {num:Int} {c:Cfg} {R:OA->Int->WP} (st:St w0 fr w) (k:∀ g bs w',LnO g (newM num c).1 bs->g.isNone=(newM num c).1.isNone->St w0 (bs++fr) w'->R g (newM num c).2 w'):C_yd num c w R:=by
 apply S_sd;unfold F_Ug;intro b w1 hb hw;have st:St w0 ([(b,cfgV c)]++fr) w1:=st.alloc hb hw;refine⟨c,(st.get 0 rfl).all,s_h λw2 e2=> ?_⟩;have st:=st.keep e2
 have bad:newM num c=(none,1)->F_ed num R b true w2:=λh=>by
  unfold F_ed;rw [h] at k;exact⟨λ_=>k none [] w2 .nil rfl st.drop,N_⟩
 refine⟨λh=> ?_,λh=>⟨λh1=> ?_,λh1=>⟨c.Lanes,st.cell 0 rfl rfl,?_⟩⟩⟩
 ·have h:zV c≠0:=by simpa using h
  have e:newM num c=(none,7):=by unfold newM; rw [if_pos h]
  rw [e] at k;exact k none [] w2 .nil rfl st.drop
 ·have h:zV c=0:=by simpa using h
  have h1:=dT h1;exact bad (by unfold newM; rw [if_neg O_,if_pos (.inl h1)])
 ·have h:zV c=0:=by simpa using h
  have h1:=dF h1;by_cases h2:num>c.Lanes
  ·dsimp only; rw [decide_eq_true h2];exact bad (by unfold newM; rw [if_neg O_,if_pos (.inr h2)])
  ·dsimp only; rw [decide_eq_false h2];have e:newM num c=(some ⟨num,c,none⟩,0):=by unfold newM; rw [if_neg O_,if_neg O_]
   rw [e] at k;unfold F_ed;refine⟨N_,λ_=>⟨c,(st.get 0 rfl).all,λb1 w4 hb1 hw4=> ?_⟩⟩;have st:St w0 ([(b1,zGb num c noneV)]++([(b,cfgV c)]++fr)) w4:=st.alloc hb1 hw4;exact k _ _ _ (.idle b1 num c) rfl st.skip2
end
def zOe (ws:List Nat) (n:Nat):Bool:=(ws.getD (n / 64) 0).testBit (n % 64)
abbrev uV (x:Nat):Value:=Value.int .u64 (x:Int)
theorem zoh {ws:List Nat} {n m:Nat} {x:Nat} (hn:n / 64<ws.length) :
    zOe (ws.set (n / 64) x) m=if m / 64=n / 64 then x.testBit (m % 64) else zOe ws m:=by
 unfold zOe;split
 ·rename_i h
  rw [h,cF,aL hn]; rfl
 ·rename_i h
  rw [cF,aT (λe=>h e.symm),<-cF]
theorem zyl {ws:List Nat} {n m:Nat} (hn:n / 64<ws.length):zOe (ws.set (n / 64) (ws.getD (n / 64) 0 ||| 2 ^ (n % 64))) m=(zOe ws m||decide (m=n)):=by
 rw [zoh hn];split
 ·rename_i h
  rw [Nat.testBit_or,Nat.testBit_two_pow];unfold zOe;rw [h];congr 1;have:n % 64=m % 64↔m=n:=O_;simp only [this]
 ·rename_i h
  have:m≠n:=λe=>h (by rw [e]);simp [this]
theorem zai {ws:List Nat} {n m:Nat} (hn:n / 64<ws.length):zOe (ws.set (n / 64) (ws.getD (n / 64) 0 &&& (2 ^ 64 - 1 - 2 ^ (n % 64)))) m=(zOe ws m&&decide (m≠n)):=by
 rw [zoh hn];split
 ·rename_i h
  have hlt:n % 64<64:=eQ _ O_;have hp:2 ^ (n % 64)<2 ^ 64:=fE O_ hlt;rw [Nat.testBit_and,show 2 ^ 64 - 1 - 2 ^ (n % 64)=2 ^ 64 - (2 ^ (n % 64)+1) from by omega,Nat.testBit_two_pow_sub_succ hp,Nat.testBit_two_pow];unfold zOe;rw [h];congr 1;have h1:m % 64<64:=eQ _ O_;have:(n % 64=m % 64)↔m=n:=O_;simp only [h1,decide_true,dS,this];by_cases hmn:m=n <;> simp [hmn]
 ·rename_i h
  have:m≠n:=λe=>h (by rw [e]);simp [this]
theorem zmf (v k:Nat):(((v / 2 ^ k) &&& 1:Nat):Int)=1↔v.testBit k=true:=by
 rw [Nat.testBit_eq_decide_div_mod_eq];rw [Nat.and_one_is_mod];simp only [decide_eq_true_eq];omega
structure GM where
 mark:Nat
 top:Nat
 S:Nat->Bool
def zUb (m:GM) (ws:List Nat):List Value:=[Vo true,Vi (m.mark:Int)]++ws.map uV++[Vi (m.top:Int)]
def znd (g:OA) (m:GM) (bs:List zb):Prop :=
 ∃(b:Nat) (ws:List Nat),g=some ⟨b,0,none⟩/\bs=[(b,zUb m ws)]/\ws.length=1025/\(∀ x∈ws,x<2 ^ 64)/\(∀ n,n<=65536->zOe ws n=m.S n) /\
  m.mark<=m.top/\m.top<=65536/\∀ n,m.S n=true->m.mark<n/\n<=m.top
theorem zed {m:GM} {ws:List Nat} (h:ws.length=1025):(zUb m ws).length=1028:=by simp [zUb,h]
theorem zke {m:GM} {ws:List Nat} (h:ws.length=1025):(zUb m ws)[1027]? =some (Vi (m.top:Int)):=by
 unfold zUb;rw [aS (by simp [h])];simp [h]
theorem zHd {m:GM} {ws:List Nat} {i:Nat} (h:i<ws.length):(zUb m ws)[2+i]? =some (uV (ws.getD i 0)):=by
 show(Vo true::Vi (m.mark:Int)::(ws.map uV++[Vi (m.top:Int)]))[2+i]? =_;rw [gM,cB,cB,aO (by simpa using h),aF,aA h,cF,aA h];rfl
theorem znf {m:GM} {ws:List Nat} {i x:Nat} (h:i<ws.length):putL (2+i) [uV x] (zUb m ws)=zUb m (ws.set i x):=by
 rw [zgd];show(Vo true::Vi (m.mark:Int)::(ws.map uV++[Vi (m.top:Int)])).set (2+i) _=_;rw [gM,cS,cS,List.set_append_left _ _ (by simpa using h),<-cV];rfl
theorem zbi {m:GM} {ws:List Nat} {x:Nat} (h:ws.length=1025):putL 1027 [Vi (x:Int)] (zUb m ws)=zUb { m with top:=x } ws:=by
 rw [zgd];show(Vo true::Vi (m.mark:Int)::(ws.map uV++[Vi (m.top:Int)])).set (1025+2) _=_;rw [cS,cS,List.set_append_right _ _ (by simp [h])];simp [h,zUb]
theorem z9f {ws:List Nat} {i x B:Nat} (h:∀ y∈ws,y<B) (hx:x<B):∀ y∈ws.set i x,y<B:=λy hy=>by
 rcases cK hy with h1 | h1
 ·exact h y h1
 ·exact h1 ▸ hx
theorem zci {ws:List Nat} {i B:Nat} (h:∀ y∈ws,y<B) (hB:0<B):ws.getD i 0<B:=by
 rw [cF];cases hx:ws[i]? with
 | none=>exact hB
 | some y=>exact h y (mG hx)
theorem zdi {n:Nat} (h:n<=65536):i64.wrap (Int.tdiv (n:Int) 64)=((n / 64:Nat):Int):=by
 rw [show Int.tdiv (n:Int) 64=((n / 64:Nat):Int) from zJl n 64,i64_in _ O_ O_]
theorem bit_of (n:Nat):Int.tmod (n:Int) 64=((n % 64:Nat):Int):=zHg n 64
theorem zhk {k:Nat} (h:k<64):u64.wrap (1*2 ^ (min ((k:Int).toNat) 64))=((2 ^ k:Nat):Int):=by
 rw [tN,eV O_,Int.one_mul];have hp:(2:Nat) ^ k<2 ^ 64:=fE O_ h;have:((2:Int) ^ k)=((2 ^ k:Nat):Int):=by push_cast; rfl
 rw [this];exact zfd (k:= .u64) rfl hp
section
variable {w0:Base} {w:World} {l bs:List zb} {g:OA} {m:GM}
theorem s_y {n:Int} {R:Bool->WP} (st:St w0 (bs++l) w) (o:znd g m bs) (h0:0<=n) (k:R (m.S n.toNat) w):C_Mb g n w R:=by
 apply S_2c;unfold F_rg;obtain⟨b,ws,rfl,rfl,hl,hb,hs,hmt,ht,hS⟩:=o;obtain⟨n,rfl⟩:=toN h0;rw [tN] at k;refine⟨λh=> ?_,λh=> ?_⟩
 ·have h:=dT h;have hn:n<=65536:=O_;have hm:=eQ n (show 64>0 by omega);have hd:n / 64<ws.length:=O_;rw [zdi hn,bit_of];refine⟨rfl,O_,O_,((ws.getD (n / 64) 0:Nat):Int),st.cell 0 rfl (zHd hd),O_,?_⟩
  have e:(band .u64 (Int.fdiv ((ws.getD (n / 64) 0:Nat):Int) (2 ^ (min ((n % 64:Nat):Int).toNat 64))) 1==1)=m.S n:=by
   rw [tN,eV O_,show((2:Int) ^ (n % 64))=((2 ^ (n % 64):Nat):Int) from by push_cast; rfl,z0e];have hlt:ws.getD (n / 64) 0<2 ^ 64:=zci hb D_;have h1:=zpk (k:= .u64) rfl (a:=ws.getD (n / 64) 0 / 2 ^ (n % 64)) (b:=1) (dI (Nat.div_le_self _ _) hlt) D_;rw [show(((1:Nat)):Int)=(1:Int) from rfl] at h1;rw [h1,<-hs n hn];unfold zOe;rw [eW,beq_iff_eq];exact zmf _ _
  rw [e]; exact k
 ·have h:=dF h
  have:m.S n=false:=by
   cases hx:m.S n with
   | false=>rfl
   | true=>have:=hS n hx; omega
  rw [this] at k; exact k
theorem s_U {n:Nat} {R:WP} (st:St w0 (bs++l) w) (o:znd g m bs) (h0:m.mark<n) (h1:n<=65536)
    (k:∀ bs' w',znd g ⟨m.mark,max m.top n,λj=>m.S j||decide (j=n)⟩ bs'->St w0 (bs'++l) w'->R w'):C_Zb g (n:Int) w R:=by
 apply S_Sc;unfold F_8f;intro w1 e1;have st:=st.drew e1;obtain⟨b,ws,rfl,rfl,hl,hb,hs,hmt,ht,hS⟩:=o;have hm:=eQ n (show 64>0 by omega);have hd:n / 64<ws.length:=O_;rw [zdi h1,bit_of,zhk hm];have hlt:ws.getD (n / 64) 0<2 ^ 64:=zci hb D_;have hp:(2:Nat) ^ (n % 64)<2 ^ 64:=fE O_ hm;refine⟨rfl,O_,O_,((ws.getD (n / 64) 0:Nat):Int),st.cell 0 rfl (zHd hd),O_,O_,O_,st.writable 0 rfl (by rw [zed hl]; show 0+2+_+1<=_; omega),λw2 hw2=> ?_⟩;rw [zIl (k:= .u64) rfl hlt hp] at hw2;have e2:poff (some ⟨b,0,none⟩:OA)+2+(((n / 64:Nat):Int)).toNat=2+n / 64:=by show 0+2+_=_; rw [tN]
 rw [e2] at hw2;have st:=st.put0 hw2;rw [znf hd] at st;have hl':(ws.set (n / 64) (ws.getD (n / 64) 0 ||| 2 ^ (n % 64))).length=1025:=by simpa using hl
 refine⟨rfl,_,st.cell 0 rfl (zke hl'),rfl,st.writable 0 rfl (by rw [zed hl']; show 0+1027+1<=_; omega),λw3 hw3=> ?_⟩;have e3:(if(n:Int)>(m.top:Int) then(n:Int) else(m.top:Int))=((max m.top n:Nat):Int):=by split <;> omega
 rw [e3] at hw3;have st:=st.put0 (o:=1027) hw3;rw [zbi hl'] at st;refine k _ _ ⟨b,_,rfl,rfl,hl',z9f hb (Nat.or_lt_two_pow hlt hp),λj hj=> ?_,by simp only; omega,by simp only; omega,λj hj=> ?_⟩ st
 ·rw [zyl hd,hs j hj]
 ·simp only [cE,decide_eq_true_eq] at hj;simp only;rcases hj with hj | hj
  ·have:=hS j hj; omega
  ·omega
theorem s_q {R:Int->WP} (st:St w0 (bs++l) w) (o:znd g m bs) (k:R (m.mark:Int) w):C_cb g w R:=by
 apply S_Fc;unfold F_Ef;obtain⟨b,ws,rfl,rfl,hl,hb,hs,hmt,ht,hS⟩:=o;exact⟨N_,λ_=>⟨rfl,_,st.cell 0 rfl rfl,k⟩⟩
def GM.has (m:GM) (n:Int):Bool:=decide (1<=n)&&(decide (n<=(m.mark:Int))||m.S n.toNat)
theorem s_rc {n:Int} {R:Bool->WP} (st:St w0 (bs++l) w) (o:znd g m bs) (k:R (m.has n) w):C_3c g n w R:=by
 apply S_Tc;unfold F_jg;unfold GM.has at k;have o':=o;obtain⟨b,ws,rfl,rfl,hl,hb,hs,hmt,ht,hS⟩:=o;refine⟨λ_=>⟨rfl,true,st.cell 0 rfl rfl,λh=> ?_,λh=> ?_⟩,λh=>by cases h⟩
 ·have h:1<=n:=by simpa using h
  rw [decide_eq_true h,dS] at k;refine⟨rfl,_,st.cell 0 rfl rfl,λh2=> ?_,λh2=> ?_⟩
  ·rw [h2,Bool.true_or] at k; exact k
  ·rw [h2,gD] at k;exact s_y st o' O_ k
 ·have h:¬ 1<=n:=by simpa using h
  rw [decide_eq_false h,Bool.false_and] at k;exact k
def beyF (S:Nat->Bool) (mark:Nat):List Nat:=(List.range' (mark+1) (65536 - mark)).filter S
theorem zzl {S:Nat->Bool} {mark n:Nat} (hn:n<=65536) (h:∀ j,S j=true->j<=n) (hm:mark<=n):beyF S mark=(List.range' (mark+1) (n - mark)).filter S:=by
 unfold beyF;have e:65536 - mark=(n - mark)+(65536 - n):=O_;rw [e,<-List.range'_append_1,dZ]
 have:(List.range' (mark+1+(n - mark)) (65536 - n)).filter S=[]:=by
  rw [List.filter_eq_nil_iff];intro j hj hs;have:=h j hs;rw [List.mem_range'_1] at hj;omega
 rw [this,bZ]
theorem s_tb {R:Slc->WP} (st:St w0 (bs++l) w) (o:znd g m bs)
    (k:∀ s bs' w',RowC 1 s ((beyF m.S m.mark).map λ(n:Nat)=>Vi (n:Int)) bs'->St w0 (bs'++(bs++l)) w'->s.len=(beyF m.S m.mark).length->R s w'):C_9b g w R:=by
 apply S_Nb;unfold F_bf;have o':=o;obtain⟨b,ws,rfl,rfl,hl,hb,hs,hmt,ht,hS⟩:=o;refine⟨N_,λ_=>⟨rfl,true,st.cell 0 rfl rfl,?_⟩⟩;unfold F_Wc;refine⟨N_,λ_=>⟨rfl,_,st.cell 0 rfl rfl,?_⟩⟩;have w1:i64.wrap ((m.mark:Int)+1)=((m.mark+1:Nat):Int):=W_;dsimp only; rw [w1]
 refine⟨λout n w'=>∃(j:Nat) (bs':List zb),n=((m.mark+1+j:Nat):Int)/\m.mark+j<=m.top/\RowC 1 out (((List.range' (m.mark+1) j).filter m.S).map λ(n:Nat)=>Vi (n:Int)) bs'/\St w0 (bs'++([(b,zUb m ws)]++l)) w'/\out.len<=j,
  λ_ n _=>m.top+1 - n.toNat,⟨0,[],rfl,hmt,RowC.nil,st,by simp⟩,?_⟩
 rintro out n w2 ⟨j,bs',rfl,hj,ro,st,hol⟩;unfold F_ne F_Vc;have stg:=st.swap (a:=bs') (b:=[(b,zUb m ws)]);refine⟨rfl,(m.top:Int),stg.cell 0 rfl (zke hl),λh=> ?_,λh=> ?_⟩
 ·have h:=dT h;have wn:i64.wrap (((m.mark+1+j:Nat):Int)+1)=((m.mark+1+(j+1):Nat):Int):=W_;rw [wn];have er:List.range' (m.mark+1) (j+1)=List.range' (m.mark+1) j++[m.mark+1+j]:=by rw [List.range'_concat]; simp
  refine s_y stg o' O_ ?_;rw [tN];refine⟨λhx b2 w5 hb2 hw5=>⟨_,zS hb2 hw5 rfl,?_⟩,λhx=>⟨⟨j+1,bs',rfl,O_,?_,st,O_⟩,by first | omega | (show _ - _<_ - _; omega)⟩⟩
  ·refine ro.append ((st.alloc hb2 hw5).drop1) rfl rfl rfl O_ λs' bs2 w6 ro st hlen=> ?_;refine⟨⟨j+1,bs2,rfl,O_,?_,st,O_⟩,by first | omega | (show _ - _<_ - _; omega)⟩;rw [er,dZ,fI,if_pos hx,List.filter_nil,aR];exact ro
  ·rw [er,dZ,fI,if_neg (by rw [hx]; decide),List.filter_nil,bZ];exact ro
 ·have h:=dF h;have hjt:j=m.top - m.mark:=O_;subst hjt;rw [<-zzl ht (λj hj=>(hS j hj).2) hmt] at ro;refine k _ _ _ ro st ?_;have:=ro.len;rw [lM] at this;omega
end
def runF (S:Nat->Bool):Nat->Nat->Nat
 | _,0=>0
 | k,f+1=>if S (k+1) then runF S (k+1) f+1 else 0
def GM.done (m:GM) (n:Nat):Nat->Bool:=λj=>m.S j||decide (j=n)
def GM.up (m:GM) (n:Nat):Nat:=runF (m.done n) m.mark (65536 - m.mark)
def GM.next (m:GM) (n:Nat):GM:=⟨m.mark+m.up n,max m.top n,λj=>m.done n j&&decide (m.mark+m.up n<j)⟩
theorem zYd (S:Nat->Bool):∀(f k:Nat),runF S k f<=f/\(∀ j,k<j->j<=k+runF S k f->S j=true)/\(runF S k f<f->S (k+runF S k f+1)=false)
 | 0,k=>⟨bC _,λj h0 h1=>by simp only [runF] at h1; omega,λh=>by simp [runF] at h⟩
 | f+1,k=>by
  obtain⟨h1,h2,h3⟩:=zYd S f (k+1);unfold runF;split
  ·rename_i h
   refine⟨O_,λj hj0 hj1=> ?_,λhlt=> ?_⟩
   ·by_cases hj:j=k+1
    ·rw [hj]; exact h
    ·exact h2 j O_ O_
   ·have:=h3 O_;rw [show k+(runF S (k+1) f+1)+1=k+1+runF S (k+1) f+1 from by omega]; exact this
  ·rename_i h
   exact⟨O_,λj hj0 hj1=>by omega,λ_=>by simpa using h⟩
section
variable {w0:Base} {w:World} {l bs:List zb} {g:OA} {m:GM}
theorem s_bc {n:Int} {R:Int->Int->WP} (st:St w0 (bs++l) w) (o:znd g m bs) (k0:(n<1\/n>65536\/m.has n=true)->R 0 1 w)
    (k1:∀ n':Nat,n=(n':Int)->m.mark<n'->n'<=65536->m.S n'=false->∀ bs' w',znd g (m.next n') bs'->St w0 (bs'++l) w'->R (m.up n':Int) 0 w'):C_Kc g n w R:=by
 apply S_Gc;unfold F_3f;refine⟨λh=> ?_,λ_=> ?_⟩
 ·obtain⟨b,ws,rfl,_⟩:=o; cases h
 have hat:IsAt g/\w.cell? ⟨pblk g,poff g,none⟩=some (Vo true):=by
  obtain⟨b,ws,rfl,rfl,_⟩:=o;exact⟨rfl,st.cell 0 rfl rfl⟩
 refine⟨hat.1,true,hat.2,?_⟩;unfold F_ld;refine⟨N_,λ_=>⟨λh=> ?_,λh=> ?_⟩⟩
 ·unfold F_zc;exact⟨λ_=>k0 (by simp only [cE,decide_eq_true_eq] at h; omega),λh=>by cases h⟩
 simp only [cD,decide_eq_false_iff_not] at h;refine s_rc st o ?_;unfold F_zc;refine⟨λh=>k0 (.inr (.inr h)),λhh=> ?_⟩;obtain⟨n,rfl⟩:=toN (show 0<=n by omega)
 have hmk:m.mark<n/\m.S n=false:=by
  unfold GM.has at hh;simp only [tN,fA,cD,decide_eq_false_iff_not] at hh;rcases hh with hh | hh
  ·omega
  ·exact⟨O_,hh.2⟩
 have k1:=k1 n rfl hmk.1 O_ hmk.2;obtain⟨hr1,hr2,hr3⟩:=zYd (m.done n) (65536 - m.mark) m.mark;refine s_U st o hmk.1 O_ λbs w3 o st=> ?_
 refine⟨λup w'=>∃(u:Nat) (bs:List zb),up=(u:Int)/\u<=m.up n/\znd g ⟨m.mark+u,max m.top n,λj=>m.done n j&&decide (m.mark+u<j)⟩ bs/\St w0 (bs++l) w',λup _=>m.up n - up.toNat,
  ⟨0,bs,rfl,O_,?_,st⟩,?_⟩
 ·have:(λj=>m.S j||decide (j=n))=(λj=>m.done n j&&decide (m.mark+0<j)):=by
    funext j;unfold GM.done;cases hx:(m.S j||decide (j=n)) with
    | false=>rfl
    | true =>
     obtain⟨b,ws,_,_,_,_,_,_,_,hS⟩:=o;have:=(hS j hx).1;simp only at this;simp; omega
  rw [this] at o; exact o
 rintro up w4 ⟨u,bs,rfl,hu,o,st⟩;unfold F_Ze;have o':=o;obtain⟨b,ws,rfl,rfl,hl,hb,hs,hmt,ht,hS⟩:=o;simp only at hmt ht hS hs;refine⟨rfl,_,st.cell 0 rfl rfl,?_⟩;have w1:i64.wrap (((m.mark+u:Nat):Int)+1)=((m.mark+u+1:Nat):Int):=W_;simp only [w1];refine s_y st o' O_ ?_;rw [tN];simp only;have hlt:decide (m.mark+u<m.mark+u+1)=true:=decide_eq_true O_;rw [hlt,Bool.and_true];refine⟨λhx=> ?_,λhx=> ?_⟩
 ·have hun:u<m.up n:=by
    rcases dB u (m.up n) with h | h
    ·exact h
    ·obtain rfl:u=m.up n:=O_;have hle:=(hS (m.mark+m.up n+1) (by simp [hx])).2;have:=hr3 (by unfold GM.up at hle; omega);unfold GM.up at hx;rw [hx] at this; cases this
  have h65:m.mark+u+1<=65536:=by
   have:=(hS (m.mark+u+1) (by simp [hx])).2;omega
  refine⟨rfl,_,st.cell 0 rfl rfl,st.writable 0 rfl (by rw [zed hl]; show 0+1+1<=_; omega),λw6 hw6 w7 e7=> ?_⟩;simp only [w1] at hw6;have st:=(st.put0 (o:=1) hw6).drew e7;have hst:St w0 ((b,zUb ⟨m.mark+u+1,max m.top n,λj=>m.done n j&&decide (m.mark+u<j)⟩ ws)::l) w7:=st;have st:=hst;have hmm:=eQ (m.mark+u+1) (show 64>0 by omega);have hd:(m.mark+u+1) / 64<ws.length:=O_;have hlt:ws.getD ((m.mark+u+1) / 64) 0<2 ^ 64:=zci hb D_;have hp:(2:Nat) ^ ((m.mark+u+1) % 64)<2 ^ 64:=fE O_ hmm;refine⟨rfl,_,st.cell 0 rfl rfl,rfl,?_⟩;simp only [zdi h65];refine⟨O_,O_,((ws.getD ((m.mark+u+1) / 64) 0:Nat):Int),st.cell 0 rfl (zHd hd),rfl,_,st.cell 0 rfl rfl,?_⟩;dsimp only; rw [bit_of];refine⟨O_,O_,O_,st.writable 0 rfl (by rw [zed hl]; show 0+2+_+1<=_; omega),λw8 hw8=> ?_⟩;rw [zhk hmm,zsh (k:= .u64) rfl hlt hp] at hw8;have e2:poff (some ⟨b,0,none⟩:OA)+2+((((m.mark+u+1) / 64:Nat):Int)).toNat=2+(m.mark+u+1) / 64:=by show 0+2+_=_; rw [tN]
  rw [e2] at hw8;have st:=st.put0 hw8;have hx64:(2:Nat) ^ u64.bits=2 ^ 64:=rfl;rw [hx64,znf hd] at st;have wu:i64.wrap ((u:Int)+1)=((u+1:Nat):Int):=W_;rw [wu];refine⟨⟨u+1,_,rfl,O_,⟨b,_,rfl,rfl,by simpa using hl,z9f hb (dI Nat.and_le_left hlt),λj hj=> ?_,?_,by simp only; omega,λj hj=> ?_⟩,st⟩,by first | omega | (show _ - _<_ - _; omega)⟩
  ·rw [zai hd,hs j hj];simp only;rw [Bool.and_assoc];congr 1;rw [eW];simp; omega
  ·simp only;have:=(hS (m.mark+u+1) (by simp [hx])).2;omega
  ·simp only [aD,decide_eq_true_eq] at hj ⊢;have:=(hS j (by simp [hj.1]; omega)).2;omega
 ·have hun:u=m.up n:=by
    rcases dB u (m.up n) with h | h
    ·have:=hr2 (m.mark+u+1) O_ (by unfold GM.up at h; omega);rw [hx] at this; cases this
    ·omega
  subst hun;exact k1 _ _ o' st
def zei (mark:Int):Int->List Int->Bool
 | _,[]=>true
 | top,n::r=> !(decide (n<mark+2)||decide (n>65536)||decide (n<=top))&&zei mark n r
theorem s_sc {mark:Int} {s:Slc} {xs:List Int} {R:OA->Int->WP} (st:St w0 l w) (hs:∀ l' w',St w0 (l'++l) w'->zj w' s 1 (xs.map Vi)) (hlen:s.len<=4611686018427387904)
    (k0:(mark<0\/mark>65536\/zei mark mark xs=false)->∀ w',St w0 l w'->R none 1 w')
    (k1:∀ mk:Nat,mark=(mk:Int)->mk<=65536->zei mark mark xs=true->∀ g' top bs' w',znd g' ⟨mk,top,λj=>decide ((j:Int)∈xs)⟩ bs'->St w0 (bs'++l) w'->R g' 0 w'):C_xd mark s w R:=by
 apply S_td;unfold F_Tg;refine⟨λh=>k0 (by simp only [cE,decide_eq_true_eq] at h; omega) _ st,λh=> ?_⟩;simp only [cD,decide_eq_false_iff_not] at h;obtain⟨mk,rfl⟩:=toN (show 0<=mark by omega);intro b w1 hb hw;have st:=st.alloc hb hw;have hsl:=(hs [] _ st.drop1).len_eq
 have e0:([Vo true,Vi (mk:Int)]++List.map (Value.int u64) (List.replicate 1025 0)++[Vi (mk:Int)])=zUb ⟨mk,mk,λ_=>false⟩ (List.replicate 1025 0):=by
  unfold zUb;rw [dX,dX]; rfl
 rw [e0] at st
 have o0:znd (Z0 b) ⟨mk,mk,λj=>decide ((j:Int)∈xs.take 0)⟩ [(b,zUb ⟨mk,mk,λ_=>false⟩ (List.replicate 1025 0))]:=by
  refine⟨b,List.replicate 1025 0,rfl,rfl,bN,λx hx=> ?_,λn hn=> ?_,bC _,by simp only; omega,λn hn=>by simp at hn⟩
  ·rw [bQ hx]; decide
  ·unfold zOe;rw [cF,List.getElem?_replicate];split <;> simp
 have wm:i64.wrap ((mk:Int)+2)=(mk:Int)+2:=i64_in _ O_ O_
 refine⟨λt w'=>∃(top:Nat) (bs:List zb),0<=t/\t<=s.len/\zei mk mk xs=zei mk top (xs.drop t.toNat)/\znd (Z0 b) ⟨mk,top,λj=>decide ((j:Int)∈xs.take t.toNat)⟩ bs/\St w0 (bs++l) w',
  λt _=>s.len - t.toNat,⟨mk,_,O_,O_,rfl,o0,st⟩,?_⟩
 rintro t w2 ⟨top,bs,ht0,ht1,hok,o,st⟩;unfold F_yg;refine⟨λhi=> ?_,λhi=> ?_⟩
 ·have hi:=dT hi;obtain⟨a,x,hx,hc⟩:=(hs _ _ st).get ht0 hi;have wt:i64.wrap (t+1)=t+1:=ztf ht0 hi O_;rw [zYi hx,zei] at hok;refine⟨a,ht0,hi,x,hc,?_⟩;rw [wm];unfold F_lf;refine⟨λh2=>⟨λ_=>k0 (.inr (.inr ?_)) _ st.drop,λhh=>(by cases hh)⟩,λh2=> ?_⟩
  ·rw [hok,h2]; rfl
  simp only [cD,decide_eq_false_iff_not] at h2
  have hcell:w2.cell? ⟨b,1027,none⟩=some (Vi (top:Int)):=by
   obtain⟨b',ws,hb',rfl,hl,_⟩:=o;simp only [aC,Addr.mk.injEq,and_true] at hb';subst hb';exact st.cell 0 rfl (zke hl)
  refine⟨_,hcell,λh3=>k0 (.inr (.inr ?_)) _ st.drop,λh3=> ?_⟩
  ·rw [hok,h3]; simp
  have h3':=dF h3;obtain⟨x,rfl⟩:=toN (show 0<=x by omega);refine s_U st o (by simp only; omega) O_ λbs w4 o st=> ?_;rw [wt];refine⟨⟨max top x,bs,O_,O_,?_,?_,st⟩,by first | omega | (show _ - _<_ - _; omega)⟩
  ·rw [hok,zsc ht0,show max top x=x from by omega];have:(decide ((x:Int)<(mk:Int)+2)||decide ((x:Int)>65536)||decide ((x:Int)<=(top:Int)))=false:=by simp; omega
   rw [this]; rfl
  ·have:(λj:Nat=>decide ((j:Int)∈xs.take (t+1).toNat))=(λj:Nat=>decide ((j:Int)∈xs.take t.toNat)||decide (j=x)):=by
     funext j;rw [zsc ht0,bL,hx,eW];simp only [dY,aG,bK,decide_eq_true_eq,cE];have:((j:Int)=(x:Int))↔j=x:=O_;rw [this]
   rw [this]; exact o
 ·have hi:=dF hi;have hn:t.toNat=xs.length:=O_;rw [hn,cU] at o;rw [hn,List.drop_length,zei] at hok;exact k1 mk rfl O_ hok _ _ _ _ o st
end
theorem zfi (ws:List Wr):(z8 ws).Pairwise λx y=>x.Key≠y.Key:=by
 have key:∀(ws:List Wr) (p:Nat),(cntP ws p).Pairwise λx y=>x.Key≠y.Key:=λws=>by
  induction ws with
  | nil=>intro p; cases p <;> exact List.Pairwise.nil
  | cons y r ih =>
   intro p;cases p with
   | zero=>exact List.Pairwise.nil
   | succ p =>
    show((if zlf y r=true then [y] else [])++cntP r p).Pairwise _;split
    ·rename_i hk
     refine cZ.2 ⟨λz hz=> ?_,ih p⟩;have hz:=zZe hz;unfold zlf at hk;intro e;have:(r.any λy_1=>decide (y_1.Key=y.Key))=true:=dU.2 ⟨z,hz,decide_eq_true e.symm⟩;rw [this] at hk; cases hk
    ·exact ih p
 exact key ws ws.length
def sm {α:Type} (f:α->Nat) (l:List α):Nat:=(l.map f).sum
section
variable {α β:Type} {f:α->Nat}
theorem sm_nil:sm f []=0:=rfl
theorem sm_cons (x:α) (l:List α):sm f (x::l)=f x+sm f l:=by unfold sm; rw [cG,gE]
theorem sm_app:∀(l m:List α),sm f (l++m)=sm f l+sm f m
 | [],m=>by rw [sm_nil]; simp
 | x::l,m=>by rw [dV,sm_cons,sm_cons,sm_app l m]; omega
theorem zAd (x:α):sm f [x]=f x:=by rw [sm_cons,sm_nil]; omega
theorem znp {g:β->α} (l:List β):sm f (l.map g)=sm (λx=>f (g x)) l:=by unfold sm; rw [dR]; rfl
theorem zZd:∀ {l:List α} {i:Nat} {y:α} (x:α),l[i]? =some y->sm f (l.set i x)+f y=sm f l+f x
 | [],i,y,x,h=>by simp at h
 | z::l,0,y,x,h=>by
  have:z=y:=by simpa using h
  subst this;rw [List.set_cons_zero,sm_cons,sm_cons]; omega
 | z::l,i+1,y,x,h=>by
  rw [cS,sm_cons,sm_cons];have:=zZd (l:=l) (i:=i) (y:=y) x (by simpa using h);omega
theorem zCb:∀ {l:List α} {x:α},x∈l->f x<=sm f l
 | y::l,x,h=>by
  rw [sm_cons];rcases aU.1 h with rfl | h
  ·omega
  ·have:=zCb h; omega
theorem zAl {g:α->Nat}:∀ {l:List α},(∀ x∈l,f x<=g x)->sm f l<=sm g l
 | [],_=>bC _
 | x::l,h=>by
  rw [sm_cons,sm_cons];have:=h x (aI ..);have:=zAl (g:=g) (l:=l) λy hy=>h y (aJ _ hy);omega
theorem zic:∀ {l:List α},(∀ x∈l,f x=0)->sm f l=0
 | [],_=>rfl
 | x::l,h=>by rw [sm_cons,h x (aI ..),zic λy hy=>h y (aJ _ hy)]
theorem zag {l:List α} (h:sm f l≠0):∃ x∈l,f x≠0:=by
 by_cases hh:∀ x∈l,f x=0
 ·exact absurd (zic hh) h
 ·simpa using hh
theorem zph (p:α->Bool):∀ l:List α,sm f l=sm f (l.filter p)+sm f (l.filter λx=> !p x)
 | []=>rfl
 | x::l=>by
  rw [sm_cons,zph p l];cases h:p x
  ·rw [fO (by rw [h]; decide),fP (by simp [h]),sm_cons]; omega
  ·rw [fP h,fO (by simp [h]),sm_cons]; omega
theorem zIm {l m:List α} (h:l.Perm m):sm f l=sm f m:=(h.map f).sum_nat
theorem zop {l:List α} {i j:Nat} {x y:α} (hi:l[i]? =some x) (hj:l[j]? =some y) (hij:i≠j):f x+f y<=sm f l:=by
 have h1:=zZd (f:=f) x hj;have h2:(l.set j x)[i]? =some x:=by rw [aT (λh=>hij h.symm)]; exact hi
 have h3:(l.set j x)[j]? =some x:=aL (gSo hj).1
 have key:∀ {m:List α} {i j:Nat} {x y:α},m[i]? =some x->m[j]? =some y->i<j->f x+f y<=sm f m:=λ{m}=>by
  induction m with
  | nil=>intro i j x y h; simp at h
  | cons z m ih =>
   intro i j x y h h' hlt;rw [sm_cons];cases j with
   | zero=>omega
   | succ j =>
    have h':m[j]? =some y:=by simpa using h'
    cases i with
    | zero =>
     have:z=x:=by simpa using h
     subst this;have:=zCb (f:=f) (mG h');omega
    | succ i =>
     have:=ih (by simpa using h) h' O_;omega
 rcases Nat.lt_or_gt_of_ne hij with h | h
 ·exact key hi hj h
 ·have:=key hj hi h; omega
end
abbrev IW:=Int×Wr
def prs (t:Tx):List IW:=(z8 t.2).map λx=>(t.1,x)
abbrev cw (t:Tx):Nat:=(z8 t.2).length
structure LJ where
 n:Int
 left:List Wr
 out:Nat
structure TS where
 at_:Nat
 held:Option Tx
 opn:List Int
 W:List (Int×Int)
 pend:List Tx
 line:List Tx
 lanes:List (Option LJ)
 qs:List (List (Nat×IW))
 inst:List (List IW)
 gone:List Int
 g:GM
def prL (o:Option LJ):List IW:=match o with | none=>[] | some j=>j.left.map λx=>(j.n,x)
def zqb (log:List Tx) (fed:Nat) (s:TS):List Tx:=(log.take fed).drop s.at_
def rest (log:List Tx) (fed:Nat) (s:TS) (f:IW->Nat):Nat :=
 sm (λt=>sm f (prs t)) (zqb log fed s)+sm (λt=>sm f (prs t)) s.held.toList+sm (λt=>sm f (prs t)) s.pend+sm (λt=>sm f (prs t)) s.line+sm (λo=>sm f (prL o)) s.lanes+sm (λq=>sm (λx=>f x.2) q) s.qs
def zFg (log:List Tx) (fed:Nat) (f:IW->Nat):Nat:=sm (λt=>sm f (prs t)) (log.take fed)
def ph (o:Option LJ):Nat:=match o with | none=>0 | some j=>2+2*j.left.length+j.out
def phi (log:List Tx) (fed:Nat) (s:TS):Nat :=
 sm (λt=>5+2*cw t) (zqb log fed s)+sm (λt=>4+2*cw t) s.held.toList+sm (λt=>3+2*cw t) s.pend+sm (λt=>3+2*cw t) s.line+sm ph s.lanes+s.gone.length
def cnt (j:Nat) (qs:List (List (Nat×IW))):Nat:=sm (λq=>sm (λx:Nat×IW=>if x.1=j then 1 else 0) q) qs
def GM.gt (g:GM) (n:Nat):Prop:=1<=n/\(n<=g.mark\/g.S n=true)
def zod (f:Int->Nat) (o:Option LJ):Nat:=match o with | none=>0 | some j=>f j.n
def zik (qs:List (List (Nat×IW))) (i:Nat) (o:Option LJ):Prop:=match o with
 | none=>cnt i qs=0
 | some j=>j.out=cnt i qs/\∀ q∈qs,∀ x∈q,x.1=i->x.2.1=j.n
structure TInv (log:List Tx) (fed cap:Nat) (sh:ByteArray->Nat) (s:TS):Prop where
 af:s.at_<=fed
 fl:fed<=log.length
 held:∀ t,s.held=some t->1<=s.at_/\log[s.at_ - 1]? =some t
 txs:∀ t∈s.pend++s.line,t∈log.take s.at_
 all:∀ f,rest log fed s f+sm (λl=>sm f l) s.inst=zFg log fed f
 lane:∀ i o,s.lanes[i]? =some o->zik s.qs i o
 lnum:∀ q∈s.qs,∀ x∈q,x.1<s.lanes.length
 opn:∀ f:Int->Nat,sm f s.opn=sm (λt=>f t.1) s.pend+sm (λt=>f t.1) s.line+sm (zod f) s.lanes+sm f s.gone
 nod:s.opn.Nodup
 seen:∀ n:Nat,(1<=n/\n<=s.at_)↔((∃ t,s.held=some t/\n=s.at_)\/((n:Int)∈s.opn)\/s.g.gt n)
 heldN:∀ t,s.held=some t->((s.at_:Int))∉s.opn/\¬ s.g.gt s.at_
 opnG:∀ n:Nat,(n:Int)∈s.opn->¬ s.g.gt n
 opnN:∀ x∈s.opn,∃ n:Nat,x=(n:Int)
 gap:s.g.S (s.g.mark+1)=false
 gS:∀ j,s.g.S j=true->j<=65536
 wnod:s.W.Nodup
 wlt:∀ p∈s.W,p.2<p.1/\p.1∈s.opn/\p.2∈s.opn
 pw:∀ t∈s.pend,∃ u,(t.1,u)∈s.W
 wp:∀ p∈s.W,p.1∈s.pend.map (·.1)
 qcap:∀ q∈s.qs,q.length<=cap
 qsh:∀ i q,s.qs[i]? =some q->∀ x∈q,sh x.2.2.Key=i
 ish:∀ i l,s.inst[i]? =some l->∀ x∈l,sh x.2.Key=i
 qi:s.inst.length=s.qs.length
structure zId (log:List Tx):Prop where
 num:∀ i t,log[i]? =some t->t.1=((i+1:Nat):Int)
 ok:∀ t∈log,okT t.1 t.2
 len:log.length<=65536
section
variable {log:List Tx} {fed cap:Nat} {sh:ByteArray->Nat} {s:TS}
theorem zgi {t:Tx} (h:s.at_<fed) (ht:log[s.at_]? =some t) (hf:fed<=log.length):zqb log fed s=t::(log.take fed).drop (s.at_+1):=by
 unfold zqb;have:(log.take fed)[s.at_]? =some t:=by rw [eK h]; exact ht
 obtain⟨h1,rfl⟩:=gSo this;exact bO h1
def rdS (log:List Tx) (s:TS):TS:={ s with at_:=s.at_+1,held:=log[s.at_]? }
theorem zBl (L:zId log) (h:TInv log fed cap sh s) (h1:s.held=none) (h2:s.at_<fed):TInv log fed cap sh (rdS log s)/\phi log fed (rdS log s)+1=phi log fed s:=by
 have hl:s.at_<log.length:=by have:=h.fl; omega
 obtain⟨t,ht⟩:∃ t,log[s.at_]? =some t:=⟨_,aA hl⟩
 have hu:=zgi h2 ht h.fl;have hu':zqb log fed (rdS log s)=(log.take fed).drop (s.at_+1):=rfl;have hh:(rdS log s).held=some t:=ht;have hn:∀ n:Nat,(n:Int)∈s.opn\/s.g.gt n->n<=s.at_:=λn hn=>((h.seen n).2 (.inr hn)).2;refine⟨{ af:=h2,fl:=h.fl,held:=λx hx=>⟨Nat.succ_pos _,by rw [hh] at hx; cases hx; exact ht⟩,txs:=λx hx=> ?_,all:=λf=> ?_,lane:=h.lane,lnum:=h.lnum,opn:=h.opn,nod:=h.nod,seen:=λn=> ?_,heldN:=λx hx=> ?_,opnG:=h.opnG,opnN:=h.opnN,gap:=h.gap,gS:=h.gS,wnod:=h.wnod,wlt:=h.wlt,pw:=h.pw,wp:=h.wp,qcap:=h.qcap,qsh:=h.qsh,ish:=h.ish,qi:=h.qi },?_⟩
 ·have:=h.txs x hx;have e:(log.take (s.at_+1))=log.take s.at_++[t]:=by rw [bL,ht]; rfl
  show x∈log.take (s.at_+1);rw [e]; exact bB _ this
 ·have:=h.all f;unfold rest at this ⊢;rw [hu] at this;rw [hu',hh];rw [h1] at this;simp only [eS,dY,sm_cons,sm_nil] at this ⊢;show _+_+sm _ s.pend+sm _ s.line+sm _ s.lanes+sm _ s.qs+sm _ s.inst=_;omega
 ·show(1<=n/\n<=s.at_+1)↔((∃ t,(rdS log s).held=some t/\n=s.at_+1)\/((n:Int)∈s.opn)\/s.g.gt n);constructor
  ·rintro⟨a,b⟩;by_cases hb:n=s.at_+1
   ·exact .inl ⟨t,hh,hb⟩
   ·rcases (h.seen n).1 ⟨a,O_⟩ with ⟨x,hx,_⟩ | hx
    ·rw [h1] at hx; cases hx
    ·exact .inr hx
  ·rintro(⟨_,_,rfl⟩ | hx)
   ·omega
   ·have:=(h.seen n).2 (.inr hx); omega
 ·refine⟨λhx=> ?_,λhx=> ?_⟩
  ·have:=hn (s.at_+1) (.inl hx); omega
  ·have:=hn (s.at_+1) (.inr hx); omega
 ·unfold phi;rw [hu,hu',hh,h1];simp only [eS,dY,sm_cons,sm_nil];show _+_+sm _ s.pend+sm _ s.line+sm _ s.lanes+s.gone.length+1=_;omega
def dsS (t:Tx) (U:List Int) (s:TS):TS:={ s with held:=none,opn:=t.1::s.opn,W:=s.W++U.map λu=>(t.1,u),line:=if U=[] then s.line++[t] else s.line,pend:=if U=[] then s.pend else s.pend++[t] }
theorem zCl (L:zId log) (h:TInv log fed cap sh s) {t:Tx} {U:List Int} (h1:s.held=some t) (hU:∀ u∈U,u∈s.opn) (hN:U.Nodup):TInv log fed cap sh (dsS t U s)/\phi log fed (dsS t U s)+1=phi log fed s:=by
 obtain⟨ha,ht⟩:=h.held t h1;have htn:t.1=(s.at_:Int):=by have:=L.num _ _ ht; omega
 obtain⟨hno,hng⟩:=h.heldN t h1
 have hlt:∀ u∈s.opn,u<t.1:=λu hu=>by
  obtain⟨n,rfl⟩:=h.opnN u hu;have:=((h.seen n).2 (.inr (.inl hu))).2;have:n≠s.at_:=λe=>hno (e ▸ hu);rw [htn]; omega
 have htm:t∈log.take s.at_:=mG (i:=s.at_ - 1) (by rw [eK O_]; exact ht);refine⟨{ af:=h.af,fl:=h.fl,held:=λx hx=>(by cases hx),txs:=λx hx=> ?_,all:=λf=> ?_,lane:=h.lane,lnum:=h.lnum,opn:=λf=> ?_,nod:= ?_,seen:=λn=> ?_,heldN:=λx hx=>(by cases hx),opnG:=λn hn=> ?_,opnN:=λx hx=> ?_,gap:=h.gap,gS:=h.gS,wnod:= ?_,wlt:=λp hp=> ?_,pw:=λx hx=> ?_,wp:=λp hp=> ?_,qcap:=h.qcap,qsh:=h.qsh,ish:=h.ish,qi:=h.qi },?_⟩
 ·have:x∈s.pend++s.line\/x=t:=by
    unfold dsS at hx;by_cases hu:U=[]
    ·simp only [if_pos hu] at hx;rcases aG.1 hx with hx | hx
     ·exact .inl (bB _ hx)
     ·rcases aG.1 hx with hx | hx
      ·exact .inl (aH _ hx)
      ·exact .inr (by simpa using hx)
    ·simp only [if_neg hu] at hx;rcases aG.1 hx with hx | hx
     ·rcases aG.1 hx with hx | hx
      ·exact .inl (bB _ hx)
      ·exact .inr (by simpa using hx)
     ·exact .inl (aH _ hx)
  rcases this with hx | rfl
  ·exact h.txs x hx
  ·exact htm
 ·have:=h.all f;unfold rest at this ⊢;rw [h1] at this;have hu:zqb log fed (dsS t U s)=zqb log fed s:=rfl;rw [hu];unfold dsS;simp only [eS,dY,sm_cons,sm_nil] at this ⊢;by_cases he:U=[]
  ·simp only [if_pos he,sm_app,zAd]; omega
  ·simp only [if_neg he,sm_app,zAd]; omega
 ·have:=h.opn f;unfold dsS;simp only [sm_cons];by_cases he:U=[]
  ·simp only [if_pos he,sm_app,zAd]; omega
  ·simp only [if_neg he,sm_app,zAd]; omega
 ·exact dP.2 ⟨by rw [htn]; exact hno,h.nod⟩
 ·show(1<=n/\n<=s.at_)↔((∃ x,(none:Option Tx)=some x/\n=s.at_)\/((n:Int)∈t.1::s.opn)\/s.g.gt n);rw [h.seen n];constructor
  ·rintro(⟨_,_,rfl⟩ | hx | hx)
   ·exact .inr (.inl (by rw [htn]; exact aI ..))
   ·exact .inr (.inl (aJ _ hx))
   ·exact .inr (.inr hx)
  ·rintro(⟨_,hx,_⟩ | hx | hx)
   ·cases hx
   ·rcases aU.1 hx with hx | hx
    ·exact .inl ⟨t,h1,O_⟩
    ·exact .inr (.inl hx)
   ·exact .inr (.inr hx)
 ·rcases aU.1 hn with hx | hx
  ·have:n=s.at_:=O_;rw [this]; exact hng
  ·exact h.opnG n hx
 ·rcases aU.1 hx with rfl | hx
  ·exact⟨s.at_,htn⟩
  ·exact h.opnN x hx
 ·refine cJ.2 ⟨h.wnod,cN.2 (hN.imp λ{a b} hab e=>hab (Prod.mk.inj e).2),λa ha b hb e=> ?_⟩;obtain⟨u,_,rfl⟩:=aQ.1 hb;subst e;have:=hlt _ (h.wlt _ ha).2.1;simp at this
 ·rcases aG.1 hp with hp | hp
  ·obtain⟨a,b,c⟩:=h.wlt p hp;exact⟨a,aJ _ b,aJ _ c⟩
  ·obtain⟨u,hu,rfl⟩:=aQ.1 hp;exact⟨hlt u (hU u hu),aI ..,aJ _ (hU u hu)⟩
 ·unfold dsS at hx;by_cases he:U=[]
  ·simp only [if_pos he] at hx;obtain⟨u,hu⟩:=h.pw x hx;exact⟨u,bB _ hu⟩
  ·simp only [if_neg he] at hx;rcases aG.1 hx with hx | hx
   ·obtain⟨u,hu⟩:=h.pw x hx;exact⟨u,bB _ hu⟩
   ·obtain⟨u,hu⟩:=cW U he;have:x=t:=by simpa using hx
    subst this;exact⟨u,aH _ (aQ.2 ⟨u,hu,rfl⟩)⟩
 ·unfold dsS;rcases aG.1 hp with hp | hp
  ·have:=h.wp p hp;by_cases he:U=[]
   ·simp only [if_pos he]; exact this
   ·simp only [if_neg he,aR]; exact bB _ this
  ·obtain⟨u,hu,rfl⟩:=aQ.1 hp;have he:U≠[]:=λe=>by rw [e] at hu; cases hu
   simp only [if_neg he,aR];exact aH _ (by simp)
 ·unfold phi;have hu:zqb log fed (dsS t U s)=zqb log fed s:=rfl;rw [hu,h1];unfold dsS;simp only [eS,dY,sm_cons,sm_nil];by_cases he:U=[]
  ·simp only [if_pos he,sm_app,zAd]; omega
  ·simp only [if_neg he,sm_app,zAd]; omega
end
section
variable {log:List Tx} {fed cap:Nat} {sh:ByteArray->Nat} {s:TS}
theorem mem_set {α:Type} {l:List α} {i:Nat} {x y:α} (h:y∈l.set i x):y=x\/y∈l:=(cK h).symm
theorem zjk {qs:List (List (Nat×IW))} {j:Nat} {q:List (Nat×IW)} {x:Nat×IW} (hq:q∈qs) (hx:x∈q) (h:x.1=j):1<=cnt j qs:=by
 unfold cnt;have h1:=zCb (f:=λq=>sm (λx:Nat×IW=>if x.1=j then 1 else 0) q) hq;have h2:=zCb (f:=λx:Nat×IW=>if x.1=j then 1 else 0) hx;simp only [h,if_true] at h1 h2;omega
def tkS (j:Nat) (t:Tx) (r:List Tx) (s:TS):TS:={ s with line:=r,lanes:=s.lanes.set j (some ⟨t.1,z8 t.2,0⟩) }
theorem zDl (h:TInv log fed cap sh s) {j:Nat} {t:Tx} {r:List Tx} (h1:s.line=t::r) (h2:s.lanes[j]? =some none):TInv log fed cap sh (tkS j t r s)/\phi log fed (tkS j t r s)+1=phi log fed s:=by
 have hset:∀ f:Option LJ->Nat,sm f (tkS j t r s).lanes+f none=sm f s.lanes+f (some ⟨t.1,z8 t.2,0⟩):=λf=>zZd _ h2;have hl0:=h.lane j none h2;have hl0:cnt j s.qs=0:=hl0;refine⟨{ af:=h.af,fl:=h.fl,held:=h.held,txs:=λx hx=>h.txs x ?_,all:=λf=> ?_,lane:=λi o ho=> ?_,lnum:=λq hq x hx=> ?_,opn:=λf=> ?_,nod:=h.nod,seen:=h.seen,heldN:=h.heldN,opnG:=h.opnG,opnN:=h.opnN,gap:=h.gap,gS:=h.gS,wnod:=h.wnod,wlt:=h.wlt,pw:=h.pw,wp:=h.wp,qcap:=h.qcap,qsh:=h.qsh,ish:=h.ish,qi:=h.qi },?_⟩
 ·rcases aG.1 hx with hx | hx
  ·exact bB _ hx
  ·exact aH _ (by rw [h1]; exact aJ _ hx)
 ·have:=h.all f;have hs:=hset λo=>sm f (prL o);unfold rest at this ⊢;rw [h1,sm_cons] at this;have e:sm f (prL (some ⟨t.1,z8 t.2,0⟩))=sm f (prs t):=rfl;have e0:sm f (prL none)=0:=rfl;simp only [e,e0] at hs;show sm _ (zqb log fed s)+sm _ s.held.toList+sm _ s.pend+sm _ r+sm _ (tkS j t r s).lanes+sm _ s.qs+sm _ s.inst=_;omega
 ·have ho:(s.lanes.set j (some ⟨t.1,z8 t.2,0⟩))[i]? =some o:=ho;by_cases hij:j=i
  ·subst hij;rw [aL (gSo h2).1] at ho;obtain rfl:=aE ho;refine⟨hl0.symm,λq hq x hx e=> ?_⟩;have hq:q∈s.qs:=hq;have:=zjk hq hx e;omega
  ·rw [aT hij] at ho;exact h.lane i o ho
 ·show x.1<(s.lanes.set j _).length;rw [aK]; exact h.lnum q hq x hx
 ·have:=h.opn f;have hs:=hset (zod f);rw [h1,sm_cons] at this;have e:zod f (some ⟨t.1,z8 t.2,0⟩)=f t.1:=rfl;have e0:zod f none=0:=rfl;rw [e,e0] at hs;show sm f s.opn=sm _ s.pend+sm _ r+sm _ (tkS j t r s).lanes+sm _ s.gone;omega
 ·have hs:=hset ph;unfold phi;rw [h1,sm_cons];have e:ph (some ⟨t.1,z8 t.2,0⟩)=2+2*cw t+0:=rfl;have e0:ph none=0:=rfl;rw [e,e0] at hs;show sm _ (zqb log fed s)+sm _ s.held.toList+sm _ s.pend+sm _ r+sm _ (tkS j t r s).lanes+s.gone.length+1=_;omega
def sdS (i k:Nat) (n:Int) (x:Wr) (r:List Wr) (o:Nat) (q:List (Nat×IW)) (s:TS):TS:={ s with lanes:=s.lanes.set i (some ⟨n,r,o+1⟩),qs:=s.qs.set k (q++[(i,n,x)]) }
theorem zEl (h:TInv log fed cap sh s) {i k:Nat} {n:Int} {x:Wr} {r:List Wr} {o:Nat} {q:List (Nat×IW)} (h1:s.lanes[i]? =some (some ⟨n,x::r,o⟩)) (h2:s.qs[k]? =some q) (hk:sh x.Key=k) (hc:q.length<cap) :
    TInv log fed cap sh (sdS i k n x r o q s)/\phi log fed (sdS i k n x r o q s)+1=phi log fed s:=by
 have hset:∀ f:Option LJ->Nat,sm f (sdS i k n x r o q s).lanes+f (some ⟨n,x::r,o⟩)=sm f s.lanes+f (some ⟨n,r,o+1⟩):=λf=>zZd _ h1;have hqs:∀ f:List (Nat×IW)->Nat,sm f (sdS i k n x r o q s).qs+f q=sm f s.qs+f (q++[(i,n,x)]):=λf=>zZd _ h2;have hil:=(gSo h1).1;have hqm:=mG h2;obtain⟨l1,l2⟩:o=cnt i s.qs/\_:=h.lane i _ h1
 have hcn:∀ j,cnt j (sdS i k n x r o q s).qs=cnt j s.qs+(if i=j then 1 else 0):=λj=>by
  have:=hqs λq=>sm (λx:Nat×IW=>if x.1=j then 1 else 0) q;simp only [sm_app,zAd] at this;unfold cnt;omega
 have hmem:∀ q'∈(sdS i k n x r o q s).qs,∀ y∈q',y=(i,n,x)\/∃ q0∈s.qs,y∈q0:=λq' hq' y hy=>by
  rcases mem_set hq' with rfl | hq'
  ·rcases aG.1 hy with hy | hy
   ·exact .inr ⟨q,hqm,hy⟩
   ·exact .inl (by simpa using hy)
  ·exact .inr ⟨q',hq',hy⟩
 refine⟨{ af:=h.af,fl:=h.fl,held:=h.held,txs:=h.txs,all:=λf=> ?_,lane:=λj o' ho=> ?_,lnum:=λq' hq' y hy=> ?_,opn:=λf=> ?_,nod:=h.nod,seen:=h.seen,heldN:=h.heldN,opnG:=h.opnG,opnN:=h.opnN,gap:=h.gap,gS:=h.gS,wnod:=h.wnod,wlt:=h.wlt,pw:=h.pw,wp:=h.wp,qcap:=λq' hq'=> ?_,qsh:=λj q' hq' y hy=> ?_,ish:=h.ish,qi:= ?_ },?_⟩
 ·have:=h.all f;have hs:=hset λo=>sm f (prL o);have hq:=hqs λq=>sm (λx:Nat×IW=>f x.2) q;unfold rest at this ⊢;have e:sm f (prL (some ⟨n,x::r,o⟩))=f (n,x)+sm f (prL (some ⟨n,r,o+1⟩)):=sm_cons _ _;simp only [e] at hs;simp only [sm_app,zAd] at hq;show sm _ (zqb log fed s)+sm _ s.held.toList+sm _ s.pend+sm _ s.line+sm _ (sdS i k n x r o q s).lanes+sm _ (sdS i k n x r o q s).qs+sm _ s.inst=_;omega
 ·have ho:(s.lanes.set i (some ⟨n,r,o+1⟩))[j]? =some o':=ho;by_cases hij:i=j
  ·subst hij;rw [aL hil] at ho;obtain rfl:=aE ho;refine⟨?_,λq' hq' y hy e=> ?_⟩
   ·rw [hcn,if_pos rfl,<-l1]
   ·rcases hmem q' hq' y hy with rfl | ⟨q0,hq0,hy0⟩
    ·rfl
    ·exact l2 q0 hq0 y hy0 e
  ·rw [aT hij] at ho;have hl:=h.lane j o' ho;unfold zik at hl ⊢;rw [hcn,if_neg hij,eE];cases o' with
   | none=>exact hl
   | some lj =>
    refine⟨hl.1,λq' hq' y hy e=> ?_⟩;rcases hmem q' hq' y hy with rfl | ⟨q0,hq0,hy0⟩
    ·exact absurd e hij
    ·exact hl.2 q0 hq0 y hy0 e
 ·show y.1<(s.lanes.set i _).length;rw [aK];rcases hmem q' hq' y hy with rfl | ⟨q0,hq0,hy0⟩
  ·exact hil
  ·exact h.lnum q0 hq0 y hy0
 ·have:=h.opn f;have hs:=hset (zod f);have e:zod f (some ⟨n,x::r,o⟩)=zod f (some ⟨n,r,o+1⟩):=rfl;rw [e] at hs;show sm f s.opn=sm _ s.pend+sm _ s.line+sm _ (sdS i k n x r o q s).lanes+sm _ s.gone;omega
 ·rcases mem_set hq' with rfl | hq'
  ·rw [aB]; exact hc
  ·exact h.qcap q' hq'
 ·have hq':(s.qs.set k (q++[(i,n,x)]))[j]? =some q':=hq';by_cases hkj:k=j
  ·subst hkj;rw [aL (gSo h2).1] at hq';obtain rfl:=aE hq';rcases aG.1 hy with hy | hy
   ·exact h.qsh _ q h2 y hy
   ·have:y=(i,n,x):=by simpa using hy
    rw [this]; exact hk
  ·rw [aT hkj] at hq';exact h.qsh j q' hq' y hy
 ·show s.inst.length=(s.qs.set k _).length;rw [aK]; exact h.qi
 ·have hs:=hset ph;unfold phi;have e:ph (some ⟨n,x::r,o⟩)=2+2*(r.length+1)+o:=rfl;have e0:ph (some ⟨n,r,o+1⟩)=2+2*r.length+(o+1):=rfl;rw [e,e0] at hs;show sm _ (zqb log fed s)+sm _ s.held.toList+sm _ s.pend+sm _ s.line+sm _ (sdS i k n x r o q s).lanes+s.gone.length+1=_;omega
def dnS (i:Nat) (n:Int) (s:TS):TS:={ s with lanes:=s.lanes.set i none,gone:=s.gone++[n] }
theorem zFl (h:TInv log fed cap sh s) {i:Nat} {n:Int} (h1:s.lanes[i]? =some (some ⟨n,[],0⟩)):TInv log fed cap sh (dnS i n s)/\phi log fed (dnS i n s)+1=phi log fed s:=by
 have hset:∀ f:Option LJ->Nat,sm f (dnS i n s).lanes+f (some ⟨n,[],0⟩)=sm f s.lanes+f none:=λf=>zZd _ h1;obtain⟨l1,l2⟩:0=cnt i s.qs/\_:=h.lane i _ h1;refine⟨{ af:=h.af,fl:=h.fl,held:=h.held,txs:=h.txs,all:=λf=> ?_,lane:=λj o ho=> ?_,lnum:=λq hq x hx=> ?_,opn:=λf=> ?_,nod:=h.nod,seen:=h.seen,heldN:=h.heldN,opnG:=h.opnG,opnN:=h.opnN,gap:=h.gap,gS:=h.gS,wnod:=h.wnod,wlt:=h.wlt,pw:=h.pw,wp:=h.wp,qcap:=h.qcap,qsh:=h.qsh,ish:=h.ish,qi:=h.qi },?_⟩
 ·have:=h.all f;have hs:=hset λo=>sm f (prL o);have e:sm f (prL (some ⟨n,[],0⟩))=0:=rfl;have e0:sm f (prL none)=0:=rfl;simp only [e,e0] at hs;unfold rest at this ⊢;show sm _ (zqb log fed s)+sm _ s.held.toList+sm _ s.pend+sm _ s.line+sm _ (dnS i n s).lanes+sm _ s.qs+sm _ s.inst=_;omega
 ·have ho:(s.lanes.set i none)[j]? =some o:=ho;by_cases hij:i=j
  ·subst hij;rw [aL (gSo h1).1] at ho;obtain rfl:=aE ho;exact l1.symm
  ·rw [aT hij] at ho;exact h.lane j o ho
 ·show x.1<(s.lanes.set i _).length;rw [aK]; exact h.lnum q hq x hx
 ·have:=h.opn f;have hs:=hset (zod f);have e:zod f (some ⟨n,[],0⟩)=f n:=rfl;have e0:zod f none=0:=rfl;rw [e,e0] at hs;show sm f s.opn=sm _ s.pend+sm _ s.line+sm _ (dnS i n s).lanes+sm f (s.gone++[n]);rw [sm_app,zAd];omega
 ·have hs:=hset ph;unfold phi;have e:ph (some ⟨n,[],0⟩)=2:=rfl;have e0:ph none=0:=rfl;rw [e,e0] at hs;show sm _ (zqb log fed s)+sm _ s.held.toList+sm _ s.pend+sm _ s.line+sm _ (dnS i n s).lanes+(s.gone++[n]).length+1=_;rw [aB,bT];omega
theorem zkk (L:zId log) {z:IW}:zFg log fed (λy=>if y.1=z.1/\y.2.Key=z.2.Key then 1 else 0)<=1:=by
 have one:∀ t:Tx,sm (λy:IW=>if y.1=z.1/\y.2.Key=z.2.Key then 1 else 0) (prs t)<=(if t.1=z.1 then 1 else 0):=λt=>by
  unfold prs;rw [znp];by_cases ht:t.1=z.1
  ·rw [if_pos ht];have hk:=zfi t.2
   have:∀ l:List Wr,l.Pairwise (λx y=>x.Key≠y.Key)->sm (λx:Wr=>if(t.1,x).1=z.1/\(t.1,x).2.Key=z.2.Key then 1 else 0) l<=1:=λl=>by
    induction l with
    | nil=>intro _; exact bU _
    | cons x l ih =>
     intro hp;obtain⟨hp1,hp2⟩:=cZ.1 hp;rw [sm_cons];by_cases hx:x.Key=z.2.Key
     ·rw [if_pos ⟨ht,hx⟩,zic λy hy=>if_neg λhh=>hp1 y hy (hx.trans hh.2.symm)]; omega
     ·rw [if_neg λhh=>hx hh.2];have:=ih hp2;omega
   exact this _ hk
  ·rw [if_neg ht,zic λx _=>if_neg λhh=>ht hh.1]; omega
 have:=zAl (l:=log.take fed) (λt _=>one t);refine cH this ?_
 have key:∀(l:List Tx) (o:Nat),(∀ i t,l[i]? =some t->t.1=((o+i:Nat):Int))->sm (λt:Tx=>if t.1=z.1 then 1 else 0) l<=(if z.1<(o:Int) then 0 else 1):=λl=>by
  induction l with
  | nil=>intro o _; exact bU _
  | cons t l ih =>
   intro o hn;have h0:=hn 0 t rfl;have ih:=ih (o+1) λi x hx=>by rw [hn (i+1) x (by simpa using hx)]; congr 1; omega
   rw [sm_cons];by_cases ht:t.1=z.1
   ·rw [if_pos ht];have:z.1<((o+1:Nat):Int):=O_;rw [if_pos this] at ih;rw [if_neg O_]; omega
   ·rw [if_neg ht];by_cases hz:z.1<(o:Int)
    ·rw [if_pos hz]; rw [if_pos O_] at ih; omega
    ·rw [if_neg hz];have:(if z.1<((o+1:Nat):Int) then 0 else 1)<=1:=by split <;> omega
     omega
 have:=key (log.take fed) 1 λi t hi=>by
  rw [dJ] at hi;split at hi
  ·rw [L.num i t hi]; congr 1; omega
  ·cases hi
 refine cH this ?_;split <;> omega
theorem zhi (L:zId log) (h:TInv log fed cap sh s) {k i:Nat} {z:IW} {r:List (Nat×IW)} (h1:s.qs[k]? =some ((i,z)::r)) :
    ∃ left out l,s.lanes[i]? =some (some ⟨z.1,left,out+1⟩)/\s.inst[k]? =some l/\∀ y∈l,y.2.Key=z.2.Key->y.1≠z.1:=by
 have hm:=mG h1;have hi:=h.lnum _ hm (i,z) (aI ..);obtain⟨o,ho⟩:∃ o,s.lanes[i]? =some o:=⟨_,aA hi⟩
 have hl:=h.lane i o ho;have hc:1<=cnt i s.qs:=zjk hm (aI ..) (x:=(i,z)) rfl;have hk:k<s.inst.length:=by rw [h.qi]; exact(gSo h1).1
 cases o with
 | none=>have hl:cnt i s.qs=0:=hl; omega
 | some lj =>
  obtain⟨n,left,out⟩:=lj;obtain⟨l1,l2⟩:out=cnt i s.qs/\_:=hl;have hz:z.1=n:=l2 _ hm (i,z) (aI ..) rfl;refine⟨left,out - 1,s.inst[k],?_,aA hk,λy hy hk1 hk2=> ?_⟩
  ·rw [ho,hz,show out - 1+1=out from by omega]
  ·have ht:=zkk (fed:=fed) L (z:=z);obtain⟨f,hf⟩:∃ f:IW->Nat,f=λy=>if y.1=z.1/\y.2.Key=z.2.Key then 1 else 0:=⟨_,rfl⟩
   have fz:f z=1:=by rw [hf]; exact if_pos ⟨rfl,rfl⟩
   have fy:f y=1:=by rw [hf]; exact if_pos ⟨hk2,hk1⟩
   rw [<-hf,<-h.all] at ht;unfold rest at ht;have a1:=zCb (f:=λq:List (Nat×IW)=>sm (λx=>f x.2) q) hm;have a0:sm (λx:Nat×IW=>f x.2) ((i,z)::r)=f z+sm (λx=>f x.2) r:=sm_cons _ _;have a2:=zCb (f:=λl:List IW=>sm f l) (fZ hk);have a3:=zCb (f:=f) hy;omega
def svS (k i:Nat) (z:IW) (r:List (Nat×IW)) (left:List Wr) (out:Nat) (l:List IW) (s:TS):TS:={ s with qs:=s.qs.set k r,inst:=s.inst.set k (l++[z]),lanes:=s.lanes.set i (some ⟨z.1,left,out⟩) }
theorem zlk (h:TInv log fed cap sh s) {k i:Nat} {z:IW} {r:List (Nat×IW)} {left:List Wr} {out:Nat} {l:List IW} (h1:s.qs[k]? =some ((i,z)::r)) (h2:s.lanes[i]? =some (some ⟨z.1,left,out+1⟩)) (h3:s.inst[k]? =some l) :
    TInv log fed cap sh (svS k i z r left out l s)/\phi log fed (svS k i z r left out l s)+1=phi log fed s:=by
 have hset:∀ f:Option LJ->Nat,sm f (svS k i z r left out l s).lanes+f (some ⟨z.1,left,out+1⟩)=sm f s.lanes+f (some ⟨z.1,left,out⟩):=λf=>zZd _ h2;have hqs:∀ f:List (Nat×IW)->Nat,sm f (svS k i z r left out l s).qs+f ((i,z)::r)=sm f s.qs+f r:=λf=>zZd _ h1;have hin:∀ f:List IW->Nat,sm f (svS k i z r left out l s).inst+f l=sm f s.inst+f (l++[z]):=λf=>zZd _ h3;have hm:=mG h1;have hil:=(gSo h2).1;obtain⟨l1,l2⟩:out+1=cnt i s.qs/\_:=h.lane i _ h2
 have hcn:∀ j,cnt j (svS k i z r left out l s).qs+(if i=j then 1 else 0)=cnt j s.qs:=λj=>by
  have:=hqs λq=>sm (λx:Nat×IW=>if x.1=j then 1 else 0) q;simp only [sm_cons] at this;unfold cnt;omega
 have hmem:∀ q'∈(svS k i z r left out l s).qs,∀ y∈q',∃ q0∈s.qs,y∈q0:=λq' hq' y hy=>by
  rcases mem_set hq' with rfl | hq'
  ·exact⟨_,hm,aJ _ hy⟩
  ·exact⟨q',hq',hy⟩
 refine⟨{ af:=h.af,fl:=h.fl,held:=h.held,txs:=h.txs,all:=λf=> ?_,lane:=λj o' ho=> ?_,lnum:=λq' hq' y hy=> ?_,opn:=λf=> ?_,nod:=h.nod,seen:=h.seen,heldN:=h.heldN,opnG:=h.opnG,opnN:=h.opnN,gap:=h.gap,gS:=h.gS,wnod:=h.wnod,wlt:=h.wlt,pw:=h.pw,wp:=h.wp,qcap:=λq' hq'=> ?_,qsh:=λj q' hq' y hy=> ?_,ish:=λj l' hl' y hy=> ?_,qi:= ?_ },?_⟩
 ·have:=h.all f;have hs:=hset λo=>sm f (prL o);have hq:=hqs λq=>sm (λx:Nat×IW=>f x.2) q;have hi:=hin λl=>sm f l;have e:sm f (prL (some ⟨z.1,left,out+1⟩))=sm f (prL (some ⟨z.1,left,out⟩)):=rfl;simp only [e] at hs;simp only [sm_cons] at hq;simp only [sm_app,zAd] at hi;unfold rest at this ⊢;show sm _ (zqb log fed s)+sm _ s.held.toList+sm _ s.pend+sm _ s.line+sm _ (svS k i z r left out l s).lanes+sm _ (svS k i z r left out l s).qs+sm _ (svS k i z r left out l s).inst=_;omega
 ·have ho:(s.lanes.set i (some ⟨z.1,left,out⟩))[j]? =some o':=ho;have hcj:=hcn j;by_cases hij:i=j
  ·subst hij;rw [aL hil] at ho;obtain rfl:=aE ho;rw [if_pos rfl] at hcj;exact⟨by show out=_; omega,λq' hq' y hy e=>by obtain⟨q0,a,b⟩:=hmem q' hq' y hy; exact l2 q0 a y b e⟩
  ·rw [aT hij] at ho;have hl:=h.lane j o' ho;rw [if_neg hij] at hcj;unfold zik at hl ⊢;cases o' with
   | none=>show cnt j _=0; have hl:cnt j s.qs=0:=hl; omega
   | some lj=>exact⟨by have:=hl.1; show lj.out=_; omega,λq' hq' y hy e=>by obtain⟨q0,a,b⟩:=hmem q' hq' y hy; exact hl.2 q0 a y b e⟩
 ·show y.1<(s.lanes.set i _).length;rw [aK];obtain⟨q0,a,b⟩:=hmem q' hq' y hy;exact h.lnum q0 a y b
 ·have:=h.opn f;have hs:=hset (zod f);have e:zod f (some ⟨z.1,left,out+1⟩)=zod f (some ⟨z.1,left,out⟩):=rfl;rw [e] at hs;show sm f s.opn=sm _ s.pend+sm _ s.line+sm _ (svS k i z r left out l s).lanes+sm _ s.gone;omega
 ·rcases mem_set hq' with rfl | hq'
  ·have:=h.qcap _ hm; rw [aV] at this; omega
  ·exact h.qcap q' hq'
 ·have hq':(s.qs.set k r)[j]? =some q':=hq';by_cases hkj:k=j
  ·subst hkj;rw [aL (gSo h1).1] at hq';obtain rfl:=aE hq';exact h.qsh _ _ h1 y (aJ _ hy)
  ·rw [aT hkj] at hq';exact h.qsh j q' hq' y hy
 ·have hl':(s.inst.set k (l++[z]))[j]? =some l':=hl';by_cases hkj:k=j
  ·subst hkj;rw [aL (gSo h3).1] at hl';obtain rfl:=aE hl';rcases aG.1 hy with hy | hy
   ·exact h.ish _ l h3 y hy
   ·have:y=z:=by simpa using hy
    subst this;exact h.qsh _ _ h1 (i,y) (aI ..)
  ·rw [aT hkj] at hl';exact h.ish j l' hl' y hy
 ·show(s.inst.set k _).length=(s.qs.set k _).length;rw [aK,aK]; exact h.qi
 ·have hs:=hset ph;have e:ph (some ⟨z.1,left,out+1⟩)=2+2*left.length+(out+1):=rfl;have e0:ph (some ⟨z.1,left,out⟩)=2+2*left.length+out:=rfl;rw [e,e0] at hs;unfold phi;show sm _ (zqb log fed s)+sm _ s.held.toList+sm _ s.pend+sm _ s.line+sm _ (svS k i z r left out l s).lanes+s.gone.length+1=_;omega
end
def one1 (x:Int) (y:Int):Nat:=if y=x then 1 else 0
theorem zGg {x:Int}:∀ {l:List Int},l.Nodup->sm (one1 x) l<=1
 | [],_=>bU _
 | y::l,h=>by
  obtain⟨h1,h2⟩:=dP.1 h;rw [sm_cons];by_cases hy:y=x
  ·subst hy;have:sm (one1 y) l=0:=zic λz hz=>if_neg λ(e:z=y)=>h1 (by rw [<-e]; exact hz);have e:one1 y y=1:=if_pos rfl;omega
  ·have e:one1 x y=0:=if_neg hy;have:=zGg (x:=x) h2;omega
theorem zVi {f:Int->Nat} {x:Int}:∀ {l:List Int},x∈l->sm f (l.erase x)+f x=sm f l
 | y::l,h=>by
  by_cases hy:y=x
  ·subst hy; rw [List.erase_cons_head,sm_cons]; omega
  ·rw [List.erase_cons_tail (by simpa using hy),sm_cons,sm_cons];have:=zVi (f:=f) (x:=x) (l:=l) ((aU.1 h).resolve_left λe=>hy e.symm);omega
theorem GM.next_gt {g:GM} {n m:Nat} (h1:1<=n):(g.next n).gt m↔g.gt m\/m=n:=by
 obtain⟨a1,a2,a3⟩:=zYd (g.done n) (65536 - g.mark) g.mark;have hd:∀ j,g.done n j=true↔(g.S j=true\/j=n):=λj=>by unfold GM.done; simp
 constructor
 ·rintro⟨b0,b1⟩;rcases b1 with b1 | b1
  ·have b1:m<=g.mark+g.up n:=b1;by_cases hm:m<=g.mark
   ·exact .inl ⟨b0,.inl hm⟩
   ·rcases (hd m).1 (a2 m O_ b1) with h | h
    ·exact .inl ⟨b0,.inr h⟩
    ·exact .inr h
  ·have b1:(g.done n m&&decide (g.mark+g.up n<m))=true:=b1;simp only [aD] at b1;rcases (hd m).1 b1.1 with h | h
   ·exact .inl ⟨b0,.inr h⟩
   ·exact .inr h
 ·intro h
  have h0:1<=m:=by rcases h with h | h; · exact h.1
                   ·omega
  refine⟨h0,?_⟩;by_cases hm:m<=g.mark+g.up n
  ·exact .inl hm
  ·right;show(g.done n m&&decide (g.mark+g.up n<m))=true;rw [decide_eq_true O_,Bool.and_true,hd];rcases h with ⟨_,h | h⟩ | h
   ·omega
   ·exact .inl h
   ·exact .inr h
theorem GM.next_gap {g:GM} {n:Nat} (hn:n<=65536) (hS:∀ j,g.S j=true->j<=65536) (hg:g.S (g.mark+1)=false):(g.next n).S ((g.next n).mark+1)=false:=by
 obtain⟨a1,a2,a3⟩:=zYd (g.done n) (65536 - g.mark) g.mark;show(g.done n (g.mark+g.up n+1)&&_)=false
 have hd:∀ j,65536<j->g.done n j=false:=λj hj=>by
  unfold GM.done;rw [decide_eq_false O_,Bool.or_false];cases h:g.S j with
  | false=>rfl
  | true=>have:=hS j h; omega
 by_cases hlt:runF (g.done n) g.mark (65536 - g.mark)<65536 - g.mark
 ·have:=a3 hlt;unfold GM.up;rw [this]; rfl
 ·rw [hd _ (by unfold GM.up; omega)]; rfl
section
variable {log:List Tx} {fed cap:Nat} {sh:ByteArray->Nat} {s:TS}
theorem zbg (h:TInv log fed cap sh s) (L:zId log) {x:Int} {r:List Int} (h1:s.gone=x::r) :
    ∃ n:Nat,x=(n:Int)/\1<=n/\n<=65536/\s.g.mark<n/\s.g.S n=false/\x∈s.opn/\∀ p∈s.W,p.1≠x:=by
 have ho:=h.opn (one1 x);rw [h1,sm_cons] at ho;have e1:one1 x x=1:=if_pos rfl
 have hm:x∈s.opn:=by
  obtain⟨y,hy,hne⟩:=zag (f:=one1 x) (l:=s.opn) O_;unfold one1 at hne;split at hne
  ·rename_i e; exact e ▸ hy
  ·exact absurd rfl hne
 obtain⟨n,hn⟩:=h.opnN x hm;subst hn;have h2:=(h.seen n).2 (.inr (.inl hm));have h3:=h.opnG n hm;have hle:n<=65536:=by have:=h.af; have:=h.fl; have:=L.len; omega
 refine⟨n,rfl,h2.1,hle,?_,?_,hm,λp hp e=> ?_⟩
 ·exact Nat.lt_of_not_le λhh=>h3 ⟨h2.1,.inl hh⟩
 ·cases hh:s.g.S n with
  | false=>rfl
  | true=>exact absurd ⟨h2.1,.inr hh⟩ h3
 ·have hpm:=h.wp p hp;rw [e] at hpm;obtain⟨t,ht,he⟩:=aQ.1 hpm;have a:=zCb (f:=λt:Tx=>one1 (n:Int) t.1) ht;have e2:one1 (n:Int) t.1=1:=if_pos he;have:=zGg (x:=(n:Int)) h.nod;simp only [e2] at a;omega
def frT (s:TS) (n:Nat) (t:Tx):Bool:=s.W.all λp=>decide (p.1=t.1->p.2=(n:Int))
def gtS (n:Nat) (r:List Int) (F:List Tx) (s:TS):TS :=
 { s with gone:=r,opn:=s.opn.erase n,W:=s.W.filter (λp=>decide (p.2≠(n:Int))),pend:=s.pend.filter (λt=> !frT s n t),line:=s.line++F,g:=s.g.next n }
theorem zGl (L:zId log) (h:TInv log fed cap sh s) {n:Nat} {r:List Int} {F:List Tx} (h1:s.gone=(n:Int)::r) (hF:F.Perm (s.pend.filter (frT s n))) :
    TInv log fed cap sh (gtS n r F s)/\phi log fed (gtS n r F s)+1=phi log fed s:=by
 obtain⟨n',hn',n1,n2,n3,n4,hm,hW⟩:=zbg h L h1;have e:n=n':=O_;subst e;have hgt:∀ m,(s.g.next n).gt m↔s.g.gt m\/m=n:=λm=>GM.next_gt n1;have hme:∀ y:Int,y∈s.opn.erase (n:Int)↔y≠(n:Int)/\y∈s.opn:=λy=>h.nod.mem_erase_iff
 have hpf:∀ f:Tx->Nat,sm f (s.pend.filter λt=> !frT s n t)+sm f F=sm f s.pend:=λf=>by
  rw [zIm hF]; have:=zph (f:=f) (frT s n) s.pend; omega
 have hnot:∀ t,frT s n t=false->∃ p∈s.W,p.1=t.1/\p.2≠(n:Int):=λt ht=>by
  unfold frT at ht;rw [List.all_eq_false] at ht;obtain⟨p,hp,hh⟩:=ht;have hh:¬ (p.1=t.1->p.2=(n:Int)):=by simpa using hh
  exact⟨p,hp,Classical.not_imp.1 hh⟩
 refine⟨{ af:=h.af,fl:=h.fl,held:=h.held,txs:=λx hx=>h.txs x ?_,all:=λf=> ?_,lane:=h.lane,lnum:=h.lnum,opn:=λf=> ?_,nod:=h.nod.erase _,seen:=λm=> ?_,heldN:=λt ht=> ?_,opnG:=λm hmm=> ?_,opnN:=λx hx=>h.opnN x ((hme x).1 hx).2,gap:=GM.next_gap n2 h.gS h.gap,gS:=λj hj=> ?_,wnod:=h.wnod.filter _,wlt:=λp hp=> ?_,pw:=λt ht=> ?_,wp:=λp hp=> ?_,qcap:=h.qcap,qsh:=h.qsh,ish:=h.ish,qi:=h.qi },?_⟩
 ·rcases aG.1 hx with hx | hx
  ·exact bB _ (bR.1 hx).1
  ·rcases aG.1 hx with hx | hx
   ·exact aH _ hx
   ·exact bB _ (bR.1 (hF.mem_iff.1 hx)).1
 ·have:=h.all f;have hp:=hpf λt=>sm f (prs t);unfold rest at this ⊢;show sm _ (zqb log fed s)+sm _ s.held.toList+sm _ (s.pend.filter λt=> !frT s n t)+sm _ (s.line++F)+sm _ s.lanes+sm _ s.qs+sm _ s.inst=_;rw [sm_app];omega
 ·have:=h.opn f;have hp:=hpf λt=>f t.1;have he:=zVi (f:=f) hm;rw [h1,sm_cons] at this;show sm f (s.opn.erase n)=sm _ (s.pend.filter λt=> !frT s n t)+sm _ (s.line++F)+sm _ s.lanes+sm f r;rw [sm_app];omega
 ·show(1<=m/\m<=s.at_)↔((∃ t,s.held=some t/\m=s.at_)\/((m:Int)∈s.opn.erase (n:Int))\/(s.g.next n).gt m);rw [h.seen m,hme,hgt];constructor
  ·rintro(hx | hx | hx)
   ·exact .inl hx
   ·by_cases e:m=n
    ·exact .inr (.inr (.inr e))
    ·exact .inr (.inl ⟨λe'=>e O_,hx⟩)
   ·exact .inr (.inr (.inl hx))
  ·rintro(hx | hx | hx | hx)
   ·exact .inl hx
   ·exact .inr (.inl hx.2)
   ·exact .inr (.inr hx)
   ·subst hx; exact .inr (.inl hm)
 ·obtain⟨a,b⟩:=h.heldN t ht;refine⟨λhx=>a ((hme _).1 hx).2,λhx=> ?_⟩;rcases (hgt _).1 hx with hx | hx
  ·exact b hx
  ·have:(s.at_:Int)=(n:Int):=by have hx:s.at_=n:=hx; omega
   exact a (this ▸ hm)
 ·intro hx;obtain⟨a,b⟩:=(hme _).1 hmm;rcases (hgt _).1 hx with hx | hx
  ·exact h.opnG m b hx
  ·exact a O_
 ·have hj:(s.g.done n j&&decide (s.g.mark+s.g.up n<j))=true:=hj;simp only [aD] at hj;have:s.g.S j=true\/j=n:=by have:=hj.1; unfold GM.done at this; simpa using this
  rcases this with hx | hx
  ·exact h.gS j hx
  ·omega
 ·obtain⟨a,b⟩:=bR.1 hp;have b:p.2≠(n:Int):=by simpa using b
  obtain⟨c1,c2,c3⟩:=h.wlt p a;exact⟨c1,(hme _).2 ⟨hW p a,c2⟩,(hme _).2 ⟨b,c3⟩⟩
 ·obtain⟨a,b⟩:=bR.1 ht;obtain⟨p,hp,e1,e2⟩:=hnot t (by simpa using b);exact⟨p.2,bR.2 ⟨by rw [<-e1]; exact hp,by simpa using e2⟩⟩
 ·obtain⟨a,b⟩:=bR.1 hp;have b:p.2≠(n:Int):=by simpa using b
  obtain⟨t,ht,he⟩:=aQ.1 (h.wp p a);refine aQ.2 ⟨t,bR.2 ⟨ht,?_⟩,he⟩
  have:frT s n t=false:=by
   unfold frT;rw [List.all_eq_false];exact⟨p,a,λhh=>b (dT hh he.symm)⟩
  rw [this]; rfl
 ·have hp:=hpf λt=>3+2*cw t;unfold phi;rw [h1,aV];show sm _ (zqb log fed s)+sm _ s.held.toList+sm _ (s.pend.filter λt=> !frT s n t)+sm _ (s.line++F)+sm _ s.lanes+r.length+1=_;rw [sm_app];omega
def s0 (nl ns tp:Nat):TS:=⟨0,none,[],[],[],[],List.replicate nl none,List.replicate ns [],List.replicate ns [],[],⟨0,tp,λ_=>false⟩⟩
theorem zof {α:Type} {f:α->Nat} {x:α} (h:f x=0):∀ n,sm f (List.replicate n x)=0
 | 0=>rfl
 | n+1=>by rw [dH,sm_cons,h,zof h n]
theorem zqh (L:zId log) (hf:fed<=log.length) (nl ns tp:Nat):TInv log fed cap sh (s0 nl ns tp)/\phi log fed (s0 nl ns tp)=sm (λt=>5+2*cw t) (log.take fed):=by
 have hrq:∀ q∈(s0 nl ns tp).qs,q=[]:=λq hq=>bQ hq;have hri:∀ q∈(s0 nl ns tp).inst,q=[]:=λq hq=>bQ hq;have hun:zqb log fed (s0 nl ns tp)=log.take fed:=rfl
 have hgt:∀ n,¬ (s0 nl ns tp).g.gt n:=λn ⟨a,b⟩=>by
  rcases b with b | b
  ·have b:n<=0:=b; omega
  ·cases b
 refine⟨{ af:=bU _,fl:=hf,held:=λt h=>(by cases h),txs:=λx hx=>(by cases hx),all:=λf=> ?_,lane:=λi o ho=> ?_,lnum:=λq hq x hx=> ?_,opn:=λf=> ?_,nod:=cX,seen:=λn=> ?_,heldN:=λt h=>(by cases h),opnG:=λn hn=>(by cases hn),opnN:=λx hx=>(by cases hx),gap:=rfl,gS:=λj hj=>(by cases hj),wnod:=cX,wlt:=λp hp=>(by cases hp),pw:=λt ht=>(by cases ht),wp:=λp hp=>(by cases hp),qcap:=λq hq=> ?_,qsh:=λi q hq x hx=> ?_,ish:=λi l hl x hx=> ?_,qi:= ?_ },?_⟩
 ·unfold rest;rw [hun];have a1:=zof (f:=λo=>sm f (prL o)) (x:=none) rfl nl;have a2:=zof (f:=λq:List (Nat×IW)=>sm (λx=>f x.2) q) (x:=[]) rfl ns;have a3:=zof (f:=λl:List IW=>sm f l) (x:=[]) rfl ns;show zFg log fed f+0+0+0+sm _ (List.replicate nl none)+sm _ (List.replicate ns [])+sm _ (List.replicate ns [])=_;omega
 ·have:o=none:=bQ (mG ho);subst this;show cnt i (List.replicate ns [])=0;exact zof (f:=λq=>sm (λx:Nat×IW=>if x.1=i then 1 else 0) q) (x:=[]) rfl ns
 ·rw [hrq q hq] at hx; cases hx
 ·have a1:=zof (f:=zod f) (x:=none) rfl nl;show 0=0+0+sm _ (List.replicate nl none)+0;omega
 ·constructor
  ·rintro⟨a,b⟩;have b:n<=0:=b;omega
  ·rintro(⟨t,ht,_⟩ | hx | hx)
   ·cases ht
   ·cases hx
   ·exact absurd hx (hgt n)
 ·rw [hrq q hq]; exact bU _
 ·rw [hrq q (mG hq)] at hx; cases hx
 ·rw [hri l (mG hl)] at hx; cases hx
 ·show(List.replicate ns []).length=(List.replicate ns []).length;rw [bN,bN]
 ·unfold phi;rw [hun];show _+0+0+0+sm ph (List.replicate nl none)+0=_;have a1:=zof (f:=ph) (x:=none) rfl nl;omega
theorem z8l (L:zId log) (n:Nat):sm (λt=>5+2*cw t) (log.take n)<=69*log.length:=by
 have h1:sm (λt=>5+2*cw t) (log.take n)<=sm (λ_=>69) (log.take n):=zAl λt ht=>by
  have:=L.ok t (cT ht);have h2:=zCg t.2 t.2.length;have h3:=this.2.2.1;have:cw t<=32:=by show(cntP t.2 t.2.length).length<=32; omega
  omega
 have h2:∀ l:List Tx,sm (λ_=>69) l=69*l.length:=λl=>by
  induction l with
  | nil=>rfl
  | cons x l ih=>rw [sm_cons,ih,aV]; omega
 rw [h2,aZ] at h1;omega
structure zpp (fed cap:Nat) (win:Int) (sh:ByteArray->Nat) (s:TS):Prop where
 read:s.held=none->fed<=s.at_
 disp:∀ t,s.held=some t->¬ t.1 - win<=(s.g.mark:Int)
 take:∀ i:Nat,s.lanes[i]? =some none->s.line=[]
 send:∀(i:Nat) (n:Int) (x:Wr) (r:List Wr) (o:Nat),s.lanes[i]? =some (some ⟨n,x::r,o⟩)->∀ q,s.qs[sh x.Key]? =some q->cap<=q.length
 done:∀(i:Nat) (n:Int),s.lanes[i]?≠some (some ⟨n,[],0⟩)
 serve:∀ q∈s.qs,q=[]
 gate:s.gone=[]
theorem zmk (L:zId log) (h:TInv log fed cap sh s) {win:Int} (hw:1<=win) (hc:1<=cap) (hl:1<=s.lanes.length) (hsh:∀ k,sh k<s.qs.length) (w:zpp fed cap win sh s) :
    phi log fed s=0/\s.g.mark=fed/\∀ f,sm (λl=>sm f l) s.inst=zFg log fed f:=by
 have hcnt:∀ i,cnt i s.qs=0:=λi=>zic λq hq=>by rw [w.serve q hq]; rfl
 have hlane:∀(i:Nat) o,s.lanes[i]? =some o->o=none:=λi o ho=>by
  cases o with
  | none=>rfl
  | some lj =>
   obtain⟨n,left,out⟩:=lj;obtain⟨a,_⟩:out=cnt i s.qs/\_:=h.lane i _ ho;rw [hcnt] at a;subst a;cases left with
   | nil=>exact absurd ho (w.done i n)
   | cons x r =>
    have hq:=aA (hsh x.Key);have:=w.send i n x r 0 ho _ hq;rw [w.serve _ (fZ (hsh x.Key))] at this;have this:cap<=0:=this;omega
 have hla:∀ o∈s.lanes,o=none:=λo ho=>by
  obtain⟨i,hi⟩:=bG.1 ho;exact hlane i o hi
 have hline:s.line=[]:=by
  have h0:=aA (l:=s.lanes) (i:=0) O_;have:=hlane 0 _ h0;rw [this] at h0;exact w.take 0 h0
 have hopn:∀ f:Int->Nat,sm f s.opn=sm (λt=>f t.1) s.pend:=λf=>by
  have:=h.opn f;rw [hline,w.gate,zic (l:=s.lanes) (λo ho=>by rw [hla o ho]; rfl),sm_nil,sm_nil] at this;omega
 have hpend:s.pend=[]:=by
  refine bX λhne=> ?_
  have hopen:s.opn≠[]:=λe=>by
   obtain⟨t,ht⟩:=cW _ hne;have:=hopn λ_=>1;rw [e,sm_nil] at this;have h2:=zCb (f:=λ_:Tx=>1) ht;omega
  have least:∀(k:Nat),∀ x∈s.opn,x<=(k:Int)->False:=λk=>by
   induction k using Nat.strongRecOn with
   | _ k ih =>
    intro x hx hk;obtain⟨n,rfl⟩:=h.opnN x hx;have:=hopn (one1 (n:Int));have hx1:=zCb (f:=one1 (n:Int)) hx;have e1:one1 (n:Int) (n:Int)=1:=if_pos rfl;obtain⟨t,ht,hne'⟩:=zag (f:=λt:Tx=>one1 (n:Int) t.1) (l:=s.pend) O_
    have htn:t.1=(n:Int):=by
     unfold one1 at hne';split at hne'
     ·assumption
     ·exact absurd rfl hne'
    obtain⟨u,hu⟩:=h.pw t ht;obtain⟨c1,_,c3⟩:=h.wlt _ hu;have c1:u<t.1:=c1;have c3:u∈s.opn:=c3;obtain⟨m,rfl⟩:=h.opnN u c3;have hmk:m<k:=O_;exact ih m hmk (m:Int) c3 (eO _)
  obtain⟨x,hx⟩:=cW _ hopen;obtain⟨n,rfl⟩:=h.opnN x hx;exact least n _ hx (eO _)
 have hopn0:s.opn=[]:=by
  refine bX λhne=> ?_;obtain⟨x,hx⟩:=cW _ hne;have:=hopn λ_=>1;rw [hpend,sm_nil] at this;have h2:=zCb (f:=λ_:Int=>1) hx;omega
 have hmark:∀ b:Nat,(∀ n:Nat,1<=n->n<=b->s.g.gt n)->b<=s.g.mark:=λb hb=>by
  refine bX λhlt=> ?_;obtain⟨_,h2⟩:=hb (s.g.mark+1) O_ O_;rcases h2 with h2 | h2
  ·omega
  ·rw [h.gap] at h2; cases h2
 have hheld:s.held=none:=by
  cases hh:s.held with
  | none=>rfl
  | some t =>
   obtain⟨a,b⟩:=h.held t hh;have htn:=L.num _ _ b
   have hb:=hmark (s.at_ - 1) λn h1 h2=>by
    rcases (h.seen n).1 ⟨h1,O_⟩ with ⟨_,_,hx⟩ | hx | hx
    ·omega
    ·rw [hopn0] at hx; cases hx
    ·exact hx
   exact absurd O_ (w.disp t hh)
 have hat:s.at_=fed:=by have:=w.read hheld; have:=h.af; omega
 have hgt:∀ n:Nat,(1<=n/\n<=fed)↔s.g.gt n:=λn=>by
  rw [<-hat,h.seen n,hheld,hopn0];simp
 have hun:zqb log fed s=[]:=by
  unfold zqb;exact cL (by rw [aZ,hat]; omega)
 refine⟨?_,?_,λf=> ?_⟩
 ·unfold phi;rw [hun,hheld,hpend,hline,w.gate,zic (l:=s.lanes) (λo ho=>by rw [hla o ho]; rfl)];rfl
 ·have h1:=hmark fed λn a b=>(hgt n).1 ⟨a,b⟩;by_cases h0:s.g.mark=0
  ·omega
  ·have:=((hgt s.g.mark).2 ⟨O_,.inl (bC _)⟩).2;omega
 ·have:=h.all f;unfold rest at this;rw [hun,hheld,hpend,hline,zic (l:=s.lanes) (λo ho=>by rw [hla o ho]; rfl),zic (l:=s.qs) (λq hq=>by rw [w.serve q hq]; rfl)] at this;simp only [eS,sm_nil,dE] at this;exact this
end
structure MOk (IsK:Value->Prop) (es:Array MapEntry) (c:Nat):Prop where
 all:zH IsK es
 nodup:(es.toList.map (·.key)).Nodup
 bnodup:(es.toList.map (·.born)).Nodup
 lt:∀ e∈es.toList,e.born<c
namespace MOk
variable {IsK:Value->Prop} {es es2:Array MapEntry} {c c2:Nat} {k v:Value}
theorem empty:MOk IsK #[] 0:=⟨λe h=>(by cases h),cX,cX,λe h=>(by cases h)⟩
theorem znk {k:Value}:zQ es k=none↔∀ e∈es.toList,e.key≠k:=by
 unfold zQ;rw [Option.map_eq_none_iff,List.find?_eq_none];simp
theorem mem_lk (h:MOk IsK es c) {e:MapEntry} (he:e∈es.toList):zQ es e.key=some e.val:=by
 classical
 unfold zQ;obtain⟨j,hj⟩:=bG.1 he
 rw [zte (j:=j) hj (by simp) λi x hi hx=>by
  refine decide_eq_false λhk=> ?_;have a1:(es.toList.map (·.key))[i]? =some e.key:=by rw [aF,hx]; exact congrArg some hk
  have a2:(es.toList.map (·.key))[j]? =some e.key:=by rw [aF,hj]; rfl
  have:=(dG (gSo a1).1 h.nodup).1 (a1.trans a2.symm);omega]
 rfl
theorem lk_mem {u:Value} (h:zQ es k=some u):∃ e∈es.toList,e.key=k/\e.val=u:=by
 unfold zQ at h;obtain⟨e,he,hv⟩:=Option.map_eq_some_iff.1 h;have:=List.find?_some he;exact⟨e,List.mem_of_find?_eq_some he,by simpa using this,hv⟩
theorem lk_iff (h:MOk IsK es c) {u:Value}:zQ es k=some u↔∃ e∈es.toList,e.key=k/\e.val=u :=
 ⟨lk_mem,λ⟨e,he,h1,h2⟩=>by rw [<-h1,<-h2]; exact h.mem_lk he⟩
theorem lkIs {z:Value} (es:Array MapEntry) (k:Value):LkIs es k z ((zQ es k).getD z) (zQ es k).isSome:=by
 unfold LkIs;cases h:zQ es k with
 | none=>exact .inl ⟨rfl,rfl,rfl⟩
 | some u=>exact .inr ⟨rfl,rfl⟩
theorem lkIs' {z u:Value} {b:Bool} (h:(zQ es k).getD z=u) (hb:(zQ es k).isSome=b):LkIs es k z u b:=by subst h; subst hb; exact lkIs es k
theorem ext_lk (h:MOk IsK es c) {es':Array MapEntry} {c':Nat} (h':MOk IsK es' c') {k':Value} (he:∀ u,(∃ e∈es.toList,e.key=k/\e.val=u)↔∃ e∈es'.toList,e.key=k'/\e.val=u):zQ es k=zQ es' k':=by
 refine Option.ext λu=> ?_;rw [h.lk_iff,h'.lk_iff];exact he u
theorem set (h:MOk IsK es c) (hk:IsK k) (hs:zee es c k v es2 c2):MOk IsK es2 c2/\zQ es2 k=some v/\∀ k',k'≠k->zQ es2 k'=zQ es k':=by
 rcases hs with ⟨h1,rfl,rfl⟩ | ⟨i,e,h1,h2,h3,rfl,rfl⟩
 ·have hl:(es.push ⟨k,v,c⟩).toList=es.toList++[⟨k,v,c⟩]:=by simp
  have ok:MOk IsK (es.push ⟨k,v,c⟩) (c+1):=by
   refine⟨λe he=> ?_,?_,?_,λe he=> ?_⟩
   ·rw [hl] at he;rcases aG.1 he with he | he
    ·exact h.all e he
    ·have:e=⟨k,v,c⟩:=by simpa using he
     rw [this]; exact hk
   ·rw [hl,aR,cJ];refine⟨h.nodup,by simp,λa ha b hb e=> ?_⟩;obtain⟨x,hx,rfl⟩:=aQ.1 ha;have:b=k:=by simpa using hb
    exact h1 x hx (e.trans this)
   ·rw [hl,aR,cJ];refine⟨h.bnodup,by simp,λa ha b hb e=> ?_⟩;obtain⟨x,hx,rfl⟩:=aQ.1 ha;have:b=c:=by simpa using hb
    have:=h.lt x hx;omega
   ·rw [hl] at he;rcases aG.1 he with he | he
    ·have:=h.lt e he; omega
    ·have:e=⟨k,v,c⟩:=by simpa using he
     rw [this]; exact Nat.lt_succ_self c
  refine⟨ok,ok.lk_iff.2 ⟨⟨k,v,c⟩,by rw [hl]; simp,rfl,rfl⟩,λk' hk'=>ok.ext_lk h λu=> ?_⟩;rw [hl];constructor
  ·rintro⟨e,he,h1,h2⟩;rcases aG.1 he with he | he
   ·exact⟨e,he,h1,h2⟩
   ·have:e=⟨k,v,c⟩:=by simpa using he
    subst this;exact absurd h1.symm hk'
  ·rintro⟨e,he,h1,h2⟩;exact⟨e,bB _ he,h1,h2⟩
 ·have hi:=(gSo h1).1
  have hl:(es.modify i λe=>{ e with key:=k,val:=v }).toList=es.toList.set i ⟨k,v,e.born⟩:=by
   rw [Array.toList_modify];refine eI λj=> ?_;rw [List.getElem?_modify];by_cases hij:i=j
   ·subst hij; rw [aL hi,h1]; simp
   ·rw [aT hij]; simp [hij]
  have hke:(es.toList.set i ⟨k,v,e.born⟩).map (·.key)=es.toList.map (·.key):=by
   rw [cV];refine eI λj=> ?_;by_cases hij:i=j
   ·subst hij; rw [aL (by simpa using hi),aF,h1]; exact congrArg some h2.symm
   ·rw [aT hij]
  have hbe:(es.toList.set i ⟨k,v,e.born⟩).map (·.born)=es.toList.map (·.born):=by
   rw [cV];refine eI λj=> ?_;by_cases hij:i=j
   ·subst hij; rw [aL (by simpa using hi),aF,h1]; rfl
   ·rw [aT hij]
  have hem:=mG h1
  have ok:MOk IsK (es.modify i λe=>{ e with key:=k,val:=v }) c2:=by
   refine⟨λx hx=> ?_,by rw [hl,hke]; exact h.nodup,by rw [hl,hbe]; exact h.bnodup,λx hx=> ?_⟩
   ·rw [hl] at hx;rcases cK hx with hx | rfl
    ·exact h.all x hx
    ·exact hk
   ·rw [hl] at hx;rcases cK hx with hx | rfl
    ·exact h.lt x hx
    ·exact h.lt e hem
  refine⟨ok,ok.lk_iff.2 ⟨⟨k,v,e.born⟩,by rw [hl]; exact List.mem_set hi _,rfl,rfl⟩,λk' hk'=>ok.ext_lk h λu=> ?_⟩;rw [hl];constructor
  ·rintro⟨x,hx,a,b⟩;rcases cK hx with hx | rfl
   ·exact⟨x,hx,a,b⟩
   ·exact absurd a.symm hk'
  ·rintro⟨x,hx,a,b⟩;obtain⟨j,hj⟩:=bG.1 hx;refine⟨x,bG.2 ⟨j,?_⟩,a,b⟩;rw [aT λhij=> ?_]
   ·exact hj
   ·subst hij;rw [h1] at hj;exact hk' (a.symm.trans (by rw [<-aE hj]; exact h2))
theorem del (h:MOk IsK es c) (hs:zRh es k es2):MOk IsK es2 c/\zQ es2 k=none/\(∀ k',k'≠k->zQ es2 k'=zQ es k')/\es2.toList.Sublist es.toList/\∀ e∈es.toList,e.key≠k->e∈es2.toList:=by
 rcases hs with ⟨h1,rfl⟩ | ⟨i,e,h1,h2,rfl⟩
 ·exact⟨h,znk.2 h1,λ_ _=>rfl,gU _,λe he _=>he⟩
 ·have hi:=(gSo h1).1;have hl:(es.eraseIdxIfInBounds i).toList=es.toList.eraseIdx i:=by simp
  have hsub:(es.eraseIdxIfInBounds i).toList.Sublist es.toList:=by rw [hl]; exact List.eraseIdx_sublist ..
  have ok:MOk IsK (es.eraseIdxIfInBounds i) c:=⟨λx hx=>h.all x (hsub.mem hx),(hsub.map _).nodup h.nodup,(hsub.map _).nodup h.bnodup,λx hx=>h.lt x (hsub.mem hx)⟩
  have hmem:∀ x∈es.toList,x.key≠k->x∈(es.eraseIdxIfInBounds i).toList:=λx hx hne=>by
   obtain⟨j,hj⟩:=bG.1 hx;rw [hl];refine gA.2 ⟨j,λhij=> ?_,hj⟩;subst hij;rw [h1] at hj;exact hne (by rw [<-aE hj]; exact h2)
  have hnk:∀ x∈(es.eraseIdxIfInBounds i).toList,x.key≠k:=λx hx hk=>by
   rw [hl] at hx;obtain⟨j,hij,hj⟩:=gA.1 hx;have a1:(es.toList.map (·.key))[j]? =some k:=by rw [aF,hj]; exact congrArg some hk
   have a2:(es.toList.map (·.key))[i]? =some k:=by rw [aF,h1]; exact congrArg some h2
   have:=(dG (gSo a1).1 h.nodup).1 (a1.trans a2.symm);exact hij this
  refine⟨ok,znk.2 hnk,λk' hk'=>ok.ext_lk h λu=> ?_,hsub,hmem⟩;constructor
  ·rintro⟨x,hx,a,b⟩; exact⟨x,hsub.mem hx,a,b⟩
  ·rintro⟨x,hx,a,b⟩; exact⟨x,hmem x hx λe=>hk' (a.symm.trans e),a,b⟩
end MOk
namespace St
variable {W:World} {w w':World} {l:List zb} {mp mp':List (Nat×Obj)}
theorem mperm (h:St ⟨W,mp⟩ l w) (p:mp.Perm mp'):St ⟨W,mp'⟩ l w :=
 ⟨h.ext,h.blk,h.own,h.nodup,⟨λq hq=>h.mps.at_ q (p.mem_iff.2 hq),λq hq=>h.mps.solid q (p.mem_iff.2 hq),λq hq=>h.mps.own q (p.mem_iff.2 hq),(p.map _).nodup_iff.1 h.mps.nodup⟩⟩
theorem zWi {es:Array MapEntry} {c:Nat}:zsl (.map es c):=λ_ _ _ h=>by cases h
theorem mset {a b:List (Nat×Obj)} {r c c2:Nat} {es es2:Array MapEntry} (h:St ⟨W,a++(r,.map es c)::b⟩ l w) (hw:w'={ w with heap:=w.heap.setIfInBounds r (.map es2 c2) }):St ⟨W,a++(r,.map es2 c2)::b⟩ l w' :=
 h.turn hw zWi
theorem mset0 {b:List (Nat×Obj)} {r c c2:Nat} {es es2:Array MapEntry} (h:St ⟨W,(r,.map es c)::b⟩ l w) (hw:w'={ w with heap:=w.heap.setIfInBounds r (.map es2 c2) }):St ⟨W,(r,.map es2 c2)::b⟩ l w':=h.mset (a:=[]) hw
theorem mnew {r c:Nat} {es:Array MapEntry} (h:St ⟨W,mp⟩ l w) (hb:r=w.heap.size) (hw:w'=w.alloc (.map es c)):St ⟨W,(r,.map es c)::mp⟩ l w':=h.newObj hb hw zWi
end St
end Go.Proofs.YtofjmclceflgiaaGreat
