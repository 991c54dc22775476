/- What a reader takes: a fault, or what was written. -/
import Derived.Test.YtjlfdepkphibgaaGreatDoorLib
import Derived.Test.YtjlfdepkphibgaaGreatDoorGslices
import Derived.Test.YtjlfdepkphibgaaGreatDoorGtowpathlaw01
import Derived.Test.YtjlfdepkphibgaaGreatDoorGdisk
import Derived.Test.YtjlfdepkphibgaaGreatDoorGtowpathref04
import Derived.Test.YtjlfdepkphibgaaGreatDoorGsum
import Derived.Test.YtjlfdepkphibgaaGreatDoorGcodec
import Derived.Test.YtjlfdepkphibgaaGreatDoorGslots
import Derived.Test.YtjlfdepkphibgaaGreatDoorGF
import Derived.Test.YtjlfdepkphibgaaGreatDoorGchain
import Derived.Lib.Bytealg
import Derived.Test.YtjlfdepkphibgaaGreatDoorGshard
import Derived.Test.YtjlfdepkphibgaaGreatDoorGcmp
import Derived.Test.YtjlfdepkphibgaaGreatDoorGdump
namespace Go.Proofs.YtjlfdepkphibgaaGreatDoor
open Go
set_option linter.unusedVariables false
set_option linter.unusedSimpArgs false

abbrev zf:=Nat×List Value
/-- The world that one began with, and what was made since that is no row of cells. -/
structure Base where
 w:World
 mp:List (Nat×Obj)
def zZl (o:Obj):Prop:=∀ c t f,o≠ .cells c t f
structure MpOk (w0:Base) (w:World):Prop where
 at_:∀ q∈w0.mp,w.heap[q.1]? =some q.2
 solid:∀ q∈w0.mp,zZl q.2
 own:∀ q∈w0.mp,w0.w.heap.size≤q.1
 nodup:(w0.mp.map (·.1)).Nodup
theorem z0l {w w':World} {r:Nat} {o:Obj} (e:Ext w w') (h:w.heap[r]? =some o):w'.heap[r]? =some o :=
 (e.block r (Array.getElem?_eq_some_iff.1 h).1).trans h
theorem MpOk.keep {w0:Base} {w w':World} (h:MpOk w0 w) (e:Ext w w'):MpOk w0 w':=⟨fun q hq=>z0l e (h.at_ q hq),h.solid,h.own,h.nodup⟩
theorem zye {b k:Nat} (hne:k≠b):∀(vs:List Value) (o:Nat) (w:World),(World.puts b o vs w).heap[k]? =w.heap[k]?
 | [],_,_=>rfl
 | v::vs,o,w=>by
  show(World.puts b (o+1) vs (w.setCell ⟨b,o,none⟩ v)).heap[k]? =_
  rw [zye hne vs (o+1)]
  exact RowKit.Below.heap_setCell w ⟨b,o,none⟩ v k hne
/-- Since w0 nothing old has turned; these blocks are new since then, apart from one another, and hold these cells. -/
structure St (w0:Base) (l:List zf) (w:World):Prop where
 ext:Ext w0.w w
 blk:∀ p∈l,Blk w p.1 p.2
 own:∀ p∈l,w0.w.heap.size≤p.1
 nodup:(l.map (·.1)).Nodup
 mps:MpOk w0 w
namespace St
variable {w0:Base} {w w':World} {l:List zf}
theorem start (w:World):St ⟨w,[]⟩ [] w:=⟨Ext.refl _,fun p hp=>(by cases hp),fun p hp=>(by cases hp),List.nodup_nil,⟨fun q hq=>(by cases hq),fun q hq=>(by cases hq),fun q hq=>(by cases hq),List.nodup_nil⟩⟩
theorem keep (h:St w0 l w) (e:Ext w w'):St w0 l w':=⟨h.ext.trans e,fun p hp=>(h.blk p hp).ext e,h.own,h.nodup,h.mps.keep e⟩
theorem drew (h:St w0 l w) (e:∃ k,w'=w.drewN k):St w0 l w':=h.keep (Qt.ext e)
theorem alloc {b:Nat} {cs:List Value} {T:TypeId} (h:St w0 l w) (hb:b=w.heap.size) (hw:w'=w.alloc (Obj.cells cs.toArray T (0,0))):St w0 ((b,cs)::l) w':=by
 have e:Ext w w':=Ext.new hw
 refine⟨h.ext.trans e,fun p hp=> ?_,fun p hp=> ?_,?_,h.mps.keep e⟩
 ·rcases List.mem_cons.1 hp with rfl | hp
  ·exact Blk.new hb hw
  ·exact(h.blk p hp).ext e
 ·rcases List.mem_cons.1 hp with rfl | hp
  ·have:=h.ext.size; show w0.w.heap.size≤b; omega
  ·exact h.own p hp
 ·rw [List.map_cons,List.nodup_cons]
  refine⟨fun hm=> ?_,h.nodup⟩
  obtain⟨p,hp,he⟩:=List.mem_map.1 hm
  have:=(h.blk p hp).lt
  simp only at he
  omega
theorem perm {l':List zf} (h:St w0 l w) (p:l.Perm l'):St w0 l' w :=
 ⟨h.ext,fun q hq=>h.blk q (p.mem_iff.2 hq),fun q hq=>h.own q (p.mem_iff.2 hq),(p.map _).nodup_iff.1 h.nodup,h.mps⟩
theorem sub {l':List zf} (h:St w0 l w) (p:l'.Sublist l):St w0 l' w :=
 ⟨h.ext,fun q hq=>h.blk q (p.mem hq),fun q hq=>h.own q (p.mem hq),(p.map _).nodup h.nodup,h.mps⟩
theorem drop {a:List zf} (h:St w0 (a++l) w):St w0 l w:=h.sub (List.sublist_append_right _ _)
theorem drop1 {c:zf} (h:St w0 (c::l) w):St w0 l w:=h.sub (List.sublist_cons_self _ _)
theorem swap {a b:List zf} (h:St w0 (a++(b++l)) w):St w0 (b++(a++l)) w:=h.perm (List.perm_append_comm_assoc _ _ _)
theorem mid {a b:List zf} {c:zf} (h:St w0 (c::(a++b)) w):St w0 (a++(c::b)) w:=h.perm List.perm_middle.symm
theorem unmid {a b:List zf} {c:zf} (h:St w0 (a++(c::b)) w):St w0 (c::(a++b)) w:=h.perm List.perm_middle
theorem get {b:Nat} {cs:List Value} (h:St w0 l w) (i:Nat) (hi:l[i]? =some (b,cs)):Blk w b cs:=h.blk (b,cs) (List.mem_of_getElem? hi)
theorem cell {b:Nat} {cs:List Value} {o:Nat} {v:Value} (h:St w0 l w) (i:Nat) (hi:l[i]? =some (b,cs)) (hv:cs[o]? =some v):w.cell? ⟨b,o,none⟩=some v:=(h.get i hi).cell hv
theorem put {b o:Nat} {cs vs:List Value} (h:St w0 l w) (i:Nat) (hi:l[i]? =some (b,cs)) (hw:w'=World.puts b o vs w):St w0 (l.set i (b,putL o vs cs)) w':=by
 subst hw
 have hm:=List.mem_of_getElem? hi
 have hil:=(List.getElem?_eq_some_iff.1 hi).1
 have hb:w0.w.heap.size≤b:=h.own _ hm
 have hmap:(l.set i (b,putL o vs cs)).map (·.1)=l.map (·.1):=by
  rw [List.map_set]
  refine List.ext_getElem? fun j=> ?_
  by_cases hj:i=j
  ·subst hj
   rw [List.getElem?_set_self (by simpa using hil),List.getElem?_map,hi]; rfl
  ·rw [List.getElem?_set_ne hj]
 have hnm:∀ q∈w0.mp,q.1≠b:=fun q hq e=>by
  obtain⟨T,lo,hi',hb',_⟩:=h.blk _ hm
  have hr:=h.mps.at_ q hq
  rw [e] at hr
  rw [hr] at hb'
  exact h.mps.solid q hq _ _ _ (Option.some.inj hb')
 refine⟨zLc _ h.ext hb,fun p hp=> ?_,fun p hp=> ?_,by rw [hmap]; exact h.nodup,⟨fun q hq=>(zye (hnm q hq) _ _ _).trans (h.mps.at_ q hq),h.mps.solid,h.mps.own,h.mps.nodup⟩⟩
 ·obtain⟨j,hj⟩:=List.mem_iff_getElem?.1 hp
  by_cases hij:i=j
  ·subst hij
   rw [List.getElem?_set_self hil] at hj
   obtain rfl:=Option.some.inj hj
   exact(h.blk _ hm).puts vs
  ·rw [List.getElem?_set_ne hij] at hj
   refine(h.blk p (List.mem_of_getElem? hj)).puts_ne fun e=> ?_
   refine hij ((List.getElem?_inj (by simpa using hil) h.nodup).1 ?_)
   rw [List.getElem?_map,List.getElem?_map,hi,hj]
   exact congrArg some e.symm
 ·obtain⟨j,hj⟩:=List.mem_iff_getElem?.1 hp
  by_cases hij:i=j
  ·subst hij
   rw [List.getElem?_set_self hil] at hj
   obtain rfl:=Option.some.inj hj
   exact hb
  ·rw [List.getElem?_set_ne hij] at hj
   exact h.own p (List.mem_of_getElem? hj)
/-- The first block is written. -/
theorem put0 {b o:Nat} {cs vs:List Value} (h:St w0 ((b,cs)::l) w) (hw:w'=World.puts b o vs w):St w0 ((b,putL o vs cs)::l) w':=h.put 0 rfl hw
theorem put1 {b o:Nat} {cs vs:List Value} {c0:zf} (h:St w0 (c0::(b,cs)::l) w) (hw:w'=World.puts b o vs w):St w0 (c0::(b,putL o vs cs)::l) w':=h.put 1 rfl hw
theorem writable {b o k:Nat} {cs:List Value} (h:St w0 l w) (i:Nat) (hi:l[i]? =some (b,cs)) (hk:o+k≤cs.length):zd w b o k:=(h.get i hi).writable hk
theorem below (h:St w0 l w):RowKit.Below w0.w.heap.size w0.w w:=h.ext
/-- A new block that is no row of cells. -/
theorem newObj {b:Nat} {o:Obj} (h:St w0 l w) (hb:b=w.heap.size) (hw:w'=w.alloc o) (ho:zZl o):St ⟨w0.w,(b,o)::w0.mp⟩ l w':=by
 have h':=h.keep (Ext.new hw)
 have hs:=h.ext.size
 refine⟨h'.ext,h'.blk,h'.own,h'.nodup,⟨fun q hq=> ?_,fun q hq=> ?_,fun q hq=> ?_,?_⟩⟩
 ·rcases List.mem_cons.1 hq with rfl | hq
  ·subst hb; subst hw
   show(w.heap.push o)[w.heap.size]? =some o
   rw [Array.getElem?_push_size]
  ·exact h'.mps.at_ q hq
 ·rcases List.mem_cons.1 hq with rfl | hq
  ·exact ho
  ·exact h'.mps.solid q hq
 ·rcases List.mem_cons.1 hq with rfl | hq
  ·show w0.w.heap.size≤b; omega
  ·exact h'.mps.own q hq
 ·show((b::w0.mp.map (·.1))).Nodup
  rw [List.nodup_cons]
  refine⟨fun hm=> ?_,h.mps.nodup⟩
  obtain⟨q,hq,he⟩:=List.mem_map.1 hm
  have:=(Array.getElem?_eq_some_iff.1 (h.mps.at_ q hq)).1
  omega
/-- A block that is no row of cells is turned. -/
theorem turn {a b:List (Nat×Obj)} {r:Nat} {o o':Obj} {W:World} (h:St ⟨W,a++(r,o)::b⟩ l w) (hw:w'=w.putObj r o') (ho:zZl o'):St ⟨W,a++(r,o')::b⟩ l w':=by
 have hm:(r,o)∈a++(r,o)::b:=List.mem_append_right _ (List.mem_cons_self ..)
 have hat:=h.mps.at_ _ hm
 have hlt:=(Array.getElem?_eq_some_iff.1 hat).1
 have hWr:W.heap.size≤r:=h.mps.own _ hm
 have hne:∀ k,k≠r→w'.heap[k]? =w.heap[k]? :=fun k hk=>by subst hw; exact World.putObj_heap_other hk
 have hsz:w'.heap.size=w.heap.size:=by subst hw; exact World.putObj_size
 have hx:=h.ext.size
 have hnod:((a++(r,o')::b).map (·.1))=((a++(r,o)::b).map (·.1)):=by rw [List.map_append,List.map_append]; rfl
 have hn2:=h.mps.nodup
 have hsplit:∀ q∈a++(r,o')::b,q=(r,o')∨(q∈a++(r,o)::b∧q.1≠r):=fun q hq=>by
  have hn3:((a++(r,o)::b).map (·.1)).Nodup:=hn2
  rw [List.map_append,List.map_cons,List.nodup_append,List.nodup_cons] at hn3
  rcases List.mem_append.1 hq with hq | hq
  ·refine .inr ⟨List.mem_append_left _ hq,fun e=> ?_⟩
   exact hn3.2.2 _ (List.mem_map.2 ⟨q,hq,rfl⟩) _ (List.mem_cons_self ..) e
  ·rcases List.mem_cons.1 hq with rfl | hq
   ·exact .inl rfl
   ·refine .inr ⟨List.mem_append_right _ (List.mem_cons_of_mem _ hq),fun e=> ?_⟩
    exact hn3.2.1.1 (List.mem_map.2 ⟨q,hq,e⟩)
 refine⟨RowKit.Below.trans h.ext ⟨by subst hw; rfl,by subst hw; rfl,by subst hw; rfl,O_,fun k hk=>hne k (fun e=>by
     have hk:k<W.heap.size:=hk
     omega)⟩,fun p hp=> ?_,h.own,h.nodup,⟨fun q hq=> ?_,fun q hq=> ?_,fun q hq=> ?_,by show((a++(r,o')::b).map (·.1)).Nodup; rw [hnod]; exact hn2⟩⟩
 ·obtain⟨T,lo,hi,hb,hf⟩:=h.blk p hp
  refine⟨T,lo,hi,(hne p.1 fun e=> ?_).trans hb,hf⟩
  rw [e,hat] at hb
  exact h.mps.solid _ hm _ _ _ (Option.some.inj hb)
 ·rcases hsplit q hq with rfl | ⟨hq,hqr⟩
  ·subst hw; exact World.putObj_heap_same hlt
  ·exact(hne q.1 hqr).trans (h.mps.at_ q hq)
 ·rcases hsplit q hq with rfl | ⟨hq,hqr⟩
  ·exact ho
  ·exact h.mps.solid q hq
 ·rcases hsplit q hq with rfl | ⟨hq,hqr⟩
  ·exact hWr
  ·exact h.mps.own q hq
theorem forget {a b:List (Nat×Obj)} {W:World} (h:St ⟨W,a++b⟩ l w):St ⟨W,b⟩ l w :=
 ⟨h.ext,h.blk,h.own,h.nodup,⟨fun q hq=>h.mps.at_ q (List.mem_append_right _ hq),fun q hq=>h.mps.solid q (List.mem_append_right _ hq),fun q hq=>h.mps.own q (List.mem_append_right _ hq),(by
  have h2:=h.mps.nodup
  have h3:((a++b).map (·.1)).Nodup:=h2
  rw [List.map_append,List.nodup_append] at h3
  exact h3.2.1)⟩⟩
theorem lt {b:Nat} {cs:List Value} (h:St w0 l w) (i:Nat) (hi:l[i]? =some (b,cs)):b<w.heap.size:=(h.get i hi).lt
end St
/-! ### Slices of one's own -/
def RowC (sz:Nat) (s:Slc) (xs:List Value) (bs:List zf):Prop :=
 (s.ptr=none∧s.len=0∧s.cap=0∧xs=[]∧bs=[]) ∨
 ∃ b pre rest suf,s.ptr=some ⟨b,pre.length,none⟩∧bs=[(b,pre++(xs++(rest++suf)))]∧xs.length=s.len*sz∧xs.length+rest.length=s.cap*sz∧s.len≤s.cap
namespace RowC
variable {sz:Nat} {s:Slc} {xs:List Value} {bs l:List zf} {w0:Base} {w:World}
theorem nil:RowC sz ⟨none,0,0⟩ [] []:= .inl ⟨rfl,rfl,rfl,rfl,rfl⟩
theorem new {b:Nat} {n:Nat} (h:xs.length=n*sz):RowC sz ⟨some ⟨b,0,none⟩,n,n⟩ xs [(b,xs)]:= .inr ⟨b,[],[],[],rfl,by simp,h,by simpa using h,Nat.le_refl _⟩
theorem len (h:RowC sz s xs bs):xs.length=s.len*sz:=by
 rcases h with ⟨_,h,_,rfl,_⟩ | ⟨_,_,_,_,_,_,h,_,_⟩
 ·simp [h]
 ·exact h
theorem cap_le (h:RowC sz s xs bs):s.len≤s.cap:=by
 rcases h with ⟨_,h,_,_,_⟩ | ⟨_,_,_,_,_,_,_,_,h⟩ <;> omega
theorem src (h:RowC sz s xs bs) (st:St w0 (bs++l) w):zh w s sz xs:=by
 rcases h with ⟨h1,h2,h3,rfl,_⟩ | ⟨b,pre,rest,suf,hp,rfl,h1,h2,h3⟩
 ·exact⟨by simp [h2],.inl rfl⟩
 ·refine⟨h1,.inr ?_⟩
  rw [hp]
  refine⟨rfl,(st.get 0 rfl).cells fun i v hi=> ?_⟩
  have hl:=(List.getElem?_eq_some_iff.1 hi).1
  show(pre++(xs++(rest++suf)))[pre.length+i]? =some v
  rw [List.getElem?_append_right O_,List.getElem?_append_left O_]
  rw [show pre.length+i - pre.length=i from by omega]
  exact hi
theorem append {by_ k:Nat} {e:TypeId} {zs src:List Value} {K:Slc→WP} (h:RowC sz s xs bs) (st:St w0 (bs++l) w)
    (hk:src.length=k*sz) (h1:zQ src=true) (hz:zs.length=sz) (hcap:(s.len+k)*by_≤140737488355328)
    (hK:∀ s' bs' w',RowC sz s' (xs++src) bs'→St w0 (bs'++l) w'→s'.len=s.len+k→K s' w'):zj sz by_ e zs s src k w K:=by
 refine⟨fun hc=> ?_,fun hc=>⟨growslice_fits hc hcap,xs,h.src st,fun cap b w' hcl _ hb hw=> ?_⟩⟩
 ·rcases h with ⟨hp,hl,hcz,rfl,rfl⟩ | ⟨b,pre,rest,suf,hp,rfl,hx,hr,hle⟩
  ·have hk0:k=0:=O_
   have hs:src=[]:=by
    have:src.length=0:=by rw [hk,hk0,Nat.zero_mul]
    exact List.eq_nil_of_length_eq_zero this
   subst hs
   exact .inl ⟨rfl,hK _ [] _ (.inl ⟨hp,by simp [hl,hk0],hcz,rfl,rfl⟩) st rfl⟩
  ·have hroom:src.length≤rest.length:=by
     have:(s.len+k)*sz≤s.cap*sz:=Nat.mul_le_mul_right _ hc
     rw [Nat.add_mul] at this
     omega
   have hlen:poff s.ptr+s.len*sz=(pre++xs).length:=by rw [hp]; show pre.length+s.len*sz=_; simp; omega
   have hpb:pblk s.ptr=b:=by rw [hp]; rfl
   refine .inr ⟨by rw [hp]; rfl,?_,h1,fun w' hw=> ?_⟩
   ·rw [hlen,hpb]
    exact st.writable 0 rfl (by simp; omega)
   ·rw [hlen,hpb] at hw
    have hn:=st.put0 hw
    have e1:pre++(xs++(rest++suf))=(pre++xs)++rest.take src.length++(rest.drop src.length++suf):=by
     conv=>lhs; rw [←List.take_append_drop src.length rest]
     simp only [List.append_assoc]
    rw [e1,zhb _ _ _ _ (by simp; omega)] at hn
    refine hK _ [(b,pre++((xs++src)++(rest.drop src.length++suf)))] _ (.inr ⟨b,pre,rest.drop src.length,suf,hp,rfl,?_,?_,hc⟩) ?_ rfl
    ·simp [hx,hk,Nat.add_mul]
    ·simp; omega
    ·have e2:pre++((xs++src)++(rest.drop src.length++suf))=(pre++xs)++src++(rest.drop src.length++suf):=by simp only [List.append_assoc]
     rw [e2]; exact hn
 ·have hE:Ext w w.drew:=Qt.ext ⟨1,rfl⟩
  have hbs:b=w.drew.heap.size:=hb
  have st':=(st.drop.keep hE).alloc hbs hw
  refine hK _ [(b,xs++src++(zJ (cap - (s.len+k)) zs).toList)] _ (.inr ⟨b,[],(zJ (cap - (s.len+k)) zs).toList,[],rfl,by simp,?_,?_,hcl⟩) st' rfl
  ·simp only [List.length_append,hk,h.len,Nat.add_mul]
  ·simp only [List.length_append,hk,h.len,zJ]
   simp only [List.length_flatten,List.map_replicate,hz,List.sum_replicate_nat]
   rw [←Nat.add_mul,←Nat.add_mul]
   congr 1
   show s.len+k+(cap - (s.len+k))=cap
   omega
/-- x[lo:hi:mx] of a slice of one's own. -/
theorem cut {lo hi mx:Int} (h:RowC sz s xs bs) (h0:0≤lo) (h1:lo≤hi) (h2:hi≤((s.len:Nat):Int)) (h3:hi≤mx) (h4:mx≤((s.cap:Nat):Int)) :
    RowC sz (Slc.cut sz s lo hi mx) ((xs.drop (lo.toNat*sz)).take ((hi.toNat - lo.toNat)*sz)) bs:=by
 rcases h with ⟨hp,hl,hcz,rfl,rfl⟩ | ⟨b,pre,rest,suf,hp,rfl,hx,hr,hle⟩
 ·refine .inl ⟨?_,?_,?_,by simp,rfl⟩
  ·unfold Slc.cut; rw [hp]; simp
  ·unfold Slc.cut; simp only; omega
  ·unfold Slc.cut; simp only; omega
 ·obtain⟨lo,rfl⟩:=toN h0
  obtain⟨hi,rfl⟩:=toN (show 0≤hi by omega)
  obtain⟨mx,rfl⟩:=toN (show 0≤mx by omega)
  simp only [Int.toNat_natCast] at *
  have hlo:lo*sz≤hi*sz:=Nat.mul_le_mul_right _ O_
  have hhi:hi*sz≤s.len*sz:=Nat.mul_le_mul_right _ O_
  have hmx:hi*sz≤mx*sz:=Nat.mul_le_mul_right _ O_
  have hcp:mx*sz≤s.cap*sz:=Nat.mul_le_mul_right _ O_
  have hsub:(hi - lo)*sz=hi*sz - lo*sz:=Nat.sub_mul _ _ _
  have hsub2:(mx - lo)*sz=mx*sz - lo*sz:=Nat.sub_mul _ _ _
  have hxl:((xs.drop (lo*sz)).take ((hi - lo)*sz)).length=(hi - lo)*sz:=by
   rw [List.length_take,List.length_drop,hsub]; omega
  by_cases hm:mx=lo
  ·subst hm
   have:hi=mx:=O_
   subst this
   refine .inr ⟨b,pre,[],xs++(rest++suf),?_,?_,?_,?_,?_⟩
   ·unfold Slc.cut; simp [hp]
   ·rw [Nat.sub_self,Nat.zero_mul,List.take_zero]; simp
   ·unfold Slc.cut; simp
   ·unfold Slc.cut; simp
   ·unfold Slc.cut; simp
  ·refine .inr ⟨b,pre++xs.take (lo*sz),((xs++rest).drop (hi*sz)).take ((mx - hi)*sz),(xs++rest).drop (mx*sz)++suf,?_,?_,?_,?_,?_⟩
   ·unfold Slc.cut
    simp only [Int.toNat_natCast]
    rw [if_neg hm,hp]
    simp only [Option.map_some,addr_add,List.length_append,List.length_take,Option.some.injEq,Addr.mk.injEq,true_and,and_true]
    omega
   ·congr 2
    have hsub3:(mx - hi)*sz=mx*sz - hi*sz:=Nat.sub_mul _ _ _
    have e1:xs++rest=xs.take (lo*sz)++((xs.drop (lo*sz)).take ((hi - lo)*sz)++(((xs++rest).drop (hi*sz)).take ((mx - hi)*sz)++(xs++rest).drop (mx*sz))):=by
     have a1:((xs++rest).drop (hi*sz)).take ((mx - hi)*sz)++(xs++rest).drop (mx*sz)=(xs++rest).drop (hi*sz):=by
      conv=>rhs; rw [←List.take_append_drop ((mx - hi)*sz) ((xs++rest).drop (hi*sz))]
      rw [List.drop_drop,show hi*sz+(mx - hi)*sz=mx*sz from by omega]
     have a2:(xs.drop (lo*sz)).take ((hi - lo)*sz)++(xs++rest).drop (hi*sz)=(xs++rest).drop (lo*sz):=by
      conv=>rhs; rw [←List.take_append_drop ((hi - lo)*sz) ((xs++rest).drop (lo*sz))]
      rw [List.drop_drop,show lo*sz+(hi - lo)*sz=hi*sz from by omega,List.drop_append_of_le_length (by omega:lo*sz≤xs.length),List.take_append_of_le_length (by rw [List.length_drop]; omega)]
     rw [a1,a2]
     conv=>lhs; rw [←List.take_append_drop (lo*sz) (xs++rest)]
     rw [List.take_append_of_le_length O_]
    rw [←List.append_assoc xs,e1]
    simp only [List.append_assoc]
    rw [←e1]
   ·rw [hxl]; unfold Slc.cut; simp
   ·rw [hxl,List.length_take,List.length_drop,List.length_append,hr]
    have hsub3:(mx - hi)*sz=mx*sz - hi*sz:=Nat.sub_mul _ _ _
    unfold Slc.cut
    simp only [Int.toNat_natCast]
    omega
   ·unfold Slc.cut; simp only [Int.toNat_natCast]; omega
/-- copy(x[lo:], ..) -/
theorem over {lo:Nat} {src:List Value} {K:WP} (h:RowC 1 s xs bs) (st:St w0 (bs++l) w) (h1:lo+src.length≤s.len) (ho:zQ src=true)
    (hK:∀ bs' w',RowC 1 s (xs.take lo++src++xs.drop (lo+src.length)) bs'→St w0 (bs'++l) w'→K w'):zAh (Slc.cut 1 s (lo:Int) ((s.len:Nat):Int) ((s.cap:Nat):Int)) src w K:=by
 cases hsrc:src with
 | nil =>
  subst hsrc
  refine .inl ⟨rfl,hK bs w ?_ st⟩
  simpa using h
 | cons v vs =>
  rw [←hsrc]
  have hpos:0<src.length:=by rw [hsrc]; simp
  rcases h with ⟨hp,hl,hcz,rfl,rfl⟩ | ⟨b,pre,rest,suf,hp,rfl,hx,hr,hle⟩
  ·omega
  ·have hptr:(Slc.cut 1 s (lo:Int) ((s.len:Nat):Int) ((s.cap:Nat):Int)).ptr=some ⟨b,pre.length+lo,none⟩:=by
     unfold Slc.cut
     simp only [Int.toNat_natCast]
     rw [if_neg O_,hp]
     simp [addr_add]
   right
   rw [hptr]
   have hx1:xs.length=s.len:=O_
   have e0:xs=xs.take lo++((xs.drop lo).take src.length++xs.drop (lo+src.length)):=by
    conv=>lhs; rw [←List.take_append_drop lo xs,←List.take_append_drop src.length (xs.drop lo),List.drop_drop]
   refine⟨rfl,st.writable 0 rfl (by show pre.length+lo+src.length≤_; simp; omega),ho,fun w' hw=> ?_⟩
   have hn:=st.put0 hw
   have e1:pre++(xs++(rest++suf))=(pre++xs.take lo)++(xs.drop lo).take src.length++(xs.drop (lo+src.length)++(rest++suf)):=by
    conv=>lhs; rw [e0]
    simp only [List.append_assoc]
   have e2:poff (some ⟨b,pre.length+lo,none⟩:OA)=(pre++xs.take lo).length:=by
    show pre.length+lo=_
    rw [List.length_append,List.length_take]; omega
   rw [e1,e2,zhb _ _ _ _ (by rw [List.length_take,List.length_drop]; omega)] at hn
   refine hK [(b,pre++((xs.take lo++src++xs.drop (lo+src.length))++(rest++suf)))] w' (.inr ⟨b,pre,rest,suf,hp,rfl,?_,?_,hle⟩) ?_
   ·simp only [List.length_append,List.length_take,List.length_drop]; omega
   ·simp only [List.length_append,List.length_take,List.length_drop]; omega
   ·have e3:pre++((xs.take lo++src++xs.drop (lo+src.length))++(rest++suf))=(pre++xs.take lo)++src++(xs.drop (lo+src.length)++(rest++suf)):=by simp only [List.append_assoc]
    rw [e3]; exact hn
end RowC
/-- x[lo:hi:mx] of a slice that is read. -/
theorem zh.cut {w:World} {s:Slc} {sz:Nat} {src:List Value} {lo hi mx:Int} (h:zh w s sz src) (h0:0≤lo) (h1:lo≤hi) (h2:hi≤((s.len:Nat):Int)) (h3:hi≤mx) :
    zh w (Slc.cut sz s lo hi mx) sz ((src.drop (lo.toNat*sz)).take ((hi.toNat - lo.toNat)*sz)):=by
 obtain⟨lo,rfl⟩:=toN h0
 obtain⟨hi,rfl⟩:=toN (show 0≤hi by omega)
 obtain⟨mx,rfl⟩:=toN (show 0≤mx by omega)
 simp only [Int.toNat_natCast]
 obtain⟨hl,hc⟩:=h
 have hlo:lo*sz≤hi*sz:=Nat.mul_le_mul_right _ O_
 have hhi:hi*sz≤s.len*sz:=Nat.mul_le_mul_right _ O_
 have hsub:(hi - lo)*sz=hi*sz - lo*sz:=Nat.sub_mul _ _ _
 have hxl:((src.drop (lo*sz)).take ((hi - lo)*sz)).length=(hi - lo)*sz:=by
  rw [List.length_take,List.length_drop,hsub]; omega
 refine⟨by rw [hxl]; unfold Slc.cut; simp,?_⟩
 by_cases he:(src.drop (lo*sz)).take ((hi - lo)*sz)=[]
 ·exact .inl he
 ·right
  rcases hc with hc | ⟨ha,hc⟩
  ·exact absurd (by rw [hc]; simp) he
  ·have hlh:lo≠hi:=fun e=>he (by subst e; simp)
   have hp:s.ptr=some ⟨pblk s.ptr,poff s.ptr,none⟩:=ha
   have hq:(Slc.cut sz s (lo:Int) (hi:Int) (mx:Int)).ptr=some ⟨pblk s.ptr,poff s.ptr+lo*sz,none⟩:=by
    unfold Slc.cut
    simp only [Int.toNat_natCast]
    rw [if_neg O_]
    generalize pblk s.ptr=pb at *
    generalize poff s.ptr=po at *
    rw [hp]; simp [addr_add]
   rw [hq]
   refine⟨rfl,zI.2 fun i v hi'=> ?_⟩
   show w.cell? ⟨pblk s.ptr,poff s.ptr+lo*sz+i,none⟩=some v
   rw [Nat.add_assoc]
   refine zI.1 hc _ v ?_
   have hil:=(List.getElem?_eq_some_iff.1 hi').1
   rw [hxl] at hil
   rw [List.getElem?_take,if_pos hil,List.getElem?_drop] at hi'
   exact hi'
/-- Element i of a slice of things of some cells. -/
theorem zh.getN {α:Type} {f:α→List Value} {w:World} {s:Slc} {sz:Nat} {l:List α} (h:zh w s sz (l.flatMap f)) (hf:∀ x,(f x).length=sz) (hz:0<sz) {i:Int} (h0:0≤i) (h1:i<((s.len:Nat):Int)) :
    IsAt s.ptr∧∃ x,l[i.toNat]? =some x∧ze w (pblk s.ptr) (poff s.ptr+i.toNat*sz) (f x):=by
 have hfl:∀ l:List α,(l.flatMap f).length=l.length*sz:=fun l=>by
  induction l with
  | nil=>simp
  | cons x l ih=>rw [List.flatMap_cons,List.length_append,ih,hf,List.length_cons,Nat.add_mul]; omega
 have hl:l.length=s.len:=by
  have:=h.1
  rw [hfl] at this
  exact Nat.eq_of_mul_eq_mul_right hz this
 obtain⟨a,c⟩:=zTc.at_ h O_ hz
 have hlt:i.toNat<l.length:=O_
 refine⟨a,l[i.toNat],List.getElem?_eq_getElem hlt,zI.2 fun j v hj=> ?_⟩
 have e1:l.flatMap f=(l.take i.toNat).flatMap f++(f l[i.toNat]++(l.drop (i.toNat+1)).flatMap f):=by
  conv=>lhs; rw [←List.take_append_drop i.toNat l,List.drop_eq_getElem_cons hlt,List.flatMap_append,List.flatMap_cons]
 rw [Nat.add_assoc]
 refine zI.1 c _ v ?_
 have e2:((l.take i.toNat).flatMap f).length=i.toNat*sz:=by rw [hfl,List.length_take,Nat.min_eq_left O_]
 rw [e1,List.getElem?_append_right O_,e2,show i.toNat*sz+j - i.toNat*sz=j from by omega,List.getElem?_append_left (List.getElem?_eq_some_iff.1 hj).1]
 exact hj
/-- x[:k] of a slice that is read. -/
theorem zh.pre {w:World} {s:Slc} {sz k:Nat} {src:List Value} (h:zh w s sz src) (hk:k≤s.len):zh w ⟨s.ptr,k,s.cap⟩ sz (src.take (k*sz)):=by
 obtain⟨hl,hc⟩:=h
 have hm:k*sz≤s.len*sz:=Nat.mul_le_mul_right _ hk
 refine⟨by rw [List.length_take]; show min (k*sz) src.length=k*sz; omega,?_⟩
 rcases hc with hc | ⟨ha,hc⟩
 ·exact .inl (by rw [hc]; simp)
 ·refine .inr ⟨ha,zI.2 fun i v hi=>zI.1 hc i v ?_⟩
  have hil:=(List.getElem?_eq_some_iff.1 hi).1
  rw [List.length_take] at hil
  rw [List.getElem?_take,if_pos O_] at hi
  exact hi
/-! ### A slice of things of some cells that came in -/
theorem zq {α:Type} {f:α→List Value} {sz:Nat} (hf:∀ x,(f x).length=sz):∀ l:List α,(l.flatMap f).length=l.length*sz
 | []=>by simp
 | x::l=>by rw [List.flatMap_cons,List.length_append,zq hf l,hf,List.length_cons,Nat.add_mul]; omega
theorem zag {α:Type} {f:α→List Value} {Pr:α→Prop} {w:World} {s:Slc} {sz by_:Nat} {E:List Value→Prop} (h:OkSl w s sz by_ E) (hE:∀ es,E es→∃ x,es=f x∧Pr x)
    (hf:∀ x,(f x).length=sz) (hz:0<sz):∃ l:List α,zh w s sz (l.flatMap f)∧s.len≤s.cap∧s.cap*by_≤140737488351232∧l.length=s.len∧∀ x∈l,Pr x:=by
 rcases h with ⟨h1,h2,h3⟩ | ⟨h1,h2,h3,a,hp,hi⟩
 ·exact⟨[],⟨by simp [h2],.inl rfl⟩,O_,by simp [h3],by simp [h2],fun x hx=>by cases hx⟩
 ·by_cases hl0:s.len=0
  ·exact⟨[],⟨by simp [hl0],.inl rfl⟩,h1,h3,by simp [hl0],fun x hx=>by cases hx⟩
  have hspot:a.spot=none:=by
   obtain⟨es0,hes0,_⟩:=hi 0 O_
   rw [Nat.zero_mul] at hes0
   obtain⟨_,hlen,hc⟩:=World.cells?_some hes0
   have h0:=hc 0 O_
   have:w.cell? a=some (es0[0]'O_):=by
    have e:a.add 0=a:=rfl
    rw [e,List.getElem?_eq_getElem O_] at h0
    exact h0
   unfold World.cell? at this
   split at this
   ·split at this
    ·cases this
    ·rename_i hs; simpa using hs
   ·cases this
  have hadd:∀ k,a.add k=⟨a.block,a.off+k,none⟩:=fun k=>by
   unfold Addr.add
   split
   ·rename_i h0; subst h0; cases a; simp only at hspot; subst hspot; rfl
   ·rfl
  have key:∀ i,i<s.len→∃ x,ze w a.block (a.off+i*sz) (f x)∧Pr x:=by
   intro i hlt
   obtain⟨es,hes,he⟩:=hi i O_
   obtain⟨x,rfl,hx⟩:=hE es he
   obtain⟨_,hlen,hc⟩:=World.cells?_some hes
   refine⟨x,zI.2 fun j v hj=> ?_,hx⟩
   have hjl:=(List.getElem?_eq_some_iff.1 hj).1
   have h0:=hc j O_
   rw [hj,hadd] at h0
   have e:(⟨a.block,a.off+i*sz,none⟩:Addr).add j=⟨a.block,a.off+i*sz+j,none⟩:=addr_add _ _ _
   rw [e] at h0
   exact h0
  obtain⟨l,hl,hp'⟩:=zMd (α:=α) (n:=s.len) key
  have ha:a=⟨a.block,a.off,none⟩:=by cases a; simp only at hspot; subst hspot; rfl
  refine⟨l,⟨by rw [zq hf,hl],.inr ?_⟩,h1,h3,hl,fun x hx=> ?_⟩
  ·rw [hp]
   refine⟨by show some a=some _; rw [ha]; rfl,?_⟩
   have hall:∀(m:List α) (o:Nat),(∀ i x,m[i]? =some x→ze w a.block (o+i*sz) (f x))→ze w a.block o (m.flatMap f):=by
    intro m
    induction m with
    | nil=>intro o _; trivial
    | cons y ys ih =>
     intro o hm
     rw [List.flatMap_cons]
     refine zI.2 fun j v hj=> ?_
     by_cases hjl:j<(f y).length
     ·rw [List.getElem?_append_left hjl] at hj
      have:=zI.1 (hm 0 y rfl) j v hj
      simpa using this
     ·rw [List.getElem?_append_right O_] at hj
      have h2:=zI.1 (ih (o+sz) fun i x hx=>by
       have:=hm (i+1) x (by simpa using hx)
       rw [Nat.add_mul,Nat.one_mul] at this
       rw [show o+sz+i*sz=o+(i*sz+sz) from by omega]; exact this) _ v hj
      rw [hf] at h2 hjl
      rw [show o+sz+(j - sz)=o+j from by omega] at h2
      exact h2
   exact hall l a.off fun i x hx=>(hp' i x hx).1
  ·obtain⟨i,hi'⟩:=List.mem_iff_getElem?.1 hx
   exact(hp' i x hi').2
theorem shl_nat {x:Nat} (k:Nat):(x:Int)*2 ^ k=((x*2 ^ k:Nat):Int):=by
 rw [Int.natCast_mul,Int.natCast_pow]; rfl
def za (y:Nat):Int:=if y % 2=0 then(y / 2:Nat) else -1 - (y / 2:Nat)
/-! ### Numbers as bytes -/
def varB:Nat→Nat→List UInt8
 | 0,_=>[]
 | f+1,n=>if n<128 then [UInt8.ofNat n] else UInt8.ofNat (n % 128+128)::varB f (n / 128)
/-- A short number. -/
def varF (n:Nat):List UInt8:=varB 10 n
def fixB:Nat→Nat→List UInt8
 | 0,_=>[]
 | k+1,n=>UInt8.ofNat (n % 256)::fixB k (n / 256)
theorem zwd:∀(f n:Nat),(varB f n).length≤f
 | 0,_=>Nat.le_refl _
 | f+1,n=>by
  unfold varB
  split
  ·simp
  ·have:=zwd f (n / 128); simp; omega
theorem fixB_len:∀(k n:Nat),(fixB k n).length=k
 | 0,_=>rfl
 | k+1,n=>by rw [fixB,List.length_cons,fixB_len]
theorem zjh {n:Nat} (h:n<256):((UInt8.ofNat n).toNat:Int)=(n:Int):=by
 rw [UInt8.toNat_ofNat']; omega
theorem zcp:∀ x,x<256→x ||| 128=x % 128+128:=by decide +kernel
theorem z0c {n:Nat} (h:n<256):bV (UInt8.ofNat n)=Value.int .u8 (n:Int):=by
 show Value.int .u8 ((UInt8.ofNat n).toNat:Int)=_
 rw [zjh h]
section
variable {w0:Base} {w:World} {fr bs:List zf}
theorem s_V {s:Slc} {xs:List UInt8} {R:Slc→WP} (st:St w0 fr w) (hs:zh w s 1 (xs.map bV)) (hl:s.len≤140737488351232)
    (k:∀ s' rb w',RowC 1 s' (xs.map bV) rb→St w0 (rb++fr) w'→s'.len=xs.length→R s' w'):C_w s w R:=by
 apply S_qb
 unfold F_Bd
 have hlen:=hs.len_eq
 refine⟨fun h=> ?_,fun h=>fun b w1 hb hw=> ?_⟩
 ·have hp:s.ptr=none:=by simpa using h
  have:xs=[]:=by
   obtain⟨_,h2 | ⟨h2,_⟩⟩:=hs
   ·simpa using h2
   ·rw [hp] at h2; cases h2
  subst this
  exact k _ [] _ RowC.nil st rfl
 ·have st:=st.alloc hb hw
  refine⟨_,(Ext.new hw).src hs,?_⟩
  refine(RowC.new (b:=b) (xs:=[]) (n:=0) rfl:RowC 1 ⟨some ⟨b,0,none⟩,0,0⟩ [] [(b,[])]).append st (by simp [hlen]) (by simp [zQ,oneCell,bV]) rfl (by show(0+s.len)*1≤_; omega) fun s' rb w' r st hl'=>k _ _ _ r st (by rw [hl']; show 0+s.len=_; omega)
end
structure DM where
 cap:Int
 s0:List UInt8
 s1:List UInt8
 can:Int
 dead:Bool
 writes:Nat
def DM.get (m:DM) (slot:Int):List UInt8:=if slot=0 then m.s0 else m.s1
def DM.put (m:DM) (slot:Int) (xs:List UInt8):DM:=if slot=0 then { m with s0:=xs } else { m with s1:=xs }
def zhd (m:DM) (a b:Slc):List Value:=[Vo true,Vi m.cap,Vs a,Vs b,Vi m.can,Vo m.dead,Vi (m.writes:Int)]
def DkO (d:OA) (m:DM) (bs:List zf):Prop :=
 ∃(b:Nat) (a c:Slc) (ra rc:List zf),d=some ⟨b,0,none⟩∧RowC 1 a (m.s0.map bV) ra∧RowC 1 c (m.s1.map bV) rc∧bs=(b,zhd m a c)::(ra++rc) ∧
  0≤m.cap∧m.cap≤16777216∧-1≤m.can∧m.can≤9223372036854775807∧m.writes≤4611686018427387904∧m.s0.length≤16777216∧m.s1.length≤16777216
section
variable {w0:Base} {w:World} {fr bs:List zf} {d:OA} {m:DM}
theorem s_vc {c:Int} {R:OA→Int→WP} (st:St w0 fr w) (k0:c<0∨c>16777216→R none 1 w)
    (k1:0≤c→c≤16777216→∀ d bs w',DkO d ⟨c,[],[],-1,false,0⟩ bs→St w0 (bs++fr) w'→R d 0 w'):C_Qc c w R:=by
 apply S_Qc
 refine⟨fun h=>k0 (by simpa using h),fun h=>fun b w1 hb hw=> ?_⟩
 simp only [Bool.or_eq_false_iff,decide_eq_false_iff_not] at h
 exact k1 O_ O_ _ _ _ ⟨b,⟨none,0,0⟩,⟨none,0,0⟩,[],[],rfl,RowC.nil,RowC.nil,rfl,by simp only; omega,by simp only; omega,by show(-1:Int)≤-1; decide,by show(-1:Int)≤_; decide,by simp,by simp,by simp⟩ (st.alloc hb hw)
theorem s_c {slot:Int} {R:Int→WP} (st:St w0 (bs++fr) w) (o:DkO d m bs) (k:R (if slot=0∨slot=1 then 0 else 1) w):C_v d slot w R:=by
 apply S_Fb
 unfold F_2d
 obtain⟨b,a,c,ra,rc,rfl,r1,r2,rfl,_⟩:=o
 refine⟨fun h=>(by cases h),fun _=>⟨rfl,true,st.cell 0 rfl rfl,?_⟩⟩
 unfold F_Rb
 refine⟨fun h=>(by cases h),fun _=>⟨fun h=> ?_,fun h=> ?_⟩⟩
 ·simp only [Bool.and_eq_true,bne_iff_ne,ne_eq] at h
  rw [if_neg O_] at k; exact k
 ·simp only [Bool.and_eq_false_iff,bne_eq_false_iff_eq] at h
  rw [if_pos h] at k; exact k
def rawF (m:DM):DM×Int:=if m.dead=true∨m.can=0 then({ m with dead:=true },11) else({ m with can:=if m.can≤0 then -1 else m.can - 1,writes:=m.writes+1 },0)
theorem s_M {R:Int→WP} (st:St w0 (bs++fr) w) (o:DkO d m bs) (hwr:m.writes<4611686018427387904) (k:∀ bs' w',DkO d (rawF m).1 bs'→St w0 (bs'++fr) w'→R (rawF m).2 w'):C_nc d w R:=by
 apply S_yc
 unfold F_Ie
 obtain⟨b,a,c,ra,rc,rfl,r1,r2,rfl,h1,h2,h3,h4,h5,h6,h7⟩:=o
 have bad:(m.dead=true∨m.can=0)→F_Cb (some ⟨b,0,none⟩) R true w:=fun hb=>by
  unfold F_Cb
  unfold rawF at k
  rw [if_pos hb] at k
  exact⟨fun _=>⟨rfl,st.writable 0 rfl (by simp [zhd,poff]),fun w2 hw2=>k _ _ ⟨b,a,c,ra,rc,rfl,r1,r2,rfl,h1,h2,h3,h4,h5,h6,h7⟩ (st.put0 (o:=5) hw2)⟩,fun h=>(by cases h)⟩
 refine⟨rfl,m.dead,st.cell 0 rfl rfl,fun h=>bad (.inl h),fun h=>⟨rfl,m.can,st.cell 0 rfl rfl,?_⟩⟩
 by_cases hc:m.can=0
 ·rw [show(m.can==0)=true from by simpa using hc]
  exact bad (.inr hc)
 rw [show(m.can==0)=false from by simpa using hc]
 unfold F_Cb
 unfold rawF at k
 rw [if_neg (by rw [h]; simp [hc])] at k
 refine⟨fun h=>(by cases h),fun _=>⟨rfl,m.can,st.cell 0 rfl rfl,rfl,st.writable 0 rfl (by simp [zhd,poff]),fun w3 hw3=> ?_⟩⟩
 have e1:(if(-1:Int)>IntKind.i64.wrap (m.can - 1) then(-1:Int) else IntKind.i64.wrap (m.can - 1))=if m.can≤0 then -1 else m.can - 1:=by
  rw [i64_in _ O_ O_]; split <;> split <;> omega
 rw [e1] at hw3
 have st3:=st.put0 (o:=4) hw3
 refine⟨rfl,(m.writes:Int),st3.cell 0 rfl rfl,st3.writable 0 rfl (by simp [zhd,poff,putL]),fun w4 hw4=> ?_⟩
 have e2:IntKind.i64.wrap ((m.writes:Int)+1)=((m.writes+1:Nat):Int):=by rw [i64_in _ O_ O_]; omega
 rw [e2] at hw4
 refine k _ _ ⟨b,a,c,ra,rc,rfl,r1,r2,rfl,h1,h2,?_,?_,by simp only; omega,h6,h7⟩ (st3.put0 (o:=6) hw4)
 ·simp only; split <;> omega
 ·simp only; split <;> omega
/-- The disk, looked at through one slot. -/
theorem DkO.focus {slot:Int} (hs:slot=0∨slot=1) (o:DkO d m bs) (st:St w0 (bs++fr) w):∃(b:Nat) (t:Slc) (rt rest:List zf) (cs:List Value),d=some ⟨b,0,none⟩∧RowC 1 t ((m.get slot).map bV) rt ∧
    cs[2+slot.toNat]? =some (Vs t)∧cs[1]? =some (Vi m.cap)∧cs.length=7∧St w0 ((b,cs)::(rt++(rest++fr))) w∧(m.get slot).length≤16777216∧0≤m.cap∧m.cap≤16777216 ∧
    ∀(t':Slc) (rt':List zf) (ys:List UInt8) (w':World),RowC 1 t' (ys.map bV) rt'→ys.length≤16777216→St w0 ((b,putL (2+slot.toNat) [Vs t'] cs)::(rt'++(rest++fr))) w' →
     ∃ bs',DkO d (m.put slot ys) bs'∧St w0 (bs'++fr) w':=by
 obtain⟨b,a,c,ra,rc,rfl,r1,r2,rfl,h1,h2,h3,h4,h5,h6,h7⟩:=o
 rcases hs with rfl | rfl
 ·refine⟨b,a,ra,rc,zhd m a c,rfl,r1,rfl,rfl,rfl,by rw [←List.append_assoc]; exact st,h6,h1,h2,fun t' rt' ys w' r hy st'=>⟨_,⟨b,t',c,rt',rc,rfl,r,r2,rfl,h1,h2,h3,h4,h5,hy,h7⟩,?_⟩⟩
  rw [←List.append_assoc] at st'
  exact st'
 ·have st1:St w0 ((b,zhd m a c)::(rc++(ra++fr))) w:=st.perm (List.Perm.cons _ (by show((ra++rc)++fr).Perm _; rw [List.append_assoc]; exact List.perm_append_comm_assoc ra rc fr))
  refine⟨b,c,rc,ra,zhd m a c,rfl,r2,rfl,rfl,rfl,st1,h7,h1,h2,fun t' rt' ys w' r hy st'=>⟨_,⟨b,a,t',ra,rt',rfl,r1,r,rfl,h1,h2,h3,h4,h5,h6,hy⟩,?_⟩⟩
  have st2:St w0 ((b,zhd m a t')::(rt'++(ra++fr))) w':=st'
  exact st2.perm (List.Perm.cons _ (by show List.Perm _ ((ra++rt')++fr); rw [List.append_assoc]; exact(List.perm_append_comm_assoc ra rt' fr).symm))
/-- The bytes of a slot behind a write at a place. -/
def zFe (xs:List UInt8) (at_:Nat) (ys:List UInt8):List UInt8:=xs.take at_++ys++xs.drop (at_+ys.length)
theorem zKg {xs ys:List UInt8} {a:Nat} (h:a≤xs.length):(zFe xs a ys).length=max xs.length (a+ys.length):=by
 unfold zFe
 simp only [List.length_append,List.length_take,List.length_drop]; omega
def zVb (m:DM) (slot at_:Int) (ys:List UInt8):DM×Int :=
 if ¬ (slot=0∨slot=1) then(m,1) else if at_<0∨ys.length>64 then(m,1) else if at_>((m.get slot).length:Int) then(m,6) else if at_>m.cap - ys.length then(m,13)
 else if(rawF m).2≠0 then rawF m else((rawF m).1.put slot (zFe (m.get slot) at_.toNat ys),0)
theorem zbg (m:DM) (slot:Int):(rawF m).1.get slot=m.get slot:=by
 unfold rawF
 by_cases h:m.dead=true∨m.can=0
 ·rw [if_pos h]; rfl
 ·rw [if_neg h]; rfl
theorem zcg (k:Nat):(zJ k [Value.int .u8 0]).toList=(List.replicate k (0:UInt8)).map bV:=by
 show(List.replicate k [Value.int .u8 0]).flatten=_
 induction k with
 | zero=>rfl
 | succ n ih=>rw [List.replicate_succ,List.flatten_cons,ih,List.replicate_succ]; rfl
theorem s_x {slot at_:Int} {b_:Slc} {ys:List UInt8} {R:Int→WP} (st:St w0 (bs++fr) w) (o:DkO d m bs) (hwr:m.writes<4611686018427387904) (hs:∀ l' w',St w0 (l'++fr) w'→zh w' b_ 1 (ys.map bV))
    (k:∀ bs' w',DkO d (zVb m slot at_ ys).1 bs'→St w0 (bs'++fr) w'→R (zVb m slot at_ ys).2 w'):C_U d slot at_ b_ w R:=by
 apply S_fb
 unfold F_De
 have hyl:=(hs _ _ st).len_eq
 unfold zVb at k
 refine s_c st o ⟨fun h=> ?_,fun h=> ?_⟩
 ·have hn:¬ (slot=0∨slot=1):=fun hh=>by rw [if_pos hh] at h; simp at h
  rw [if_pos hn] at k
  rw [if_neg hn]
  exact k _ _ o st
 have hsl:slot=0∨slot=1:=by
  by_cases hh:slot=0∨slot=1
  ·exact hh
  ·rw [if_neg hh] at h; simp at h
 rw [if_neg (fun hh=>hh hsl)] at k
 refine⟨fun h=> ?_,fun h=> ?_⟩
 ·simp only [Bool.or_eq_true,decide_eq_true_eq] at h
  rw [if_pos O_] at k; exact k _ _ o st
 simp only [Bool.or_eq_false_iff,decide_eq_false_iff_not] at h
 rw [if_neg O_] at k
 obtain⟨b,t,rt,rest,cs,hd,rr,c1,c2,c3,st1,hg,hc0,hc1,back⟩:=o.focus hsl st
 have hrl:=rr.len
 rw [List.length_map,Nat.mul_one] at hrl
 have hso:slot<2:=O_
 subst hd
 refine⟨rfl,O_,hso,t,st1.cell 0 rfl (by show cs[0+2+slot.toNat]? =_; rw [Nat.zero_add]; exact c1),fun h2=> ?_,fun h2=> ?_⟩
 ·have h2:=of_decide_eq_true h2
  rw [if_pos O_] at k; exact k _ _ o st
 have h2:=of_decide_eq_false h2
 rw [if_neg O_] at k
 refine⟨rfl,m.cap,st1.cell 0 rfl (by show cs[0+1]? =_; exact c2),fun h3=> ?_,fun h3=> ?_⟩
 ·rw [i64_in _ O_ O_] at h3
  have h3:=of_decide_eq_true h3
  rw [if_pos O_] at k; exact k _ _ o st
 rw [i64_in _ O_ O_] at h3
 have h3:=of_decide_eq_false h3
 rw [if_neg O_] at k
 refine s_M st o hwr fun bs2 w2 o2 st2=>⟨fun h4=> ?_,fun h4=> ?_⟩
 ·have h4:(rawF m).2≠0:=by simpa using h4
  rw [if_pos h4] at k; exact k _ _ o2 st2
 have h4:(rawF m).2=0:=by simpa using h4
 rw [if_neg O_] at k
 obtain⟨at_,rfl⟩:=toN (show 0≤at_ by omega)
 rw [Int.toNat_natCast] at k
 have hle0:at_≤(m.get slot).length:=O_
 clear st1 c1 c2 c3 back rr hrl
 obtain⟨b',t,rt,rest,cs,hd,rr,c1,c2,c3,st1,hg',hc0',hc1',back⟩:=o2.focus hsl st2
 obtain rfl:b=b':=by simpa using hd
 rw [zbg] at rr hg'
 have hrl:=rr.len
 rw [List.length_map,Nat.mul_one] at hrl
 have cell:∀ {x:Slc} {cs:List Value} {l:List zf} {w':World},cs[2+slot.toNat]? =some (Vs x)→St w0 ((b,cs)::l) w'→w'.cell? ⟨pblk (some ⟨b,0,none⟩),poff (some ⟨b,0,none⟩)+2+slot.toNat,none⟩=some (Vs x):=fun hc st =>
  st.cell 0 rfl (by show _[0+2+slot.toNat]? =_; rw [Nat.zero_add]; exact hc)
 have wend:IntKind.i64.wrap ((at_:Int)+((b_.len:Nat):Int))=((at_+b_.len:Nat):Int):=by rw [i64_in _ O_ O_]; omega
 -- the copy
 have copy:∀ {x:Slc} {rx:List zf} {cs:List Value} {xs:List UInt8} {w3:World},RowC 1 x (xs.map bV) rx→cs[2+slot.toNat]? =some (Vs x)→at_+b_.len≤xs.length→at_≤(m.get slot).length →
     zFe xs at_ ys=zFe (m.get slot) at_ ys→(∀(t':Slc) (rt':List zf) (zs:List UInt8) (w':World),RowC 1 t' (zs.map bV) rt'→zs.length≤16777216→t'=x→St w0 ((b,cs)::(rt'++(rest++fr))) w'→∃ bs',DkO (some ⟨b,0,none⟩) ((rawF m).1.put slot zs) bs'∧St w0 (bs'++fr) w') →
     St w0 ((b,cs)::(rx++(rest++fr))) w3→F_Jb (some ⟨b,0,none⟩) slot (at_:Int) b_ R w3:=by
  intro x rx cs xs w3 rx1 hc hfit hle heq bk st3
  have hxl:=rx1.len
  rw [List.length_map,Nat.mul_one] at hxl
  have hxc:=rx1.cap_le
  unfold F_Jb
  refine⟨rfl,O_,hso,x,cell hc st3,⟨O_,O_,O_,O_⟩,?_⟩
  rintro s rfl
  have hsr:zh w3 b_ 1 (ys.map bV):=hs ((b,cs)::(rx++rest)) w3 (by simpa using st3)
  have hmin:min b_.len (Slc.cut 1 x (at_:Int) ((x.len:Nat):Int) ((x.cap:Nat):Int)).len=b_.len:=by
   show min b_.len (((x.len:Nat):Int).toNat - ((at_:Nat):Int).toNat)=_
   simp only [Int.toNat_natCast]; omega
  rw [hmin]
  refine⟨_,hsr,?_⟩
  refine rx1.over (l:=(b,cs)::(rest++fr)) st3.mid (by simp; omega) (by unfold zQ; rw [List.all_map]; exact List.all_eq_true.2 fun _ _=>rfl) fun rt' w4 r4 st4=> ?_
  have e:(xs.map bV).take at_++ys.map bV++(xs.map bV).drop (at_+(ys.map bV).length)=(zFe xs at_ ys).map bV:=by
   unfold zFe
   rw [List.map_append,List.map_append,List.map_take,List.map_drop,List.length_map]
  rw [e,heq] at r4
  obtain⟨bs',o',st'⟩:=bk x rt' _ w4 r4 (by rw [zKg hle]; omega) rfl st4.unmid
  exact k bs' w4 o' st'
 refine⟨rfl,O_,hso,t,cell c1 st1,fun h5=>fun w5 e5=> ?_,fun h5=> ?_⟩
 ·rw [wend] at h5
  have h5:=of_decide_eq_true h5
  have st5:=st1.drew e5
  have wk:IntKind.i64.wrap (((at_+b_.len:Nat):Int) - ((t.len:Nat):Int))=((at_+b_.len - t.len:Nat):Int):=by rw [i64_in _ O_ O_]; omega
  refine⟨rfl,O_,hso,t,cell c1 st5,rfl,O_,hso,t,cell c1 st5,rfl,?_⟩
  simp only [wend,wk,Int.toNat_natCast]
  refine⟨O_,O_,?_⟩
  refine rr.append (l:=(b,cs)::(rest++fr)) st5.mid (by rw [zcg]; simp) (by rw [zcg]; unfold zQ; rw [List.all_map]; exact List.all_eq_true.2 fun _ _=>rfl) rfl O_ fun s' rt' w6 r6 st6 hl6=> ?_
  have st6:=st6.unmid
  refine⟨O_,hso,st6.writable 0 rfl (by show 0+2+slot.toNat+1≤_; rw [c3]; omega),fun w7 hw7=> ?_⟩
  have e0:poff (some ⟨b,0,none⟩:OA)+2+slot.toNat=2+slot.toNat:=by show 0+2+_=_; omega
  rw [e0] at hw7
  have st7:=st6.put0 hw7
  rw [zcg,←List.map_append] at r6
  refine copy r6 ?_ (by rw [List.length_append,List.length_replicate]; omega) O_ ?_ (fun t' rt2 zs w' r hz ht st=> ?_) st7
  ·rw [ztb,List.getElem?_set_self (by rw [c3]; omega)]
  ·unfold zFe
   rw [List.take_append_of_le_length O_,List.drop_append,List.drop_of_length_le (by omega:(m.get slot).length≤at_+ys.length),List.drop_of_length_le (by rw [List.length_replicate]; omega),List.append_nil]
  ·subst ht
   exact back t' rt2 zs w' r hz st
 ·rw [wend] at h5
  have h5:=of_decide_eq_false h5
  refine copy rr c1 O_ O_ rfl (fun t' rt2 zs w' r hz ht st=> ?_) st1
  subst ht
  refine back t' rt2 zs w' r hz ?_
  have:putL (2+slot.toNat) [Vs t'] cs=cs:=by
   rw [ztb]
   refine List.ext_getElem? fun j=> ?_
   by_cases hj:2+slot.toNat=j
   ·subst hj; rw [List.getElem?_set_self (by rw [c3]; omega),c1]
   ·rw [List.getElem?_set_ne hj]
  rw [this]; exact st
theorem s_F {slot:Int} {R:Slc→Int→WP} (st:St w0 (bs++fr) w) (o:DkO d m bs) (hsl:slot=0∨slot=1)
    (k:∀ s rb w',RowC 1 s ((m.get slot).map bV) rb→St w0 (rb++(bs++fr)) w'→s.len=(m.get slot).length→R s 0 w'):C_ab d slot w R:=by
 apply S_Eb
 refine s_c st o ⟨fun h=>(by rw [if_pos hsl] at h; simp at h),fun _=> ?_⟩
 obtain⟨b,t,rt,rest,cs,hd,rr,c1,c2,c3,st1,hg,hc0,hc1,back⟩:=o.focus hsl st
 have hrl:=rr.len
 rw [List.length_map,Nat.mul_one] at hrl
 subst hd
 refine⟨rfl,O_,O_,t,st1.cell 0 rfl (by show cs[0+2+slot.toNat]? =_; rw [Nat.zero_add]; exact c1),?_⟩
 exact s_V st (rr.src st1.drop1) O_ fun s rb w' r st' hl=>k s rb w' r st' hl
theorem s_db {R:Int→WP} (st:St w0 (bs++fr) w) (o:DkO d m bs) (k:R (m.writes:Int) w):C_pb d w R:=by
 apply S_6
 obtain⟨b,a,c,ra,rc,rfl,r1,r2,rfl,_⟩:=o
 exact⟨fun h=>(by cases h),fun _=>⟨rfl,_,st.cell 0 rfl rfl,k⟩⟩
theorem s_4b {R:Bool→WP} (st:St w0 (bs++fr) w) (o:DkO d m bs) (k:R m.dead w):C_Qb d w R:=by
 apply S_Db
 obtain⟨b,a,c,ra,rc,rfl,r1,r2,rfl,_⟩:=o
 exact⟨fun _=>⟨rfl,_,st.cell 0 rfl rfl,k⟩,fun h=>(by cases h)⟩
theorem s_5b {R:Int→WP} (st:St w0 (bs++fr) w) (o:DkO d m bs) (k:∀ bs' w',DkO d { m with dead:=false,can:= -1 } bs'→St w0 (bs'++fr) w'→R 0 w'):C_Ob d w R:=by
 apply S_Cb
 refine s_c st o ⟨fun h=>by simp at h,fun _=> ?_⟩
 obtain⟨b,a,c,ra,rc,rfl,r1,r2,rfl,h1,h2,h3,h4,h5,h6,h7⟩:=o
 refine⟨rfl,st.writable 0 rfl (by simp [zhd,poff]),fun w2 hw2=> ?_⟩
 have st2:=st.put0 (o:=5) hw2
 exact⟨rfl,st2.writable 0 rfl (by simp [zhd,poff,putL]),fun w3 hw3=>k _ _ ⟨b,a,c,ra,rc,rfl,r1,r2,rfl,h1,h2,by simp,by simp,h5,h6,h7⟩ (st2.put0 (o:=4) hw3)⟩
theorem s_wc {n:Int} {R:Int→WP} (st:St w0 (bs++fr) w) (o:DkO d m bs) (hn:n≤9223372036854775807) (k0:m.dead=true→R 11 w)
    (k:m.dead=false→∀ bs' w',DkO d { m with can:=if n< -1 then -1 else n } bs'→St w0 (bs'++fr) w'→R 0 w'):C_6b d n w R:=by
 apply S_Pb
 refine s_c st o ⟨fun h=>by simp at h,fun _=> ?_⟩
 obtain⟨b,a,c,ra,rc,rfl,r1,r2,rfl,h1,h2,h3,h4,h5,h6,h7⟩:=o
 refine⟨rfl,m.dead,st.cell 0 rfl rfl,fun h=>k0 h,fun h=>⟨rfl,st.writable 0 rfl (by simp [zhd,poff]),fun w2 hw2=> ?_⟩⟩
 refine k h _ _ ⟨b,a,c,ra,rc,rfl,r1,r2,rfl,h1,h2,?_,?_,h5,h6,h7⟩ (st.put0 (o:=4) hw2)
 ·simp only; split <;> omega
 ·simp only; split <;> omega
def zxb (m:DM) (slot:Int):DM×Int:=if(rawF m).2≠0 then rawF m else((rawF m).1.put slot [],0)
theorem s_y {slot:Int} {R:Int→WP} (st:St w0 (bs++fr) w) (o:DkO d m bs) (hsl:slot=0∨slot=1) (hwr:m.writes<4611686018427387904)
    (k:∀ bs' w',DkO d (zxb m slot).1 bs'→St w0 (bs'++fr) w'→R (zxb m slot).2 w'):C_z d slot w R:=by
 apply S_n
 unfold zxb at k
 refine s_c st o ⟨fun h=>(by rw [if_pos hsl] at h; simp at h),fun _=>s_M st o hwr fun bs2 w2 o2 st2=>⟨fun h=> ?_,fun h=> ?_⟩⟩
 ·have h:(rawF m).2≠0:=by simpa using h
  rw [if_pos h] at k; exact k _ _ o2 st2
 ·have h:(rawF m).2=0:=by simpa using h
  rw [if_neg O_] at k
  obtain⟨b,t,rt,rest,cs,hd,rr,c1,c2,c3,st1,hg,hc0,hc1,back⟩:=o2.focus hsl st2
  subst hd
  refine⟨rfl,O_,O_,st1.writable 0 rfl (by show 0+2+slot.toNat+1≤_; rw [c3]; omega),fun w3 hw3=> ?_⟩
  have e0:poff (some ⟨b,0,none⟩:OA)+2+slot.toNat=2+slot.toNat:=by show 0+2+_=_; omega
  rw [e0] at hw3
  have st3:=st1.put0 hw3
  have st4:St w0 ((b,putL (2+slot.toNat) [Value.slice none 0 0] cs)::([]++(rest++fr))) w3:=st3.sub (List.Sublist.cons_cons _ (List.sublist_append_right _ _))
  obtain⟨bs',o',st'⟩:=back ⟨none,0,0⟩ [] [] w3 RowC.nil (by simp) st4
  exact k bs' w3 o' st'
end
def zD:List Value:=[Vo false,Vi 0,Value.slice none 0 0,Value.slice none 0 0,Vi 0,Vo false,Vi 0]
def ZO (d:OA) (bs:List zf):Prop:=(d=none∧bs=[])∨∃ b,d=some ⟨b,0,none⟩∧bs=[(b,zD)]
section
variable {w0:Base} {w:World} {fr bs:List zf} {d:OA}
theorem s_n {slot:Int} {R:Int→WP} (st:St w0 (bs++fr) w) (o:ZO d bs) (k:R 2 w):C_v d slot w R:=by
 apply S_Fb
 unfold F_2d F_Rb
 rcases o with ⟨rfl,rfl⟩ | ⟨b,rfl,rfl⟩
 ·exact⟨fun _=>⟨fun _=>k,fun h=>(by cases h)⟩,fun h=>(by cases h)⟩
 ·exact⟨fun h=>(by cases h),fun _=>⟨rfl,false,st.cell 0 rfl rfl,⟨fun _=>k,fun h=>(by cases h)⟩⟩⟩
theorem s_2c {slot at_:Int} {b_:Slc} {R:Int→WP} (st:St w0 (bs++fr) w) (o:ZO d bs) (k:R 2 w):C_U d slot at_ b_ w R:=by
 apply S_fb
 exact s_n st o ⟨fun _=>k,fun h=>(by cases h)⟩
theorem s_3c {slot:Int} {R:Int→WP} (st:St w0 (bs++fr) w) (o:ZO d bs) (k:R 2 w):C_z d slot w R:=by
 apply S_n
 exact s_n st o ⟨fun _=>k,fun h=>(by cases h)⟩
theorem s_Id {n:Int} {R:Int→WP} (st:St w0 (bs++fr) w) (o:ZO d bs) (k:R 2 w):C_6b d n w R:=by
 apply S_Pb
 exact s_n st o ⟨fun _=>k,fun h=>(by cases h)⟩
theorem s_sd {R:Int→WP} (st:St w0 (bs++fr) w) (o:ZO d bs) (k:R 2 w):C_Ob d w R:=by
 apply S_Cb
 exact s_n st o ⟨fun _=>k,fun h=>(by cases h)⟩
theorem s_ob {slot:Int} {R:Slc→Int→WP} (st:St w0 (bs++fr) w) (o:ZO d bs) (k:R ⟨none,0,0⟩ 2 w):C_ab d slot w R:=by
 apply S_Eb
 exact s_n st o ⟨fun _=>k,fun h=>(by cases h)⟩
theorem s_td {R:Bool→WP} (st:St w0 (bs++fr) w) (o:ZO d bs) (k:R false w):C_Qb d w R:=by
 apply S_Db
 rcases o with ⟨rfl,rfl⟩ | ⟨b,rfl,rfl⟩
 ·exact⟨fun h=>(by cases h),fun _=>k⟩
 ·exact⟨fun _=>⟨rfl,false,st.cell 0 rfl rfl,k⟩,fun h=>(by cases h)⟩
theorem s_xc {R:Int→WP} (st:St w0 (bs++fr) w) (o:ZO d bs) (k:R 0 w):C_pb d w R:=by
 apply S_6
 rcases o with ⟨rfl,rfl⟩ | ⟨b,rfl,rfl⟩
 ·exact⟨fun _=>k,fun h=>(by cases h)⟩
 ·exact⟨fun h=>(by cases h),fun _=>⟨rfl,0,st.cell 0 rfl rfl,k⟩⟩
theorem s_yc {slot at_:Int} {b_:Slc} {R:Int→WP} (k:R 2 w):C_i none slot at_ b_ w R:=by
 apply S_d
 exact⟨fun _=>k,fun h=>(by cases h)⟩
theorem s_zc {slot:Int} {R:Int→WP} (k:R 2 w):C_j none slot w R:=by
 apply S_e
 exact⟨fun _=>k,fun h=>(by cases h)⟩
theorem s_ud {n:Int} {R:Int→WP} (k:R 2 w):C_y none n w R:=by
 apply S_m
 exact⟨fun _=>k,fun h=>(by cases h)⟩
theorem s_4c {R:Int→WP} (k:R 2 w):C_t none w R:=by
 apply S_h
 exact⟨fun _=>k,fun h=>(by cases h)⟩
theorem s_5c {slot:Int} {R:Slc→Int→WP} (k:R ⟨none,0,0⟩ 2 w):C_b none slot w R:=by
 apply S_a
 exact⟨fun _=>k,fun h=>(by cases h)⟩
theorem s_6c {R:Bool→WP} (k:R false w):C_u none w R:=by
 apply S_i
 exact⟨fun h=>(by cases h),fun _=>k⟩
theorem s_6b {R:Int→WP} (k:R 0 w):C_l none w R:=by
 apply S_b
 exact⟨fun _=>k,fun h=>(by cases h)⟩
end
/-! ### CRC-32C -/
def step (c:BitVec 32):BitVec 32:=(c >>> 1) ^^^ (if c.getLsbD 0 then 0x82f63b78#32 else 0#32)
def z1c:Nat→BitVec 32→BitVec 32
 | 0,c=>c
 | n+1,c=>z1c n (step c)
def crcF:BitVec 32→List UInt8→BitVec 32
 | c,[]=>c
 | c,x::r=>crcF (z1c 8 (c ^^^ BitVec.ofNat 32 x.toNat)) r
/-- A number of 32 bits, as Go's. -/
abbrev U (c:BitVec 32):Int:=(c.toNat:Int)
theorem step_xor (a b:BitVec 32):step (a ^^^ b)=step a ^^^ step b:=by
 unfold step
 rw [BitVec.getLsbD_xor]
 have h1:(a ^^^ b) >>> 1=(a >>> 1) ^^^ (b >>> 1):=by
  apply BitVec.eq_of_getLsbD_eq; intro i hi; simp
 rw [h1]
 cases a.getLsbD 0 <;> cases b.getLsbD 0 <;> (apply BitVec.eq_of_getLsbD_eq; intro i hi; simp [BitVec.getLsbD_xor])
 all_goals (generalize (a.getLsbD (1+i))=u; generalize (b.getLsbD (1+i))=v; generalize (BitVec.getLsbD (2197175160#32) i)=z; cases u <;> cases v <;> cases z <;> rfl)
theorem zLg:∀(n:Nat) (a b:BitVec 32),z1c n (a ^^^ b)=z1c n a ^^^ z1c n b
 | 0,_,_=>rfl
 | n+1,a,b=>by rw [z1c,step_xor,zLg n]; rfl
theorem zKf:∀(n:Nat) (c:BitVec 32),(∀ i,i<n→c.getLsbD i=false)→z1c n c=c >>> n
 | 0,c,_=>by simp [z1c]
 | n+1,c,h=>by
  have h0:=h 0 O_
  have hs:step c=c >>> 1:=by
   unfold step; rw [h0]
   apply BitVec.eq_of_getLsbD_eq; intro i hi; simp
  rw [z1c,hs,zKf n]
  ·apply BitVec.eq_of_getLsbD_eq; intro i hi
   simp only [BitVec.getLsbD_ushiftRight]
   rw [show 1+(n+i)=n+1+i from by omega]
  ·intro i hi
   simp only [BitVec.getLsbD_ushiftRight]
   exact h _ O_
theorem zaj (d:BitVec 32) (x:Nat) (hx:x<256):z1c 8 (BitVec.ofNat 32 ((d.toNat % 256) ^^^ x)) ^^^ (d >>> 8)=z1c 8 (d ^^^ BitVec.ofNat 32 x):=by
 have e1:d ^^^ BitVec.ofNat 32 x=BitVec.ofNat 32 ((d.toNat % 256) ^^^ x) ^^^ ((d >>> 8) <<< 8):=by
  apply BitVec.eq_of_getLsbD_eq; intro i hi
  simp only [BitVec.getLsbD_xor,BitVec.getLsbD_ofNat,BitVec.getLsbD_shiftLeft,BitVec.getLsbD_ushiftRight,Nat.testBit_xor]
  rw [show(256:Nat)=2 ^ 8 from rfl,Nat.testBit_mod_two_pow]
  simp only [hi,decide_true,Bool.true_and]
  by_cases h8:i<8
  ·simp [h8,BitVec.testBit_toNat]
  ·have hxi:x.testBit i=false:=Nat.testBit_lt_two_pow (Nat.lt_of_lt_of_le hx (by
     rw [show(256:Nat)=2 ^ 8 from rfl]; exact Nat.pow_le_pow_right O_ O_))
   simp [h8,hxi,show 8+(i - 8)=i from by omega]
 rw [e1,zLg]
 congr 1
 rw [zKf]
 ·apply BitVec.eq_of_getLsbD_eq; intro i hi
  simp only [BitVec.getLsbD_ushiftRight,BitVec.getLsbD_shiftLeft]
  by_cases h:8+i<32
  ·simp [h]
  ·have:d.getLsbD (8+i)=false:=BitVec.getLsbD_of_ge _ _ O_
   simp [h,this]
 ·intro i hi
  simp [BitVec.getLsbD_shiftLeft,hi]
theorem U_lt (c:BitVec 32):c.toNat<2 ^ 32:=c.isLt
theorem U_xor (a b:BitVec 32):bxor .u32 (U a) (U b)=U (a ^^^ b):=by
 unfold U; rw [zRg rfl (U_lt a) (U_lt b),BitVec.toNat_xor]
theorem U_and (a b:BitVec 32):band .u32 (U a) (U b)=U (a &&& b):=by
 unfold U; rw [zQg rfl (U_lt a) (U_lt b),BitVec.toNat_and]
theorem U_shr (c:BitVec 32) (k:Nat):Int.fdiv (U c) (2 ^ k)=U (c >>> k):=by
 have:=fdiv_nat c.toNat (2 ^ k)
 rw [show((2:Int) ^ k)=((2 ^ k:Nat):Int) from by simp]; unfold U; rw [this,BitVec.toNat_ushiftRight,Nat.shiftRight_eq_div_pow]
theorem zdp (c:BitVec 32):IntKind.u32.wrap (4294967295 - U c)=U (~~~c):=by
 have h1:=U_lt c
 rw [zRf _ (by unfold U; omega) (by unfold U; omega)]
 unfold U
 rw [BitVec.toNat_not]
 omega
theorem z6k (c:BitVec 32):bxor .u32 (IntKind.max .u32) (U c)=U (~~~c):=by
 rw [show IntKind.max .u32=U (0xffffffff#32) from by decide,U_xor]
 congr 2
theorem zkh (c:BitVec 32):c.getLsbD 0=decide (c.toNat % 2=1):=by
 rw [BitVec.getLsbD,Nat.testBit_zero]
theorem zAk (c:BitVec 32):bxor .u32 (Int.fdiv (U c) (2 ^ 1)) (band .u32 2197175160 (IntKind.u32.wrap (0 - (band .u32 (U c) 1))))=U (step c):=by
 have e1:band .u32 (U c) 1=((c.toNat % 2:Nat):Int):=by
  rw [show(1:Int)=U (1#32) from rfl,U_and]; unfold U; rw [BitVec.toNat_and]
  show((c.toNat &&& 1:Nat):Int)=_
  rw [Nat.and_one_is_mod]
 rw [U_shr,e1]
 unfold step
 rw [zkh]
 rcases Nat.mod_two_eq_zero_or_one c.toNat with h | h
 ·rw [h]
  rw [show(IntKind.u32.wrap (0 - ((0:Nat):Int)))=U (0#32) from by decide,show(2197175160:Int)=U (0x82f63b78#32) from by decide,U_and,U_xor]
  simp
 ·rw [h]
  rw [show(IntKind.u32.wrap (0 - ((1:Nat):Int)))=U (0xffffffff#32) from by decide,show(2197175160:Int)=U (0x82f63b78#32) from by decide,U_and,U_xor]
  simp
theorem zBk {c:BitVec 32} (h:(Int.tmod (U c) 2==1)=true):bxor .u32 (IntKind.u32.wrap (Int.tdiv (U c) 2)) 2197175160=U (step c):=by
 have h1:=U_lt c
 have h:=of_decide_eq_true h
 rw [show(2:Int)=((2:Nat):Int) from rfl,z6d] at h
 have hl:c.getLsbD 0=true:=by rw [zkh]; exact decide_eq_true O_
 have e:IntKind.u32.wrap (Int.tdiv (U c) 2)=U (c >>> 1):=by
  rw [show(2:Int)=((2:Nat):Int) from rfl,tdiv_nat,zRf _ O_ O_]; unfold U; rw [BitVec.toNat_ushiftRight,Nat.shiftRight_eq_div_pow]
 rw [e,show(2197175160:Int)=U (0x82f63b78#32) from by decide,U_xor]
 unfold step
 rw [hl]; rfl
theorem zbj {c:BitVec 32} (h:(Int.tmod (U c) 2==1)=false):IntKind.u32.wrap (Int.tdiv (U c) 2)=U (step c):=by
 have h1:=U_lt c
 have h:=of_decide_eq_false h
 rw [show(2:Int)=((2:Nat):Int) from rfl,z6d] at h
 have hl:c.getLsbD 0=false:=by rw [zkh]; exact decide_eq_false O_
 have e:IntKind.u32.wrap (Int.tdiv (U c) 2)=U (c >>> 1):=by
  rw [show(2:Int)=((2:Nat):Int) from rfl,tdiv_nat,zRf _ O_ O_]; unfold U; rw [BitVec.toNat_ushiftRight,Nat.shiftRight_eq_div_pow]
 rw [e]
 unfold step
 rw [hl]; simp
theorem zLf {n:Nat} {k:Int} (h0:0≤k) (h1:k<8) (d:BitVec 32):z1c (8 - k.toNat) d=z1c (8 - (k+1).toNat) (step d):=by
 rw [show 8 - k.toNat=(8 - (k+1).toNat)+1 from by omega]; rfl
def T8 (i:Nat):Int:=U (z1c 8 (BitVec.ofNat 32 i))
def tabF (n:Nat):List Int:=(List.range n).map T8++List.replicate (256 - n) 0
theorem zIc {n:Nat} (h:n≤256):(tabF n).length=256:=by simp [tabF]; omega
theorem zKi {n:Nat} (h:n<256):((tabF n).map (Value.int .u32)).set n (Value.int .u32 (T8 n))=(tabF (n+1)).map (Value.int .u32):=by
 rw [←List.map_set]
 congr 1
 unfold tabF
 rw [List.set_append_right _ _ (by simp)]
 simp only [List.length_map,List.length_range,Nat.sub_self]
 rw [List.range_succ,List.map_append,List.append_assoc]
 congr 1
 rw [show 256 - n=(256 - (n+1))+1 from by omega,List.replicate_succ]
 rfl
theorem s_7b {w:World} {R:List Int→WP} (h:∀ w',Ext w w'→R (tabF 256) w'):C_Ic w R:=by
 apply S_Mc
 unfold F_nf
 intro b w1 hb hw b1 w2 hb1 hw2
 have e1:Ext w w1:=Ext.new hw
 have e2:Ext w w2:=e1.trans (Ext.new hw2)
 have k0:Blk w2 b ((List.replicate 256 0).map (Value.int .u32)):=(Blk.new hb hw).ext (Ext.new hw2)
 have k1:Blk w2 b1 ((tabF 0).map (Value.int .u32)):=Blk.new hb1 hw2
 have hbb:w.heap.size≤b1:=by have:=e1.size; omega
 have hne:b≠b1:=by have:=(Blk.new hb hw).lt; omega
 refine⟨fun i w'=>0≤i∧i≤256∧RowKit.Below w.heap.size w w'∧Blk w' b ((List.replicate 256 0).map (Value.int .u32))∧Blk w' b1 ((tabF i.toNat).map (Value.int .u32)),fun i w'=>256 - i.toNat,⟨O_,O_,e2,k0,k1⟩,?_⟩
 rintro i w3 ⟨h0,h1,e3,k0,k1⟩
 unfold F_Be
 refine⟨fun hi=> ?_,fun hi=> ?_⟩
 ·have hi:=of_decide_eq_true hi
  refine⟨fun c k w'=>w'=w3∧0≤k∧k≤8∧∃ e,c=U e∧z1c (8 - k.toNat) e=z1c 8 (BitVec.ofNat 32 i.toNat),fun c k w'=>8 - k.toNat,⟨rfl,O_,O_,BitVec.ofNat 32 i.toNat,?_,rfl⟩,?_⟩
  ·rw [zRf _ O_ O_]
   unfold U; rw [BitVec.toNat_ofNat,Nat.mod_eq_of_lt O_]; omega
  ·rintro _ k _ ⟨rfl,j0,j1,e,rfl,he⟩
   unfold F_Ae
   refine⟨fun hk=> ?_,fun hk=> ?_⟩
   ·have hk:=of_decide_eq_true hk
    have hw:IntKind.i64.wrap (k+1)=k+1:=i64_in _ O_ O_
    rw [zLf (n:=0) j0 hk] at he
    exact⟨⟨rfl,O_,O_,step e,zAk e,by rw [hw]; exact he⟩,by simp only [hw]; omega⟩
   ·have hk:=of_decide_eq_false hk
    rw [show 8 - k.toNat=0 from by omega] at he
    have he:e=_:=he
    have hw:IntKind.i64.wrap (i+1)=i+1:=i64_in _ O_ O_
    refine⟨h0,hi,k1.writable (by rw [List.length_map,zIc O_]; omega),fun w5 hw5=> ?_⟩
    subst hw5
    have hp:=k1.puts [Value.int .u32 (U e)] (o:=0+i.toNat)
    rw [ztb,Nat.zero_add,he] at hp
    have hs:=zKi (n:=i.toNat) O_
    rw [T8] at hs
    rw [hs] at hp
    refine⟨⟨O_,O_,zLc _ e3 hbb,k0.puts_ne hne,?_⟩,by simp only [hw]; omega⟩
    rw [hw,zMc h0,Nat.zero_add,he]
    exact hp
 ·have hi:=of_decide_eq_false hi
  have hn:i.toNat=256:=O_
  rw [hn] at k1
  refine⟨tabF 256,zIc O_,k1.all,k0.writable (by rw [List.length_map,List.length_replicate]; omega),fun w6 hw6=> ?_⟩
  subst hw6
  have hp:=k0.puts ((tabF 256).map (Value.int .u32)) (o:=0)
  have hq:=zhb [] ((List.replicate 256 0).map (Value.int .u32)) [] ((tabF 256).map (Value.int .u32)) (by rw [List.length_map,List.length_map,List.length_replicate,zIc O_])
  simp only [List.nil_append,List.append_nil,List.length_nil] at hq
  rw [hq] at hp
  exact⟨tabF 256,zIc O_,hp.all,h _ (zLc _ e3 O_)⟩
theorem zLi {i:Nat} (h:i<256):((tabF 256).map (Value.int .u32))[i]? =some (Value.int .u32 (T8 i)):=by
 unfold tabF
 rw [List.getElem?_map,List.getElem?_append_left (by rw [List.length_map,List.length_range]; exact h),List.getElem?_map,List.getElem?_range h]; rfl
theorem s_N {c:BitVec 32} {s:Slc} {w:World} {R:Int→WP} {l:List UInt8} (hs:zh w s 1 (l.map bV)) (hl:s.len≤4611686018427387904)
    (h:∀ w',Ext w w'→R (U (~~~ crcF (~~~ c) l)) w'):C_Cc (U c) s w R:=by
 apply S_Rc
 unfold F_of
 refine s_7b fun w1 e1 _ b w2 hb hw2=> ?_
 have e2:Ext w w2:=e1.trans (Ext.new hw2)
 have k0:Blk w2 b ((List.replicate 256 0).map (Value.int .u32)):=Blk.new hb hw2
 refine⟨k0.writable (by rw [List.length_map,List.length_replicate]; omega),fun w3 hw3=> ?_⟩
 have hbb:w.heap.size≤b:=by have:=e1.size; omega
 have k1:=k0.puts ((tabF 256).map (Value.int .u32)) (o:=0)
 have hq:=zhb [] ((List.replicate 256 0).map (Value.int .u32)) [] ((tabF 256).map (Value.int .u32)) (by rw [List.length_map,List.length_map,List.length_replicate,zIc O_])
 simp only [List.nil_append,List.append_nil,List.length_nil] at hq
 rw [hq] at k1
 have e3:Ext w w3:=hw3 ▸ zLc _ e2 hbb
 rw [←hw3] at k1
 have hs3:=e3.src hs
 have hlen:=hs.len_eq
 refine⟨fun n i w'=>w'=w3∧0≤i∧i≤s.len∧∃ d,n=U d∧crcF d (l.drop i.toNat)=crcF (~~~ c) l,fun n i w'=>s.len - i.toNat,⟨rfl,O_,O_,~~~c,z6k c,by simp⟩,?_⟩
 rintro _ i _ ⟨rfl,h0,h1,d,rfl,hb⟩
 unfold F_Ee
 refine⟨fun hi=> ?_,fun hi=> ?_⟩
 ·have hi:=of_decide_eq_true hi
  obtain⟨ha,x,hx,hc⟩:=hs3.get h0 hi
  rw [zyd hx,crcF] at hb
  have hxl:=x.toNat_lt
  have hdl:=U_lt d
  have ew:IntKind.u8.wrap (U d)=((d.toNat % 256:Nat):Int):=by rw [zKd]; unfold U; exact(Int.natCast_emod d.toNat 256).symm
  have hx8:d.toNat % 256 ^^^ x.toNat<2 ^ 8:=Nat.xor_lt_two_pow O_ O_
  have ex:bxor .u8 (IntKind.u8.wrap (U d)) (x.toNat:Int)=((d.toNat % 256 ^^^ x.toNat:Nat):Int):=by
   rw [ew,zRg (k:= .u8) rfl (by show _<256; omega) (by show _<256; omega)]
  have hw:=zkd h0 hi hl
  refine⟨ha,h0,hi,(x.toNat:Int),hc,?_,?_,T8 (d.toNat % 256 ^^^ x.toNat),?_,?_⟩
  ·rw [ex]; omega
  ·rw [ex]; omega
  ·rw [ex,Int.toNat_natCast,Nat.zero_add]
   exact k1.cell (zLi hx8)
  ·refine⟨⟨rfl,O_,O_,z1c 8 (d ^^^ BitVec.ofNat 32 x.toNat),?_,by rw [hw,zMc h0]; exact hb⟩,by simp only [hw]; omega⟩
   rw [T8,U_shr,U_xor,zaj _ _ hxl]
 ·have hi:=of_decide_eq_false hi
  rw [zPe O_,crcF] at hb
  have h:=h _ e3
  rw [←hb] at h
  rw [z6k]; exact h
theorem s_7c {s:Slc} {w:World} {R:Int→WP} {l:List UInt8} (hs:zh w s 1 (l.map bV)) (hl:s.len≤4611686018427387904)
    (h:∀ w',Ext w w'→R (U (~~~ crcF (~~~ 0#32) l)) w'):C_Sc s w R:=by
 apply S_Sc
 unfold F_pf
 exact s_N (c:=0#32) hs hl h
/-! ### A short number out of bytes -/
def shA:Nat→Nat→List UInt8→Nat×Nat×Int
 | _,_,[]=>(0,0,5)
 | i,n,c::r=>if(i=9∧c.toNat>1)∨(i>0∧c.toNat=0) then(0,0,4)
  else if c.toNat<128 then(n+c.toNat % 128*128 ^ i,i+1,0) else shA (i+1) (n+c.toNat % 128*128 ^ i) r
def shF (l:List UInt8):Nat×Nat×Int:=shA 0 0 l
theorem z7k:∀(l:List UInt8) (i n:Nat),i≤9→n<128 ^ i→(shA i n l).1<2 ^ 64∧(shA i n l).2.1≤i+l.length ∧
    ((shA i n l).2.2=0∧i+1≤(shA i n l).2.1∨(shA i n l).1=0∧(shA i n l).2.1=0∧((shA i n l).2.2=4∨(shA i n l).2.2=5))
 | [],i,n,_,_=>by simp [shA]
 | c::r,i,n,hi,hn=>by
  have hb:=c.toNat_lt
  unfold shA
  split
  ·simp
  ·rename_i hne
   have hn':n+c.toNat % 128*128 ^ i<2 ^ 64∧(c.toNat % 128<128):=by
    refine⟨?_,Nat.mod_lt _ O_⟩
    by_cases h9:i=9
    ·subst h9
     have:c.toNat≤1:=O_
     have h1:c.toNat % 128=c.toNat:=Nat.mod_eq_of_lt O_
     rw [h1]
     have h2:c.toNat*128 ^ 9≤1*128 ^ 9:=Nat.mul_le_mul_right _ this
     have h3:(128:Nat) ^ 9=9223372036854775808:=D_
     omega
    ·have h1:c.toNat % 128*128 ^ i≤127*128 ^ i:=Nat.mul_le_mul_right _ O_
     have h2:128 ^ i*128=128 ^ (i+1):=(Nat.pow_succ ..).symm
     have h3:(128:Nat) ^ (i+1)≤128 ^ 9:=Nat.pow_le_pow_right O_ O_
     have h4:(128:Nat) ^ 9=9223372036854775808:=D_
     omega
   split
   ·exact⟨hn'.1,by simp only [List.length_cons]; omega,.inl ⟨rfl,Nat.le_refl _⟩⟩
   ·have h9:i≠9:=fun h9=>by omega
    have hlt:n+c.toNat % 128*128 ^ i<128 ^ (i+1):=by
     have h1:c.toNat % 128*128 ^ i≤127*128 ^ i:=Nat.mul_le_mul_right _ O_
     have h2:128 ^ i*128=128 ^ (i+1):=(Nat.pow_succ ..).symm
     omega
    obtain⟨h1,h2,h3⟩:=z7k r (i+1) _ O_ hlt
    refine⟨h1,by simp only [List.length_cons]; omega,?_⟩
    rcases h3 with h3 | h3
    ·exact .inl ⟨h3.1,O_⟩
    ·exact .inr h3
theorem zMf (l:List UInt8):(shF l).1<2 ^ 64∧(shF l).2.1≤l.length∧((shF l).2.2=0∧1≤(shF l).2.1∨(shF l).1=0∧(shF l).2.1=0∧((shF l).2.2=4∨(shF l).2.2=5)):=by
 have:=z7k l 0 0 O_ (by simp)
 simpa [shF] using this
theorem z1l:∀ x,x<256→x &&& 127=x % 128:=by decide +kernel
theorem zcj {m x k:Nat} (h:m<2 ^ k):m ||| (x*2 ^ k)=m+x*2 ^ k:=by
 rw [Nat.or_comm,←Nat.shiftLeft_eq,←Nat.shiftLeft_add_eq_or_of_lt h]; omega
section
variable {w0:Base} {w:World} {fr bs:List zf}
theorem s_8b {s:Slc} {l:List UInt8} {R:Int→Int→Int→WP} (hs:zh w s 1 (l.map bV)) (k:R ((shF l).1:Int) ((shF l).2.1:Int) (shF l).2.2 w):C_zc s w R:=by
 apply S_Fc
 unfold F_bf
 have hlen:=hs.len_eq
 refine⟨fun n t w'=>w'=w∧∃(i m:Nat),n=(m:Int)∧t=(i:Int)∧i≤9∧i≤s.len∧m<128 ^ i∧shA i m (l.drop i)=shF l,fun _ t _=>s.len - t.toNat,⟨rfl,0,0,rfl,rfl,O_,O_,by simp,rfl⟩,?_⟩
 rintro n t w1 ⟨rfl,i,m,rfl,rfl,hi,his,hm,hsh⟩
 unfold F_ce
 refine⟨fun h=> ?_,fun h=> ?_⟩
 ·have h:=of_decide_eq_true h
  obtain⟨a,c,hc,hcell⟩:=hs.get (i:=(i:Int)) O_ h
  rw [Int.toNat_natCast] at hc
  have hb:=c.toNat_lt
  rw [zyd hc,shA] at hsh
  refine⟨a,O_,h,_,hcell,fun hbad=> ?_,fun hbad=> ?_⟩
  ·rw [if_pos (by simp only [Bool.or_eq_true,Bool.and_eq_true,beq_iff_eq,decide_eq_true_eq] at hbad; omega)] at hsh
   rw [←hsh] at k; exact k
  ·have hne:¬ ((i=9∧c.toNat>1)∨(i>0∧c.toNat=0)):=by
     simp only [Bool.or_eq_false_iff,Bool.and_eq_false_iff,beq_eq_false_iff_ne,decide_eq_false_iff_not] at hbad; omega
   rw [if_neg hne] at hsh
   have w7:IntKind.i64.wrap (7*(i:Int))=((7*i:Nat):Int):=by rw [i64_in _ O_ O_]; omega
   have wi:IntKind.i64.wrap ((i:Int)+1)=((i+1:Nat):Int):=by rw [i64_in _ O_ O_]; omega
   have hp7:(2:Nat) ^ (7*i)=128 ^ i:=by rw [Nat.pow_mul]
   have hx:c.toNat % 128*128 ^ i<2 ^ 64:=by
    by_cases h9:i=9
    ·subst h9
     have h1:c.toNat % 128=c.toNat:=Nat.mod_eq_of_lt O_
     rw [h1]
     have h2:c.toNat*128 ^ 9≤1*128 ^ 9:=Nat.mul_le_mul_right _ O_
     have h3:(128:Nat) ^ 9=9223372036854775808:=D_
     omega
    ·have h1:c.toNat % 128*128 ^ i≤127*128 ^ i:=Nat.mul_le_mul_right _ O_
     have h3:(128:Nat) ^ i≤128 ^ 8:=Nat.pow_le_pow_right O_ O_
     have h4:(128:Nat) ^ 8=72057594037927936:=D_
     omega
   have hm64:m<2 ^ 64:=by
    have h3:(128:Nat) ^ i≤128 ^ 9:=Nat.pow_le_pow_right O_ O_
    have h4:(128:Nat) ^ 9=9223372036854775808:=D_
    omega
   have hv:bor .u64 (m:Int) (IntKind.u64.wrap ((IntKind.u64.wrap (band .u8 (c.toNat:Int) 127))*2 ^ (min ((7*i:Nat):Int).toNat 64)))=((m+c.toNat % 128*128 ^ i:Nat):Int):=by
    rw [show(127:Int)=((127:Nat):Int) from rfl,zQg rfl (by show _<256; omega) D_,z1l _ hb,Int.toNat_natCast,Nat.min_eq_left O_]
    rw [zX ((c.toNat % 128:Nat):Int) O_ O_,shl_nat,hp7,zX _ O_ O_,zOe rfl hm64 hx]
    rw [←hp7] at hm ⊢
    rw [zcj hm]
   rw [w7]
   simp only [hv,wi]
   refine⟨O_,fun hlt=> ?_,fun hlt=> ?_⟩
   ·have hlt:=of_decide_eq_true hlt
    rw [if_pos O_] at hsh
    rw [←hsh] at k; exact k
   ·have hlt:=of_decide_eq_false hlt
    rw [if_neg O_] at hsh
    have h9:i≠9:=fun h9=>by omega
    refine⟨⟨trivial,i+1,_,rfl,rfl,O_,O_,?_,hsh⟩,by show _ - Int.toNat _<_ - Int.toNat _; omega⟩
    have h1:c.toNat % 128*128 ^ i≤127*128 ^ i:=Nat.mul_le_mul_right _ O_
    have h2:128 ^ i*128=128 ^ (i+1):=(Nat.pow_succ ..).symm
    omega
 ·have h:=of_decide_eq_false h
  rw [zPe O_,shA] at hsh
  rw [←hsh] at k; exact k
/-! ### Readers -/
structure RS where
 rest:List UInt8
 code:Int
def RdO (r:OA) (s:RS) (bs:List zf):Prop :=
 ∃(b:Nat) (sl:Slc) (rb:List zf),r=some ⟨b,0,none⟩∧RowC 1 sl (s.rest.map bV) rb∧bs=(b,[Vo true,Vs sl,Vi s.code])::rb
variable {r:OA} {s:RS}
theorem s_9b {sl:Slc} {xs:List UInt8} {R:OA→WP} (st:St w0 fr w) (hs:zh w sl 1 (xs.map bV)) (hl:sl.len≤140737488351232)
    (k:∀ r bs w',RdO r ⟨xs,0⟩ bs→St w0 (bs++fr) w'→R r w'):C_xc sl w R:=by
 apply S_vc
 refine s_V st hs hl fun s' rb w' ro st _ b w2 hb hw=> ?_
 exact k _ _ _ ⟨b,s',rb,rfl,ro,rfl⟩ (st.alloc hb hw)
theorem s_k {R:Int→WP} (st:St w0 (bs++fr) w) (o:RdO r s bs) (k:R (s.rest.length:Int) w):C_8 r w R:=by
 apply S_ec
 obtain⟨b,sl,rb,rfl,ro,rfl⟩:=o
 have hl:=ro.len
 rw [List.length_map,Nat.mul_one] at hl
 exact⟨fun h=>(by cases h),fun _=>⟨rfl,sl,st.cell 0 rfl rfl,by rw [←hl]; exact k⟩⟩
def RS.end_ (s:RS):Int:=if s.code=0∧s.rest≠[] then 4 else s.code
theorem s_Fb {R:Int→WP} (st:St w0 (bs++fr) w) (o:RdO r s bs) (k:R s.end_ w):C_sc r w R:=by
 apply S_mc
 obtain⟨b,sl,rb,rfl,ro,rfl⟩:=o
 have hl:=ro.len
 rw [List.length_map,Nat.mul_one] at hl
 refine⟨fun h=>(by cases h),fun _=>⟨rfl,true,st.cell 0 rfl rfl,fun h=>(by cases h),fun _=>⟨rfl,s.code,st.cell 0 rfl rfl,fun h=> ?_,fun h=> ?_⟩⟩⟩
 ·have h:s.code=0:=by simpa using h
  refine⟨rfl,sl,st.cell 0 rfl rfl,fun h2=> ?_,fun h2=> ?_⟩
  ·have h2:=of_decide_eq_true h2
   unfold RS.end_ at k
   rw [if_pos ⟨h,fun e=>by rw [e] at hl; simp at hl; omega⟩] at k; exact k
  ·have h2:=of_decide_eq_false h2
   unfold RS.end_ at k
   rw [if_neg (fun e=>e.2 (List.eq_nil_of_length_eq_zero O_))] at k
   exact⟨rfl,s.code,st.cell 0 rfl rfl,k⟩
 ·have h:s.code≠0:=by simpa using h
  unfold RS.end_ at k
  rw [if_neg (fun e=>h e.1)] at k
  exact⟨fun h=>(by cases h),fun _=>⟨rfl,s.code,st.cell 0 rfl rfl,k⟩⟩
theorem s_eb {next:Value} {R:Bool→WP} (st:St w0 (bs++fr) w) (o:RdO r s bs) (k0:s.code≠0→R false w)
    (k1:s.code=0→∀ sl:Slc,(∀ fr2 w',St w0 (bs++fr2) w'→zh w' sl 1 (s.rest.map bV))→sl.len=s.rest.length→sl.len≤sl.cap→zU (P:=Tryz.prog) next #[Vs sl] w (fun e' w2=>∃(n e:Int),e'=Ending.returned (Value.tuple #[Vi n,Vi e]) ∧
     ∃ fr',St w0 (bs++fr') w2∧(e≠0→∀ bs' w3,RdO r ⟨s.rest,e⟩ bs'→St w0 (bs'++fr') w3→R false w3) ∧
      (e=0→0≤n∧n≤(s.rest.length:Int)∧∀ bs' w3,RdO r ⟨s.rest.drop n.toNat,0⟩ bs'→St w0 (bs'++fr') w3→R true w3))):C_9 r next w R:=by
 apply S_gc
 obtain⟨b,sl,rb,rfl,ro,rfl⟩:=o
 have hl:=ro.len
 rw [List.length_map,Nat.mul_one] at hl
 refine⟨fun h=>(by cases h),fun _=>⟨rfl,true,st.cell 0 rfl rfl,fun h=>(by cases h),fun _=>⟨rfl,s.code,st.cell 0 rfl rfl,fun h=>k0 (by simpa using h),fun h=> ?_⟩⟩⟩
 have h:s.code=0:=by simpa using h
 refine⟨rfl,sl,st.cell 0 rfl rfl,zU.mono (k1 h sl (fun fr2 w' st'=>ro.src st'.drop1) hl.symm ro.cap_le) ?_⟩
 rintro e' w2 ⟨n,e,rfl,fr',st2,kE,kO⟩
 refine⟨n,e,rfl,fun he=> ?_,fun he=> ?_⟩
 ·have he:e≠0:=by simpa using he
  exact⟨rfl,st2.writable 0 rfl (by simp [poff]),fun w3 hw3=>kE he _ _ ⟨b,sl,rb,rfl,ro,rfl⟩ (st2.put0 (o:=2) hw3)⟩
 ·have he:e=0:=by simpa using he
  obtain⟨hn0,hn1,kO⟩:=kO he
  intro w4 e4
  have st4:=st2.drew e4
  refine⟨rfl,sl,st4.cell 0 rfl rfl,rfl,sl,st4.cell 0 rfl rfl,rfl,sl,st4.cell 0 rfl rfl,⟨hn0,O_,O_,by have:=ro.cap_le; omega⟩,?_⟩
  intro sc hsc
  refine⟨rfl,st4.writable 0 rfl (by simp [poff]),fun w5 hw5=>kO _ _ ⟨b,sc,rb,rfl,?_,rfl⟩ ?_⟩
  ·have hc:=ro.cut hn0 (show n≤((sl.len:Nat):Int) by omega) O_ (Int.le_refl _) (by have:=ro.cap_le; omega)
   rw [←hsc,Nat.mul_one,Nat.mul_one,Int.toNat_natCast] at hc
   rw [List.take_of_length_le (by simp; omega),←List.map_drop] at hc
   exact hc
  ·have:=st4.put0 (o:=1) hw5
   rw [h] at this
   exact this
def varR (s:RS):RS×Nat :=
 if s.code≠0 then(s,0) else if(shF s.rest).2.2≠0 then(⟨s.rest,(shF s.rest).2.2⟩,0) else(⟨s.rest.drop (shF s.rest).2.1,0⟩,(shF s.rest).1)
/-- A local that a method's own function has filled is read at the end. -/
theorem zid {α:Type} {b:Nat} {f:α→Value} {x:α} {w3:World} {bs':List zf} {R:α→WP} (st:St w0 (bs'++((b,[f x])::fr)) w3) (k:∀ w',St w0 (bs'++fr) w'→R x w') :
    ∃ v,w3.cell? ⟨b,0,none⟩=some (f v)∧(zd w3 b 0 1∧(∀ w4,w4=World.puts b 0 [f v] w3→(∃ res,ze w4 b 0 [f res]∧(R res w4)))):=by
 have st1:=st.unmid
 refine⟨x,st1.cell 0 rfl rfl,st1.writable 0 rfl (by simp),fun w4 hw4=> ?_⟩
 have st2:=st1.put0 hw4
 exact⟨x,⟨st2.cell 0 rfl rfl,trivial⟩,k _ st2.drop1⟩
theorem s_z {R:Int→WP} (st:St w0 (bs++fr) w) (o:RdO r s bs)
    (k:∀ bs' w',RdO r (varR s).1 bs'→St w0 (bs'++fr) w'→R ((varR s).2:Int) w'):C_8b r w R:=by
 apply S_nc
 intro b w1 hb hw
 have st1:St w0 (bs++((b,[Value.int .u64 0])::fr)) w1:=(st.alloc hb hw).mid
 obtain⟨hb1,hb2,hb3⟩:=zMf s.rest
 refine s_eb st1 o (fun hc=> ?_) (fun hc sl hs hlen _=> ?_)
 ·refine zid (f:=fun x:Int=>Value.int .u64 x) st1 fun w' st'=> ?_
  have:=k bs w'
  unfold varR at this
  rw [if_pos hc] at this
  exact this o st'
 ·refine zU.mk (all:=#[Vs sl,Vp (some ⟨b,0,none⟩)]) K_ rfl ?_
  refine S_2b (b_:=sl) (t1:=some ⟨b,0,none⟩) ?_
  refine s_8b (hs _ _ st1) ⟨rfl,st1.unmid.writable 0 rfl (by simp [poff]),fun w2 hw2=> ?_⟩
  have st2:St w0 (bs++((b,[Value.int .u64 ((shF s.rest).1:Int)])::fr)) w2:=(st1.unmid.put0 hw2).mid
  refine⟨_,st2,fun he bs' w3 o' st3=> ?_,fun he=>⟨O_,O_,fun bs' w3 o' st3=> ?_⟩⟩
  ·refine zid (f:=fun x:Int=>Value.int .u64 x) st3 fun w' st'=> ?_
   have:=k bs' w'
   unfold varR at this
   rw [if_neg O_,if_pos he] at this
   have hz:(shF s.rest).1=0:=O_
   rw [hz]
   exact this o' st'
  ·refine zid (f:=fun x:Int=>Value.int .u64 x) st3 fun w' st'=> ?_
   have:=k bs' w'
   unfold varR at this
   rw [if_neg O_,if_neg O_] at this
   rw [Int.toNat_natCast] at o'
   exact this o' st'
theorem z2l (s:RS):(varR s).2<2 ^ 64:=by
 unfold varR
 split
 ·show 0<2 ^ 64; decide
 ·split
  ·show 0<2 ^ 64; decide
  ·exact(zMf s.rest).1
/-! #### Fixed -/
def leV:List UInt8→Nat
 | []=>0
 | c::r=>c.toNat+256*leV r
theorem zMg:∀ l,leV l<256 ^ l.length
 | []=>by simp [leV]
 | c::r=>by
  have h:=zMg r
  have hb:=c.toNat_lt
  rw [leV,List.length_cons,Nat.pow_succ]
  omega
def fixR (width:Int) (s:RS):RS×Nat :=
 if s.code≠0 then(s,0) else if width<1∨width>8 then(⟨s.rest,1⟩,0) else if width>(s.rest.length:Int) then(⟨s.rest,5⟩,0)
 else(⟨s.rest.drop width.toNat,0⟩,leV (s.rest.take width.toNat))
theorem s_2 {width:Int} {R:Int→WP} (st:St w0 (bs++fr) w) (o:RdO r s bs)
    (k:∀ bs' w',RdO r (fixR width s).1 bs'→St w0 (bs'++fr) w'→R ((fixR width s).2:Int) w'):C_ic r width w R:=by
 apply S_1b
 intro b w1 hb hw b1 w2 hb1 hw1
 have st1:St w0 (bs++((b1,[Value.int .u64 0])::(b,[Vi width])::fr)) w2:=((st.alloc hb hw).alloc hb1 hw1).perm (((List.perm_middle.symm).cons _).trans (List.perm_middle.symm))
 have fin:∀ {v:Nat} {bs':List zf} {w3:World},St w0 (bs'++((b1,[Value.int .u64 (v:Int)])::(b,[Vi width])::fr)) w3→(∀ w',St w0 (bs'++fr) w'→R (v:Int) w') →
     ∃ v:Int,w3.cell? ⟨b1,0,none⟩=some (Value.int .u64 v)∧(zd w3 b1 0 1∧(∀ w4,w4=World.puts b1 0 [Value.int .u64 v] w3→(∃ res:Int,ze w4 b1 0 [Value.int .u64 res]∧(R res w4)))):=fun st k =>
  zid (f:=fun x:Int=>Value.int .u64 x) st fun w' st'=>k _ st'.unmid.drop1
 refine s_eb st1 o (fun hc=> ?_) (fun hc sl hs hlen _=> ?_)
 ·refine fin (v:=0) st1 fun w' st'=> ?_
  have:=k bs w'
  unfold fixR at this
  rw [if_pos hc] at this
  exact this o st'
 ·unfold fixR at k
  rw [if_neg O_] at k
  refine zU.mk (all:=#[Vs sl,Vp (some ⟨b,0,none⟩),Vp (some ⟨b1,0,none⟩)]) K_ rfl ?_
  refine S_Rb (b_:=sl) (t1:=some ⟨b,0,none⟩) (t2:=some ⟨b1,0,none⟩) ?_
  unfold F_Qd
  have cb:∀ {v:Value} {w':World},St w0 (bs++((b1,[v])::(b,[Vi width])::fr)) w'→w'.cell? ⟨b,0,none⟩=some (Vi width):=fun st'=>(st'.unmid).drop1.unmid.cell 0 rfl rfl
  refine⟨rfl,width,cb st1,fun h=> ?_,fun h=>⟨width,cb st1,?_⟩⟩
  ·have h:=of_decide_eq_true h
   rw [if_pos O_] at k
   unfold F_l
   exact⟨fun _=>⟨_,st1,fun _ bs' w3 o' st3=>fin (v:=0) st3 fun w' st'=>k bs' w' o' st',fun he=>absurd he D_⟩,fun hh=>(by cases hh)⟩
  have h:=of_decide_eq_false h
  by_cases h2:width>8
  ·rw [if_pos O_] at k
   unfold F_l
   exact⟨fun _=>⟨_,st1,fun _ bs' w3 o' st3=>fin (v:=0) st3 fun w' st'=>k bs' w' o' st',fun he=>absurd he D_⟩,fun hh=>absurd h2 (of_decide_eq_false hh)⟩
  rw [if_neg O_] at k
  unfold F_l
  refine⟨fun hh=>absurd (of_decide_eq_true hh) h2,fun _=>⟨rfl,width,cb st1,fun h3=> ?_,fun h3=> ?_⟩⟩
  ·have h3:=of_decide_eq_true h3
   rw [if_pos O_] at k
   exact⟨_,st1,fun _ bs' w3 o' st3=>fin (v:=0) st3 fun w' st'=>k bs' w' o' st',fun he=>absurd he D_⟩
  have h3:=of_decide_eq_false h3
  rw [if_neg O_] at k
  obtain⟨W,rfl⟩:=toN (show 0≤width by omega)
  rw [Int.toNat_natCast] at k
  have w1':IntKind.i64.wrap ((W:Int) - 1)=(W:Int) - 1:=i64_in _ O_ O_
  refine⟨rfl,(W:Int),cb st1,?_⟩
  rw [w1']
  refine⟨fun i w'=>∃(j:Nat),i=(j:Int) - 1∧j≤W∧St w0 (bs++((b1,[Value.int .u64 ((leV ((s.rest.take W).drop j):Nat):Int)])::(b,[Vi (W:Int)])::fr)) w',fun i _=>(i+1).toNat,
   ⟨W,rfl,Nat.le_refl _,by rw [List.drop_of_length_le (by rw [List.length_take]; omega)]; exact st1⟩,?_⟩
  rintro i w3 ⟨j,rfl,hj,st3⟩
  unfold F_6b
  refine⟨fun hi=> ?_,fun hi=> ?_⟩
  ·have hi:=of_decide_eq_true hi
   obtain⟨j,rfl⟩:=Nat.exists_eq_succ_of_ne_zero (show j≠0 by omega)
   intro w4 e4
   have st4:=st3.drew e4
   have hji:((j.succ:Nat):Int) - 1=(j:Int):=O_
   rw [hji]
   obtain⟨a,c,hc',hcell⟩:IsAt sl.ptr∧∃ x,s.rest[(j:Int).toNat]? =some x∧w4.cell? ⟨pblk sl.ptr,poff sl.ptr+(j:Int).toNat,none⟩=some (bV x):=by
    exact(hs _ _ st4).get O_ O_
   rw [Int.toNat_natCast] at hc'
   have hb':=c.toNat_lt
   refine⟨rfl,_,st4.unmid.cell 0 rfl rfl,a,O_,O_,_,hcell,st4.unmid.writable 0 rfl (by simp [poff]),fun w5 hw5=> ?_⟩
   have hd:(s.rest.take W).drop j=c::(s.rest.take W).drop (j+1):=zyd (by rw [List.getElem?_take,if_pos O_]; exact hc')
   have hlt:=zMg ((s.rest.take W).drop (j+1))
   have hlen2:((s.rest.take W).drop (j+1)).length≤7:=by rw [List.length_drop,List.length_take]; omega
   have h56:(256:Nat) ^ ((s.rest.take W).drop (j+1)).length≤256 ^ 7:=Nat.pow_le_pow_right O_ hlen2
   have h567:(256:Nat) ^ 7=72057594037927936:=D_
   have hv:bor .u64 (IntKind.u64.wrap (((leV ((s.rest.take W).drop (j+1)):Nat):Int)*2 ^ 8)) (IntKind.u64.wrap (c.toNat:Int))=((leV ((s.rest.take W).drop j):Nat):Int):=by
    rw [shl_nat,zX _ O_ O_,zX (c.toNat:Int) O_ O_,zOe rfl (by show _<2 ^ 64; omega) (by show _<2 ^ 64; omega),Nat.or_comm,zcj O_,hd,leV]
    congr 1
    omega
   have hv':=hv
   rw [show(j+1)=j.succ from rfl] at hv'
   rw [hv'] at hw5
   have wj:IntKind.i64.wrap ((j:Int) - 1)=(j:Int) - 1:=i64_in _ O_ O_
   rw [wj]
   exact⟨⟨j,rfl,O_,(st4.unmid.put0 hw5).mid⟩,by show Int.toNat _<Int.toNat _; omega⟩
  ·have hi:=of_decide_eq_false hi
   obtain rfl:j=0:=O_
   rw [List.drop_zero] at st3
   refine⟨rfl,_,cb st3,_,st3,fun he=>absurd rfl he,fun _=>⟨O_,O_,fun bs' w4 o' st4=>fin st4 fun w' st'=> ?_⟩⟩
   rw [Int.toNat_natCast] at o'
   exact k bs' w' o' st'
end
theorem z3h:∀(k n j:Nat),j<k→(fixB k n)[j]? =some (UInt8.ofNat (n / 256 ^ j % 256))
 | 0,n,j,h=>by omega
 | k+1,n,0,h=>by rw [fixB]; simp
 | k+1,n,j+1,h=>by
  rw [fixB,List.getElem?_cons_succ,z3h k (n / 256) j O_,Nat.div_div_eq_div_mul,Nat.pow_succ,Nat.mul_comm 256]
theorem z3l (j:Nat):(2:Nat) ^ (8*j)=256 ^ j:=by rw [Nat.pow_mul]
/-- The middle of a head: a generation, and how many bytes there are. -/
def midF (g n:Nat):List UInt8:=fixB 8 g++fixB 4 n
def hcF (g:Nat) (x:List UInt8):BitVec 32:= ~~~ crcF (~~~ (~~~ crcF (~~~ 0#32) (midF g x.length))) x
def zwc (g:Nat) (x:List UInt8):List UInt8:=fixB 4 1464880980++(midF g x.length++fixB 4 (hcF g x).toNat)
theorem zJc (g:Nat) (x:List UInt8):(zwc g x).length=20:=by
 unfold zwc midF
 simp only [List.length_append,fixB_len]
abbrev i8 (c:UInt8):Int:=(c.toNat:Int)
theorem zNf (l:List UInt8):(l.map i8).map (Value.int .u8)=l.map bV:=by rw [List.map_map]; rfl
theorem zep {n j:Nat} (h:n<2 ^ 64):IntKind.u8.wrap (Int.fdiv (n:Int) (2 ^ (8*j)))=((n / 256 ^ j % 256:Nat):Int):=by
 have e:((2:Int) ^ (8*j))=((2 ^ (8*j):Nat):Int):=by norm_cast
 rw [e,←Int.ofNat_fdiv,z3l]
 exact zKd _
section
variable {w0:Base} {w:World} {fr:List zf}
theorem s_3 {b o k n c:Nat} {A B C:List Value} {R:WP} (st:St w0 ((b,A++(B++C))::fr) w) (hA:A.length=o) (hB:B.length=k) (hk:k≤8) (hn:n<2 ^ 64)
    (kk:∀ w',St w0 ((b,A++((fixB k n).map bV++C))::fr) w'→R w'):C_9b ⟨some ⟨b,o,none⟩,k,c⟩ (n:Int) w R:=by
 apply S_Nc
 refine⟨fun i w'=>∃ j:Nat,i=(j:Int)∧j≤k∧St w0 ((b,A++(((fixB k n).take j).map bV++(B.drop j++C)))::fr) w',fun i _=>k - i.toNat,⟨0,rfl,O_,by simpa using st⟩,?_⟩
 clear st
 rintro i w1 ⟨j,rfl,hj,st⟩
 unfold F_ze
 have hfl:=fixB_len k n
 have htl:((fixB k n).take j).length=j:=by rw [List.length_take]; omega
 refine⟨fun hi=> ?_,fun hi=> ?_⟩
 rotate_left
 ·have hi:¬ ((j:Int)<((k:Nat):Int)):=of_decide_eq_false hi
  rw [List.take_of_length_le O_,List.drop_eq_nil_of_le O_,List.nil_append] at st
  exact kk w1 st
 have hi:(j:Int)<((k:Nat):Int):=of_decide_eq_true hi
 have w8:IntKind.i64.wrap (8*(j:Int))=((8*j:Nat):Int):=by rw [i64_in _ O_ O_]; omega
 have wj:IntKind.i64.wrap ((j:Int)+1)=((j+1:Nat):Int):=by rw [i64_in _ O_ O_]; omega
 rw [w8,wj]
 refine⟨O_,rfl,O_,hi,st.writable 0 rfl ?_,fun w2 hw2=> ?_⟩
 ·show o+((j:Nat):Int).toNat+1≤_
  rw [Int.toNat_natCast]
  simp only [List.length_append,List.length_map,List.length_drop,htl]
  omega
 rw [Int.toNat_natCast,Int.toNat_natCast,show min (8*j) 64=8*j from by omega,zep hn] at hw2
 have st2:=st.put0 hw2
 rw [ztb] at st2
 have hx:j<B.length:=O_
 have hset:(A++(((fixB k n).take j).map bV++(B.drop j++C))).set (o+j) (Value.int .u8 ((n / 256 ^ j % 256:Nat):Int))=A++(((fixB k n).take (j+1)).map bV++(B.drop (j+1)++C)):=by
  rw [List.set_append_right _ _ O_,show o+j - A.length=j from by omega,List.set_append_right _ _ (by rw [List.length_map]; omega),List.length_map,htl,Nat.sub_self,List.drop_eq_getElem_cons hx,List.cons_append,List.set_cons_zero,
   List.take_add_one,z3h k n j O_,List.map_append]
  simp only [Option.toList_some,List.map_cons,List.map_nil,List.append_assoc,List.cons_append,List.nil_append]
  rw [z0c O_]
 have st2:St w0 ((b,(A++(((fixB k n).take j).map bV++(B.drop j++C))).set (o+j) (Value.int .u8 ((n / 256 ^ j % 256:Nat):Int)))::fr) w2:=st2
 rw [hset] at st2
 exact⟨⟨j+1,rfl,O_,st2⟩,by show _ - _<_ - _; omega⟩
theorem s_Nd {b:Nat} {A C:List Value} {m:List UInt8} {x:Slc} {xs:List UInt8} {R:Int→WP} (st:St w0 ((b,A++(m.map bV++C))::fr) w) (hA:A.length=4) (hm:m.length=12) (hs:zh w x 1 (xs.map bV)) (hl:x.len≤4611686018427387904)
    (k:∀ w',Ext w w'→R (U (~~~ crcF (~~~ (~~~ crcF (~~~ 0#32) m)) xs)) w'):C_Ac (some ⟨b,0,none⟩) x w R:=by
 apply S_xc
 unfold F_Fe
 refine⟨rfl,s_7c (l:=m) ⟨by rw [List.length_map,hm]; rfl,.inr ⟨rfl,(st.get 0 rfl).cells fun i v hi=> ?_⟩⟩ (by show 12≤_; omega) fun w1 e1=>s_N (e1.src hs) hl fun w2 e2=>k w2 (e1.trans e2)⟩
 have hil:=(List.getElem?_eq_some_iff.1 hi).1
 show(A++(m.map bV++C))[0+4+i]? =some v
 rw [List.getElem?_append_right O_,show 0+4+i - A.length=i from by omega,List.getElem?_append_left hil]
 exact hi
theorem s_pb {g:Nat} {x:Slc} {xs:List UInt8} {R:List Int→WP} (hs:zh w x 1 (xs.map bV)) (hg:g<2 ^ 64) (hl:xs.length<4294967296)
    (k:∀ w',Ext w w'→R ((zwc g xs).map i8) w'):C_bc (g:Int) x w R:=by
 apply S_Dc
 unfold F_Xe
 intro b w1 hb hw1
 have hxl:x.len=xs.length:=hs.len_eq
 have z:∀ n:Nat,((List.replicate n (0:Int)).map (Value.int .u8))=List.replicate n (Value.int .u8 0):=fun n=>List.map_replicate ..
 have st1:St ⟨w,[]⟩ [(b,(List.replicate 20 (0:Int)).map (Value.int .u8))] w1:=(St.start w).alloc hb hw1
 rw [z] at st1
 have r4:∀ a c:Nat,List.replicate (a+c) (Value.int .u8 0)=List.replicate a (Value.int .u8 0)++List.replicate c (Value.int .u8 0):=fun a c=>List.replicate_append_replicate.symm
 have st1:St ⟨w,[]⟩ [(b,[]++(List.replicate 4 (Value.int .u8 0)++List.replicate 16 (Value.int .u8 0)))] w1:=st1
 refine s_3 (n:=1464880980) st1 rfl (List.length_replicate ..) O_ D_ fun w2 st2=> ?_
 have st2:St ⟨w,[]⟩ [(b,(fixB 4 1464880980).map bV++(List.replicate 8 (Value.int .u8 0)++List.replicate 8 (Value.int .u8 0)))] w2:=by
  rw [←r4]; exact st2
 have hl4:((fixB 4 1464880980).map bV).length=4:=by rw [List.length_map,fixB_len]
 refine s_3 (n:=g) st2 hl4 (List.length_replicate ..) O_ hg fun w3 st3=> ?_
 have st3:St ⟨w,[]⟩ [(b,((fixB 4 1464880980).map bV++(fixB 8 g).map bV)++(List.replicate 4 (Value.int .u8 0)++List.replicate 4 (Value.int .u8 0)))] w3:=by
  rw [←r4,List.append_assoc]; exact st3
 have hl8:((fixB 8 g).map bV).length=8:=by rw [List.length_map,fixB_len]
 rw [show IntKind.u64.wrap (IntKind.u32.wrap ((x.len:Nat):Int))=((xs.length:Nat):Int) from by rw [hxl,zRf _ O_ O_,zX _ O_ O_]]
 refine s_3 (n:=xs.length) st3 (by rw [List.length_append,hl4,hl8]) (List.length_replicate ..) O_ O_ fun w4 st4 w5 hd5=> ?_
 have st5:=st4.drew hd5
 have st5:St ⟨w,[]⟩ [(b,(fixB 4 1464880980).map bV++((midF g xs.length).map bV++List.replicate 4 (Value.int .u8 0)))] w5:=by
  unfold midF
  rw [List.map_append,List.append_assoc,←List.append_assoc ((fixB 4 1464880980).map bV)]
  exact st5
 have hml:(midF g xs.length).length=12:=by unfold midF; rw [List.length_append,fixB_len,fixB_len]
 refine s_Nd st5 hl4 hml (st5.ext.src hs) O_ fun w6 e6=> ?_
 have st6:=st5.keep e6
 have hc:(hcF g xs).toNat<4294967296:=(hcF g xs).isLt
 show C_9b _ (IntKind.u64.wrap (U (hcF g xs))) _ _
 rw [show IntKind.u64.wrap (U (hcF g xs))=(((hcF g xs).toNat:Nat):Int) from zX (((hcF g xs).toNat:Nat):Int) O_ O_]
 have st6:St ⟨w,[]⟩ [(b,((fixB 4 1464880980).map bV++(midF g xs.length).map bV)++(List.replicate 4 (Value.int .u8 0)++[]))] w6:=by
  rw [List.append_nil,List.append_assoc]; exact st6
 refine s_3 (n:=(hcF g xs).toNat) st6 (by rw [List.length_append,hl4,List.length_map,hml]) (List.length_replicate ..) O_ O_ fun w7 st7=> ?_
 have e7:((fixB 4 1464880980).map bV++(midF g xs.length).map bV)++((fixB 4 (hcF g xs).toNat).map bV++[])=((zwc g xs).map i8).map (Value.int .u8):=by
  rw [zNf,List.append_nil]
  unfold zwc
  rw [List.map_append,List.map_append,List.append_assoc]
 rw [e7] at st7
 have hl20:((zwc g xs).map i8).length=20:=by rw [List.length_map,zJc]
 refine⟨(zwc g xs).map i8,hl20,(st7.get 0 rfl).all,st7.writable 0 rfl (by rw [List.length_map,hl20]; omega),fun w8 hw8=> ?_⟩
 have st8:=st7.put0 hw8
 have e8:∀ l:List Value,putL 0 l l=l:=fun l=>by
  have:=zhb [] l [] l rfl
  simpa using this
 rw [e8] at st8
 exact⟨(zwc g xs).map i8,hl20,(st8.get 0 rfl).all,k w8 st8.ext⟩
end
/-- What was made since a later world, beside what was there. -/
theorem St.join {w0:Base} {w1 w2:World} {a l:List zf} (h:St w0 l w1) (h2:St ⟨w1,[]⟩ a w2):St w0 (a++l) w2:=by
 have h':=h.keep h2.ext
 have hs:=h.ext.size
 refine⟨h'.ext,fun p hp=> ?_,fun p hp=> ?_,?_,h'.mps⟩
 ·rcases List.mem_append.1 hp with hp | hp
  ·exact h2.blk p hp
  ·exact h'.blk p hp
 ·rcases List.mem_append.1 hp with hp | hp
  ·have h3:w1.heap.size≤p.1:=h2.own p hp
   omega
  ·exact h'.own p hp
 ·rw [List.map_append,List.nodup_append]
  refine⟨h2.nodup,h.nodup,fun x hx y hy e=> ?_⟩
  obtain⟨p,hp,rfl⟩:=List.mem_map.1 hx
  obtain⟨q,hq,rfl⟩:=List.mem_map.1 hy
  have h1:w1.heap.size≤p.1:=h2.own p hp
  have h3:=(h.blk q hq).lt
  omega
/-- A plain block: nothing of it is frozen. -/
def zdj (w:World) (b:Nat):Prop:=∀ o,w.frozen? ⟨b,o,none⟩=false
theorem zdj.new {w w1:World} {b:Nat} {vs:List Value} {T:TypeId} (hb:b=w.heap.size) (hw:w1=w.alloc (.cells vs.toArray T (0,0))):zdj w1 b:=by
 intro o
 subst hb; subst hw
 unfold World.frozen? World.alloc
 simp
theorem zdj.ext {w w1:World} {b:Nat} (h:zdj w b) (e:Ext w w1) (hb:b<w.heap.size):zdj w1 b:=by
 intro o
 have:=h o
 unfold World.frozen? at this ⊢
 have e5:=e.block b hb
 simp only at this ⊢
 rw [e5]
 exact this
theorem zY {w w1:World} {b:Nat} {T:TypeId} {vs:List Value} {n c sz:Nat} (hb:b=w.heap.size) (hw:w1=w.alloc (.cells vs.toArray T (0,0))) (hn:vs.length=n*sz) :
    zh w1 ⟨some ⟨b,0,none⟩,n,c⟩ sz vs:=⟨hn,.inr ⟨rfl,(Blk.new hb hw).all⟩⟩
section
variable {sz:Nat} {s:Slc} {xs:List Value} {bs l:List zf} {w0:Base} {w:World}
end
theorem zc {l l':List zf} (h:∀ f:zf→Nat,(l.map f).sum=(l'.map f).sum):l.Perm l':=by
 classical
 refine List.perm_iff_count.2 fun a=> ?_
 have key:∀ l:List zf,List.count a l=(l.map fun x=>if x=a then 1 else 0).sum:=fun l=>by
  induction l with
  | nil=>rfl
  | cons x l ih =>
   rw [List.count_cons,ih,List.map_cons,List.sum_cons]
   by_cases hx:x=a
   ·simp [hx]; omega
   ·simp [hx]
 rw [key,key]
 exact h _
theorem St.weak {w0:Base} {w:World} {l l':List zf} (h:St w0 l w) (r:List zf) (p:l.Perm (r++l')):St w0 l' w:=(h.perm p).drop
theorem St.pq {w0:Base} {w:World} {l l':List zf} (h:St w0 l w)(p:∀ f:zf→Nat,(l.map f).sum=(l'.map f).sum:=by intro f_; simp <;> omega):St w0 l' w:=h.perm (zc p)
theorem St.wq {w0:Base} {w:World} {l l':List zf} (h:St w0 l w)(r:List zf)(p:∀ f:zf→Nat,(l.map f).sum=((r++l').map f).sum:=by intro f_; simp <;> omega):St w0 l' w:=h.weak r (zc p)
/-- What was made since by a call that began anew. -/
theorem St.more {w0:Base} {w1 w2:World} {a l:List zf} (h:St w0 l w1) (h2:St ⟨w1,[]⟩ a w2):St w0 (a++l) w2:=h.join h2
/-- Each thing's row, and the memory of all of them. -/
def zXb {α σ:Type} (In:α→σ→List zf→Prop):List α→List σ→List zf→Prop
 | [],[],cs=>cs=[]
 | x::xs,s::sls,cs=>∃ c cs',cs=c++cs'∧In x s c∧zXb In xs sls cs'
 | _,_,_=>False
namespace zXb
variable {α σ:Type} {In:α→σ→List zf→Prop}
theorem nil:zXb In [] [] []:=rfl
theorem len:∀ {xs:List α} {sls:List σ} {cs:List zf},zXb In xs sls cs→sls.length=xs.length
 | [],[],_,_=>rfl
 | [],_::_,_,h=>h.elim
 | _::_,[],_,h=>h.elim
 | x::xs,s::sls,_,⟨_,_,_,_,h⟩=>by rw [List.length_cons,List.length_cons,len h]
theorem snoc:∀ {xs:List α} {sls:List σ} {cs:List zf} {x:α} {s:σ} {c:List zf},zXb In xs sls cs→In x s c→zXb In (xs++[x]) (sls++[s]) (cs++c)
 | [],[],cs,x,s,c,h,hi=>⟨c,[],by rw [show cs=[] from h]; simp,hi,rfl⟩
 | [],_::_,_,_,_,_,h,_=>h.elim
 | _::_,[],_,_,_,_,h,_=>h.elim
 | y::xs,t::sls,cs,x,s,c,⟨c1,cs1,e,h1,h2⟩,hi=>⟨c1,cs1++c,by rw [e,List.append_assoc],h1,snoc h2 hi⟩
theorem mono {In':α→σ→List zf→Prop} (f:∀ x s c,In x s c→In' x s c):∀ {xs:List α} {sls:List σ} {cs:List zf},zXb In xs sls cs→zXb In' xs sls cs
 | [],[],_,h=>h
 | [],_::_,_,h=>h.elim
 | _::_,[],_,h=>h.elim
 | _::_,_::_,_,⟨c,cs',e,h1,h2⟩=>⟨c,cs',e,f _ _ _ h1,mono f h2⟩
/-- One of them, and the others' memory. -/
theorem at_:∀ {xs:List α} {sls:List σ} {cs:List zf} {i:Nat} {x:α} {s:σ},zXb In xs sls cs→xs[i]? =some x→sls[i]? =some s→∃ a c b,cs=a++(c++b)∧In x s c
 | [],_,_,i,x,s,_,h1,_=>by simp at h1
 | _::_,[],_,_,_,_,h,_,_=>h.elim
 | y::xs,t::sls,cs,0,x,s,⟨c,cs',e,h1,h2⟩,g1,g2=>by
  simp only [List.getElem?_cons_zero,Option.some.injEq] at g1 g2
  subst g1 g2
  exact⟨[],c,cs',e,h1⟩
 | y::xs,t::sls,cs,i+1,x,s,⟨c,cs',e,h1,h2⟩,g1,g2=>by
  simp only [List.getElem?_cons_succ] at g1 g2
  obtain⟨a,c2,b,e2,h⟩:=at_ h2 g1 g2
  exact⟨c++a,c2,b,by rw [e,e2,List.append_assoc],h⟩
/-- The first ones and the rest. -/
theorem cut:∀ {xs:List α} {sls:List σ} {cs:List zf} (i:Nat),zXb In xs sls cs→∃ a b,cs=a++b∧zXb In (xs.take i) (sls.take i) a∧zXb In (xs.drop i) (sls.drop i) b
 | xs,sls,cs,0,h=>⟨[],cs,rfl,by simpa using nil,by simpa using h⟩
 | [],[],cs,i+1,h=>⟨[],cs,rfl,by simpa using nil,by simpa using h⟩
 | [],_::_,_,_+1,h=>h.elim
 | _::_,[],_,_+1,h=>h.elim
 | x::xs,s::sls,cs,i+1,⟨c,cs',e,h1,h2⟩=>by
  obtain⟨a,b,e2,g1,g2⟩:=cut i h2
  exact⟨c++a,b,by rw [e,e2,List.append_assoc],⟨c,a,rfl,h1,g1⟩,g2⟩
theorem get:∀ {xs:List α} {sls:List σ} {cs:List zf} {i:Nat},zXb In xs sls cs→i<xs.length→∃ x s,xs[i]? =some x∧sls[i]? =some s:=fun {xs sls cs i} h hi=>by
 have:=h.len
 exact⟨_,_,List.getElem?_eq_getElem hi,List.getElem?_eq_getElem O_⟩
theorem cons {x:α} {s:σ} {xs:List α} {sls:List σ} {cs:List zf} (h:zXb In (x::xs) (s::sls) cs):∃ c cs',cs=c++cs'∧In x s c∧zXb In xs sls cs':=h
end zXb
/-- A copy, with a mark behind it, in a row of one's own. -/
def TwG {α:Type} (sz:Nat) (f:α→List Value) (sp:α) (t:Slc) (xs:List α) (rb:List zf):Prop :=
 ∃ p c,t=⟨p,xs.length,c⟩∧RowC sz ⟨p,xs.length+1,c⟩ ((xs++[sp]).flatMap f) rb
/-- .. as it lies in memory. -/
structure z2e {α:Type} (w:World) (sz:Nat) (f:α→List Value) (sp:α) (t:Slc) (xs:List α):Prop where
 src:zh w ⟨t.ptr,xs.length+1,t.cap⟩ sz ((xs++[sp]).flatMap f)
 len:t.len=xs.length
 cap:t.len<t.cap
section
variable {α:Type} {sz:Nat} {f:α→List Value} {sp:α} {t:Slc} {xs:List α} {w0:Base} {w:World} {fr rb:List zf}
theorem TwG.at_ (h:TwG sz f sp t xs rb) (st:St w0 (rb++fr) w):z2e w sz f sp t xs:=by
 obtain⟨p,c,rfl,r⟩:=h
 exact⟨r.src st,rfl,r.cap_le⟩
theorem z2e.ext {w':World} (h:z2e w sz f sp t xs) (e:Ext w w'):z2e w' sz f sp t xs:=⟨e.src h.src,h.len,h.cap⟩
theorem z2e.get (h:z2e w sz f sp t xs) (hf:∀ x,(f x).length=sz) (hz:0<sz) {i:Nat} (hi:i<xs.length+1) :
    IsAt t.ptr∧∃ x,(xs++[sp])[i]? =some x∧ze w (pblk t.ptr) (poff t.ptr+i*sz) (f x):=by
 obtain⟨a,x,hx,hc⟩:=zh.getN h.src hf hz (i:=(i:Int)) O_ (by show(i:Int)<((xs.length+1:Nat):Int); omega)
 rw [Int.toNat_natCast] at hx hc
 exact⟨a,x,hx,hc⟩
theorem TwG.row (hf:∀ x,(f x).length=sz) (h:TwG sz f sp t xs rb):RowC sz t (xs.flatMap f) rb:=by
 obtain⟨p,c,rfl,r⟩:=h
 have hl:=r.len
 have hc:=r.cap_le
 have:=r.cut (lo:=0) (hi:=(xs.length:Int)) (mx:=(c:Int)) O_ O_ (by show(xs.length:Int)≤((xs.length+1:Nat):Int); omega) (by have:xs.length+1≤c:=hc; omega) (by show(c:Int)≤(c:Int); omega)
 have e:Slc.cut sz ⟨p,xs.length+1,c⟩ 0 (xs.length:Int) (c:Int)=⟨p,xs.length,c⟩:=by
  unfold Slc.cut
  simp only [Int.toNat_natCast,Int.toNat_zero,Nat.sub_zero,Nat.zero_mul]
  have hc0:c≠0:=by have:xs.length+1≤c:=hc; omega
  rcases r with ⟨hp,hl2,_⟩ | ⟨b,pre,rest,suf,hp,_⟩
  ·exact absurd hl2 (by show xs.length+1≠0; omega)
  ·rw [if_neg hc0]
   have hp:p=some ⟨b,pre.length,none⟩:=hp
   rw [hp]; rfl
 rw [e] at this
 simp only [Int.toNat_natCast,Int.toNat_zero,Nat.sub_zero,Nat.zero_mul,List.drop_zero] at this
 rw [List.flatMap_append,List.take_left' (zq hf xs)] at this
 exact this
end
theorem zej (a:ByteArray):(a==a)=true:=by
 cases a
 rename_i x
 show(x==x)=true
 simp
abbrev verT (v:T_c):List Value:=[Vi v.Number,Value.string v.Val,Vo v.Drop]
abbrev hldT (h:ByteArray×Slc):List Value:=[Value.string h.1,Vs h.2]
abbrev spV:T_c:=⟨7777,ByteArray.empty,false⟩
abbrev spH:ByteArray×Slc:=(ByteArray.mk #[115,112,97,114,101],⟨none,0,0⟩)
section
variable {w0:Base} {w:World} {fr rb:List zf}
end
section
variable {w0:Base} {w:World} {fr rb:List zf}
theorem s_8c {s:Slc} {xs:List T_c} {R:Slc→WP} (st:St w0 fr w) (hs:zh w0.w s 3 (xs.flatMap verT)) (hl:s.len*32≤140737488351232)
    (k:∀ t rb w',TwG 3 verT spV t xs rb→St w0 (rb++fr) w'→R t w'):C_yb s w R:=by
 apply S_3
 unfold F_0c
 have hlen:s.len=xs.length:=by
  have:=hs.1
  rw [zq (sz:=3) (fun _=>rfl)] at this
  omega
 have hw1:IntKind.i64.wrap (((s.len:Nat):Int)+1)=((s.len+1:Nat):Int):=by rw [i64_in _ O_ O_]; omega
 rw [hw1,Int.toNat_natCast]
 refine⟨O_,O_,O_,fun b w1 hb hw=> ?_⟩
 have st1:=st.alloc (cs:=(zJ (s.len+1) [Vi 0,Value.string ByteArray.empty,Vo false]).toList) hb (by simpa using hw)
 have r1:RowC 3 ⟨some ⟨b,0,none⟩,0,s.len+1⟩ [] [(b,(zJ (s.len+1) [Vi 0,Value.string ByteArray.empty,Vo false]).toList)]:= .inr ⟨b,[],(zJ (s.len+1) [Vi 0,Value.string ByteArray.empty,Vo false]).toList,[],rfl,by simp,rfl,by simp [zJ,List.length_flatten],by show 0≤_; omega⟩
 refine⟨fun t i w'=>∃(p:Nat) (rb:List zf),i=(p:Int)∧p≤s.len∧RowC 3 t ((xs.take p).flatMap verT) rb∧t.len=p∧St w0 (rb++fr) w',fun t i w'=>s.len - i.toNat,⟨0,_,rfl,O_,r1,rfl,st1⟩,?_⟩
 rintro t i w2 ⟨p,rb,rfl,hp,r,ht,st⟩
 unfold F_xb
 refine⟨fun hi=> ?_,fun hi=> ?_⟩
 ·have hi:=of_decide_eq_true hi
  obtain⟨a,v,hv,hc⟩:=zh.getN (st.ext.src hs) (fun _=>rfl) D_ (i:=(p:Int)) O_ hi
  rw [Int.toNat_natCast] at hv
  have wp:IntKind.i64.wrap ((p:Int)+1)=((p+1:Nat):Int):=by rw [i64_in _ O_ O_]; omega
  refine⟨a,O_,hi,v,hc,fun b1 w3 hb1 hw3=>⟨verT v,zY hb1 hw3 rfl,?_⟩⟩
  refine r.append (st.keep (Ext.new hw3)) rfl rfl rfl (by show(t.len+1)*32≤_; omega) fun t' rb' w4 r' st' hl'=> ?_
  rw [wp]
  refine⟨⟨p+1,rb',rfl,O_,?_,O_,st'⟩,by show _ - _<_ - _; omega⟩
  rw [List.take_add_one,hv,List.flatMap_append,show(some v).toList=[v] from rfl,List.flatMap_cons,List.flatMap_nil,List.append_nil]
  exact r'
 ·have hi:=of_decide_eq_false hi
  rw [List.take_of_length_le O_] at r
  refine fun b2 w5 hb2 hw5=>⟨verT spV,zY hb2 hw5 rfl,?_⟩
  refine r.append (st.keep (Ext.new hw5)) rfl rfl rfl (by show(t.len+1)*32≤_; omega) fun t' rb' w4 r' st' hl'=> ?_
  have hc:=r'.cap_le
  refine⟨O_,O_,k _ rb' _ ⟨t'.ptr,t'.cap,by rw [Int.toNat_natCast,hlen],?_⟩ st'⟩
  have:(⟨t'.ptr,xs.length+1,t'.cap⟩:Slc)=t':=by cases t'; simp only [Slc.mk.injEq,true_and,and_true]; simp only at hl'; omega
  rw [this,List.flatMap_append,List.flatMap_cons,List.flatMap_nil,List.append_nil]; exact r'
theorem s_9c {t s:Slc} {xs:List T_c} {R:Bool→WP} (o:z2e w 3 verT spV t xs) (hs:zh w s 3 (xs.flatMap verT)) (hl:s.len*32≤140737488351232)
    (k:∀ w',Ext w w'→R true w'):C_zb t s w R:=by
 apply S_4
 unfold F_1c
 have hlen:s.len=xs.length:=by
  have:=hs.1
  rw [zq (sz:=3) (fun _=>rfl)] at this
  omega
 have htl:=o.len
 have hcp:=o.cap
 refine⟨fun h=> ?_,fun _=> ?_⟩
 ·simp only [Bool.or_eq_true,bne_iff_ne,decide_eq_true_eq] at h
  omega
 refine⟨fun i w'=>∃ p:Nat,i=(p:Int)∧p≤s.len∧Ext w w',fun i w'=>s.len - i.toNat,⟨0,rfl,O_,Ext.refl _⟩,?_⟩
 rintro i w1 ⟨p,rfl,hp,e⟩
 unfold F_yb
 refine⟨fun hi=> ?_,fun hi=> ?_⟩
 ·have hi:=of_decide_eq_true hi
  obtain⟨a1,x1,hx1,hc1⟩:=(o.ext e).get (fun _=>rfl) D_ (i:=p) O_
  obtain⟨a2,x2,hx2,hc2⟩:=zh.getN (e.src hs) (fun _=>rfl) D_ (i:=(p:Int)) O_ hi
  rw [Int.toNat_natCast] at hx2
  rw [List.getElem?_append_left O_] at hx1
  obtain rfl:x1=x2:=by rw [hx1] at hx2; exact Option.some.inj hx2
  have wp:IntKind.i64.wrap ((p:Int)+1)=((p+1:Nat):Int):=by rw [i64_in _ O_ O_]; omega
  refine⟨a1,O_,O_,x1,by rw [Int.toNat_natCast]; exact hc1,a2,O_,hi,x1,hc2,fun w2 e2=>⟨fun h=> ?_,fun _=> ?_⟩⟩
  ·simp only [zej,beq_self_eq_true,Bool.and_self,Bool.not_true] at h
   cases h
  rw [wp]
  exact⟨⟨p+1,rfl,O_,e.trans e2⟩,by show _ - _<_ - _; omega⟩
 ·have hi:=of_decide_eq_false hi
  have hw1:IntKind.i64.wrap (((s.len:Nat):Int)+1)=((s.len+1:Nat):Int):=by rw [i64_in _ O_ O_]; omega
  rw [hw1]
  obtain⟨a,v,hv,hc⟩:=(o.ext e).get (fun _=>rfl) D_ (i:=xs.length) O_
  rw [List.getElem?_append_right (Nat.le_refl _),Nat.sub_self,List.getElem?_cons_zero] at hv
  cases hv
  refine⟨O_,O_,a,O_,O_,spV,by rw [Int.toNat_natCast,hlen]; exact hc,fun b w3 hb hw=> ?_⟩
  have st:=((St.start w).keep e).alloc (cs:=[Vi 0,Value.string ByteArray.empty,Vo false]) hb hw
  refine⟨st.writable 0 rfl D_,fun w4 hw4=> ?_⟩
  have st:St ⟨w,[]⟩ ([(b,verT spV)]) w4:=st.put0 hw4
  refine⟨spV,(st.get 0 rfl).all,?_⟩
  have e2:(((spV.Number==7777)&&(spV.Val==ByteArray.empty))&&(spV.Drop==false))=true:=D_
  rw [e2]
  exact k w4 st.ext
end
/-- A key with its versions, and where these lie. -/
abbrev HO:=ByteArray×List T_c×Slc
abbrev hoT (o:HO):List Value:=hldT (o.1,o.2.2)
structure HdAt (w:World) (s:Slc) (os:List HO):Prop where
 src:zh w s 2 (os.flatMap hoT)
 ver:∀ o∈os,zh w o.2.2 3 (o.2.1.flatMap verT)∧o.2.2.len*32≤140737488351232
theorem HdAt.ext {w w':World} {s:Slc} {os:List HO} (h:HdAt w s os) (e:Ext w w'):HdAt w' s os:=⟨e.src h.src,fun o ho=>⟨e.src (h.ver o ho).1,(h.ver o ho).2⟩⟩
def InVT (o:HO) (s:Slc) (c:List zf):Prop:=TwG 3 verT spV s o.2.1 c
abbrev rowH (os:List HO) (ts:List Slc):List (ByteArray×Slc):=(os.zip ts).map fun p=>(p.1.1,p.2)
theorem zdg {os:List HO} {ts:List Slc} (h:ts.length=os.length):(rowH os ts).length=os.length:=by simp [h]
theorem zfj {os:List HO} {ts:List Slc} (h:ts.length=os.length) (o:HO) (s:Slc):rowH (os++[o]) (ts++[s])=rowH os ts++[(o.1,s)]:=by
 unfold rowH
 rw [List.zip_append h.symm,List.map_append]; rfl
theorem z4l {os:List HO} {ts:List Slc} {i:Nat} {x:ByteArray×Slc} (h:(rowH os ts)[i]? =some x):∃ o,os[i]? =some o∧ts[i]? =some x.2∧x.1=o.1:=by
 rw [List.getElem?_map,Option.map_eq_some_iff] at h
 obtain⟨q,hq,rfl⟩:=h
 obtain⟨h1,h2⟩:=List.getElem?_zip_eq_some.1 hq
 exact⟨q.1,h1,h2,rfl⟩
section
variable {w0:Base} {w:World} {fr rb:List zf}
theorem s_Ac {x:T_d} {vs:List T_c} {R:T_d→WP} (st:St w0 fr w) (hs:zh w0.w x.Versions 3 (vs.flatMap verT)) (hl:x.Versions.len*32≤140737488351232)
    (k:∀ s rb w',TwG 3 verT spV s vs rb→St w0 (rb++fr) w'→R ⟨x.Key,s⟩ w'):C_3b x w R:=by
 apply S_Lb
 unfold F_Kd
 intro b w1 hb hw b1 w2 hb1 hw1 w3 hd
 have st3:St w0 ((b1,hldT (ByteArray.empty,⟨none,0,0⟩))::(b,hldT (x.Key,x.Versions))::fr) w3:=((st.alloc (cs:=hldT (x.Key,x.Versions)) hb hw).alloc (cs:=hldT (ByteArray.empty,⟨none,0,0⟩)) hb1 hw1).drew hd
 refine⟨x.Key,st3.cell 1 rfl rfl,x.Versions,st3.cell 1 rfl rfl,?_⟩
 refine s_8c st3 hs hl fun s rb w4 o st4=> ?_
 have st4:St w0 ((b1,hldT (ByteArray.empty,⟨none,0,0⟩))::(b,hldT (x.Key,x.Versions))::(rb++fr)) w4:=st4.pq
 refine⟨st4.cell 1 rfl rfl,st4.writable 0 rfl D_,fun w5 hw5=>⟨⟨x.Key,s⟩,?_⟩⟩
 have st5:St w0 ((b1,hldT (x.Key,s))::(b,hldT (x.Key,x.Versions))::(rb++fr)) w5:=st4.put0 hw5
 exact⟨⟨st5.cell 0 rfl rfl,st5.cell 0 rfl rfl,trivial⟩,k s rb w5 o st5.drop1.drop1⟩
theorem s_Bc {t x:T_d} {vs:List T_c} {R:Bool→WP} (o:z2e w 3 verT spV t.Versions vs) (hn:t.Key=x.Key) (hs:zh w x.Versions 3 (vs.flatMap verT)) (hl:x.Versions.len*32≤140737488351232)
    (k:∀ w',Ext w w'→R true w'):C_4b t x w R:=by
 apply S_Mb
 unfold F_Ld
 intro b w1 hb hw b1 w2 hb1 hw1
 have st2:St ⟨w,[]⟩ [(b1,hldT (x.Key,x.Versions)),(b,hldT (t.Key,t.Versions))] w2:=((St.start w).alloc (cs:=hldT (t.Key,t.Versions)) hb hw).alloc (cs:=hldT (x.Key,x.Versions)) hb1 hw1
 refine⟨t.Key,st2.cell 1 rfl rfl,x.Key,st2.cell 0 rfl rfl,fun _=>⟨t.Versions,st2.cell 1 rfl rfl,x.Versions,st2.cell 0 rfl rfl,?_⟩,fun h=> ?_⟩
 ·exact s_9c (o.ext st2.ext) (st2.ext.src hs) hl fun w3 e3=>k w3 (st2.keep e3).ext
 ·rw [hn,beq_self_eq_true] at h; cases h
theorem s_Cc {s:Slc} {os:List HO} {R:Slc→WP} (st:St w0 fr w) (ha:HdAt w0.w s os) (hl:s.len*40≤140737488351232)
    (k:∀ t ts tb vb w',TwG 2 hldT spH t (rowH os ts) tb→zXb InVT os ts vb→St w0 (tb++(vb++fr)) w'→R t w'):C_Tb s w R:=by
 apply S_xb
 unfold F_wd
 have hlen:s.len=os.length:=by
  have:=ha.src.1
  rw [zq (sz:=2) (fun _=>rfl)] at this
  omega
 have hw1:IntKind.i64.wrap (((s.len:Nat):Int)+1)=((s.len+1:Nat):Int):=by rw [i64_in _ O_ O_]; omega
 rw [hw1,Int.toNat_natCast]
 refine⟨O_,O_,O_,fun b w1 hb1 hw=> ?_⟩
 have st1:=st.alloc (cs:=(zJ (s.len+1) [Value.string ByteArray.empty,Value.slice none 0 0]).toList) hb1 (by simpa using hw)
 have r1:RowC 2 ⟨some ⟨b,0,none⟩,0,s.len+1⟩ [] [(b,(zJ (s.len+1) [Value.string ByteArray.empty,Value.slice none 0 0]).toList)]:= .inr ⟨b,[],(zJ (s.len+1) [Value.string ByteArray.empty,Value.slice none 0 0]).toList,[],rfl,by simp,rfl,by simp [zJ,List.length_flatten],by show 0≤_; omega⟩
 refine⟨fun t i w'=>∃(p:Nat) (ts:List Slc) (tb vb:List zf),i=(p:Int)∧p≤s.len∧RowC 2 t ((rowH (os.take p) ts).flatMap hldT) tb∧t.len=p∧zXb InVT (os.take p) ts vb∧St w0 (tb++(vb++fr)) w',fun t i w'=>s.len - i.toNat,⟨0,[],_,[],rfl,O_,r1,rfl,by simpa using zXb.nil,st1⟩,?_⟩
 clear st st1 r1 hb1 hw
 rintro t i w2 ⟨p,ts,tb,vb,rfl,hp,r,ht,ps,st⟩
 unfold F_Ob
 have hpl:=ps.len
 refine⟨fun hi=> ?_,fun hi=> ?_⟩
 ·have hi:=of_decide_eq_true hi
  obtain⟨a,o,ho,hc⟩:=zh.getN (st.ext.src ha.src) (fun _=>rfl) D_ (i:=(p:Int)) O_ hi
  rw [Int.toNat_natCast] at ho
  obtain⟨hsv,hlv⟩:=ha.ver o (List.mem_of_getElem? ho)
  have wp:IntKind.i64.wrap ((p:Int)+1)=((p+1:Nat):Int):=by rw [i64_in _ O_ O_]; omega
  refine⟨a,O_,hi,⟨o.1,o.2.2⟩,hc,?_⟩
  refine s_Ac (x:=⟨o.1,o.2.2⟩) (vs:=o.2.1) st hsv hlv fun s2 rb w3 o3 st3 b1 w4 hb1 hw4=> ?_
  have st4:=st3.alloc (cs:=hldT (o.1,s2)) hb1 hw4
  refine⟨hldT (o.1,s2),zY hb1 hw4 rfl,?_⟩
  have st4:St w0 (tb++(rb++(vb++fr))) w4:=st4.wq [(b1,hldT (o.1,s2))]
  refine r.append st4 rfl rfl rfl (by show(t.len+1)*40≤_; omega) fun t' tb' w5 r' st' hl'=> ?_
  rw [wp]
  refine⟨⟨p+1,ts++[s2],tb',vb++rb,rfl,O_,?_,O_,?_,st'.pq⟩,by show _ - _<_ - _; omega⟩
  ·rw [List.take_add_one,ho,show(some o).toList=[o] from rfl,zfj hpl,List.flatMap_append,List.flatMap_cons,List.flatMap_nil,List.append_nil]
   exact r'
  ·rw [List.take_add_one,ho,show(some o).toList=[o] from rfl]
   exact ps.snoc o3
 ·have hi:=of_decide_eq_false hi
  rw [List.take_of_length_le O_] at r ps hpl
  have hrl:=zdg hpl
  refine fun b2 w5 hb2 hw5=>⟨hldT spH,zY hb2 hw5 rfl,?_⟩
  have st5:=st.alloc (cs:=hldT spH) hb2 hw5
  have st5:St w0 (tb++(vb++fr)) w5:=st5.drop1
  refine r.append st5 rfl rfl rfl (by show(t.len+1)*40≤_; omega) fun t' tb' w4 r' st' hl'=> ?_
  have hc:=r'.cap_le
  refine⟨O_,O_,k _ ts tb' vb _ ⟨t'.ptr,t'.cap,by rw [Int.toNat_natCast,hlen,hrl],?_⟩ ps st'⟩
  have:(⟨t'.ptr,(rowH os ts).length+1,t'.cap⟩:Slc)=t':=by rw [hrl]; cases t'; simp only [Slc.mk.injEq,true_and,and_true]; simp only at hl'; omega
  rw [this,List.flatMap_append,List.flatMap_cons,List.flatMap_nil,List.append_nil]; exact r'
theorem s_Dc {t s:Slc} {os:List HO} {ts:List Slc} {R:Bool→WP} (o:z2e w 2 hldT spH t (rowH os ts)) (hts:ts.length=os.length) (at_:∀(i:Nat) (h:HO) (s:Slc),os[i]? =some h→ts[i]? =some s→z2e w 3 verT spV s h.2.1)
    (ha:HdAt w s os) (hl:s.len*40≤140737488351232) (k:∀ w',Ext w w'→R true w'):C_Ub t s w R:=by
 apply S_yb
 unfold F_yd
 have hlen:s.len=os.length:=by
  have:=ha.src.1
  rw [zq (sz:=2) (fun _=>rfl)] at this
  omega
 have htl:=o.len
 have hcp:=o.cap
 have hrl:=zdg hts
 refine⟨fun h=> ?_,fun _=> ?_⟩
 ·simp only [Bool.or_eq_true,bne_iff_ne,decide_eq_true_eq] at h
  omega
 refine⟨fun i w'=>∃ p:Nat,i=(p:Int)∧p≤s.len∧Ext w w',fun i w'=>s.len - i.toNat,⟨0,rfl,O_,Ext.refl _⟩,?_⟩
 rintro i w1 ⟨p,rfl,hp,e⟩
 unfold F_Pb
 refine⟨fun hi=> ?_,fun hi=> ?_⟩
 ·have hi:=of_decide_eq_true hi
  obtain⟨a1,x1,hx1,hc1⟩:=(o.ext e).get (fun _=>rfl) D_ (i:=p) O_
  obtain⟨a2,h2,hh2,hc2⟩:=zh.getN (e.src ha.src) (fun _=>rfl) D_ (i:=(p:Int)) O_ hi
  rw [Int.toNat_natCast] at hh2
  rw [List.getElem?_append_left O_] at hx1
  obtain⟨h1,hh1,hs1,hk1⟩:=z4l hx1
  obtain rfl:h1=h2:=by rw [hh1] at hh2; exact Option.some.inj hh2
  obtain⟨hsv,hlv⟩:=ha.ver h1 (List.mem_of_getElem? hh1)
  have wp:IntKind.i64.wrap ((p:Int)+1)=((p+1:Nat):Int):=by rw [i64_in _ O_ O_]; omega
  refine⟨a1,O_,O_,⟨x1.1,x1.2⟩,by rw [Int.toNat_natCast]; exact hc1,a2,O_,hi,⟨h1.1,h1.2.2⟩,hc2,true,fun w' e'=> ?_,fun w3 e3=>⟨fun h=>(by simp at h),fun _=> ?_⟩⟩
  ·exact s_Bc (t:=⟨x1.1,x1.2⟩) (x:=⟨h1.1,h1.2.2⟩) (vs:=h1.2.1) ((at_ p h1 x1.2 hh1 hs1).ext (e.trans e')) hk1 ((e.trans e').src hsv) hlv fun w'' e''=>⟨rfl,e''⟩
  ·rw [wp]
   exact⟨⟨p+1,rfl,O_,e.trans e3⟩,by show _ - _<_ - _; omega⟩
 ·have hi:=of_decide_eq_false hi
  have hw1:IntKind.i64.wrap (((s.len:Nat):Int)+1)=((s.len+1:Nat):Int):=by rw [i64_in _ O_ O_]; omega
  rw [hw1]
  obtain⟨a,v,hv,hc⟩:=(o.ext e).get (fun _=>rfl) D_ (i:=(rowH os ts).length) O_
  rw [List.getElem?_append_right (Nat.le_refl _),Nat.sub_self,List.getElem?_cons_zero] at hv
  cases hv
  refine⟨O_,O_,a,O_,O_,⟨spH.1,spH.2⟩,by rw [Int.toNat_natCast,hlen,←hrl]; exact hc,fun b w3 hb hw=> ?_⟩
  have st:=((St.start w).keep e).alloc (cs:=hldT (ByteArray.empty,⟨none,0,0⟩)) hb hw
  refine⟨st.writable 0 rfl D_,fun w4 hw4=> ?_⟩
  have st:St ⟨w,[]⟩ ([(b,hldT spH)]) w4:=st.put0 hw4
  refine⟨spH.1,st.cell 0 rfl rfl,?_⟩
  rw [beq_self_eq_true]
  exact k w4 st.ext
end
abbrev Ver:=T_c
abbrev verV (v:Ver):List Value:=[Vi v.Number,Value.string v.Val,Vo v.Drop]
abbrev Hd:=ByteArray×List Ver
abbrev hdV (k:ByteArray) (s:Slc):List Value:=[Value.string k,Vs s]
def InV (h:Hd) (s:Slc) (c:List zf):Prop:=RowC 3 s (h.2.flatMap verV) c
/-- Keys with their versions, all of one's own. -/
def HdsO (sl:Slc) (hs:List Hd) (cs:List zf):Prop :=
 ∃ vsl tb pb,cs=tb++pb∧RowC 2 sl ((hs.zip vsl).flatMap fun p=>hdV p.1.1 p.2) tb∧zXb InV hs vsl pb
theorem HdsO.nil:HdsO ⟨none,0,0⟩ [] []:=⟨[],[],[],rfl,RowC.nil,rfl⟩
theorem zme {α σ:Type} {f:α×σ→List Value} {sz:Nat} (hf:∀ x,(f x).length=sz) {xs:List α} {sls:List σ} (h:sls.length=xs.length):((xs.zip sls).flatMap f).length=xs.length*sz:=by
 rw [zq hf,List.length_zip,h,Nat.min_self]
theorem z4h {α σ:Type} {f:α×σ→List Value} {xs:List α} {sls:List σ} (h:sls.length=xs.length) (x:α) (s:σ):((xs++[x]).zip (sls++[s])).flatMap f=(xs.zip sls).flatMap f++f (x,s):=by
 rw [List.zip_append h.symm,List.flatMap_append]; simp
theorem z3e (s:ByteArray):(s.toList==ByteArray.empty.toList)=decide (s.size=0):=by
 rw [ByteArray.toList_eq,ByteArray.toList_eq]
 have:s.data.toList.length=s.size:=by simp
 cases h:s.data.toList with
 | nil=>rw [h] at this; have h0:s.size=0:=by simpa using this.symm
        rw [h0]; rfl
 | cons c r=>rw [h] at this; have h0:¬ s.size=0:=by simp at this; omega
             rw [decide_eq_false h0]; rfl
instance decVer:DecidableEq Ver:=fun x y =>
 if h:x.Number=y.Number∧x.Val=y.Val∧x.Drop=y.Drop then isTrue (by cases x; cases y; simp only at h; obtain⟨h1,h2,h3⟩:=h; rw [h1,h2,h3]) else isFalse fun e=>h (by rw [e]; exact⟨rfl,rfl,rfl⟩)
def mayV (v:Ver):Bool:=decide (1≤v.Number)&&decide (v.Number≤65536)&&decide (v.Val.size≤1024)&&(!v.Drop||decide (v.Val.size=0))
def okC:Int→List Ver→Bool
 | _,[]=>true
 | p,v::r=>(mayV v&&decide (p<v.Number))&&okC v.Number r
def z5l (vs:List Ver):Prop:=vs.Pairwise fun a b=>a.Number<b.Number
theorem z8k:∀ {vs:List Ver} {p:Int},z5l vs→(∀ v∈vs,p<v.Number∧mayV v=true)→okC p vs=true
 | [],_,_,_=>rfl
 | v::r,p,hs,h=>by
  unfold z5l at hs
  rw [List.pairwise_cons] at hs
  have h0:=h v (List.mem_cons_self ..)
  rw [okC,h0.2,decide_eq_true h0.1,z8k hs.2 fun x hx=>⟨hs.1 x hx,(h x (List.mem_cons_of_mem _ hx)).2⟩]; rfl
theorem zlh:∀ {vs:List Ver} {p:Int},okC p vs=true↔z5l vs∧∀ v∈vs,p<v.Number∧mayV v=true
 | [],p=>⟨fun _=>⟨List.Pairwise.nil,fun v hv=>by cases hv⟩,fun _=>rfl⟩
 | v::r,p=>by
  refine⟨fun h=> ?_,fun h=>z8k h.1 h.2⟩
  rw [okC] at h
  simp only [Bool.and_eq_true,decide_eq_true_eq] at h
  obtain⟨h1,h2⟩:=zlh.1 h.2
  refine⟨List.pairwise_cons.2 ⟨fun x hx=>(h2 x hx).1,h1⟩,fun x hx=> ?_⟩
  rcases List.mem_cons.1 hx with rfl | hx
  ·exact⟨h.1.2,h.1.1⟩
  ·exact⟨by have:=(h2 x hx).1; omega,(h2 x hx).2⟩
theorem zDd {w:World} {s:Slc} {vs:List Ver} (h:zh w s 3 (vs.flatMap verV)) {i:Nat} (hi:i<s.len):IsAt s.ptr∧∃ v,vs[i]? =some v∧ze w (pblk s.ptr) (poff s.ptr+i*3) (verV v):=by
 obtain⟨a,v,hv,hc⟩:=zh.getN h (fun _=>rfl) D_ (i:=(i:Int)) O_ O_
 rw [Int.toNat_natCast] at hv hc
 exact⟨a,v,hv,hc⟩
theorem z2c {w:World} {s:Slc} {vs:List Ver} (h:zh w s 3 (vs.flatMap verV)):s.len=vs.length:=by
 have:=h.1
 rw [zq (sz:=3) (fun _=>rfl)] at this
 omega
theorem zMi {w:World} {b o:Nat} {v:Ver} (h:ze w b o (verV v)):w.cell? ⟨b,o,none⟩=some (Vi v.Number):=zI.1 h 0 _ rfl
theorem s_fb {s:Slc} {vs:List Ver} {w:World} {R:Int→WP} (hs:zh w s 3 (vs.flatMap verV)) (hl:s.len≤4398046511104) (k:∀ w',Ext w w'→R (if okC 0 vs=true then 0 else 1) w'):C_jc s w R:=by
 apply S_Hc
 unfold F_af
 have hsl:=z2c hs
 refine⟨fun i w'=>∃ p:Nat,i=(p:Int)∧p≤s.len∧okC 0 vs=okC (if p=0 then 0 else((vs[p - 1]?).map (·.Number)).getD 0) (vs.drop p)∧Ext w w',fun i _=>s.len - i.toNat,⟨0,rfl,O_,rfl,Ext.refl _⟩,?_⟩
 rintro i w1 ⟨p,rfl,hp,hok,e⟩
 unfold F_ae
 refine⟨fun hi=> ?_,fun hi=> ?_⟩
 ·have hi:=of_decide_eq_true hi
  obtain⟨a,v,hv,hc⟩:=zDd (e.src hs) (i:=p) O_
  have hpl:=(List.getElem?_eq_some_iff.1 hv).1
  have hdc:vs.drop p=v::vs.drop (p+1):=by
   rw [List.drop_eq_getElem_cons hpl]
   rw [List.getElem?_eq_getElem hpl] at hv
   rw [Option.some.inj hv]
  rw [hdc,okC] at hok
  have wp:IntKind.i64.wrap ((p:Int)+1)=((p+1:Nat):Int):=by rw [i64_in _ O_ O_]; omega
  have st:St ⟨w,[]⟩ [] w1:=(St.start w).keep e
  refine⟨a,O_,hi,v,by rw [Int.toNat_natCast]; exact hc,fun b w2 hb hw=> ?_⟩
  have st:=st.alloc hb hw
  refine⟨st.writable 0 rfl (by simp),fun w3 hw3=> ?_⟩
  have st:St ⟨w,[]⟩ [(b,verV v)] w3:=st.put0 hw3
  obtain⟨prev,hprev⟩:∃ prev,prev=(if p=0 then 0 else((vs[p - 1]?).map (·.Number)).getD 0):=⟨_,rfl⟩
  rw [←hprev] at hok
  have bad:(mayV v&&decide (prev<v.Number))=false→∀ w',Ext w3 w'→F_c R (p:Int) (fun t7' w'=>(∃ p:Nat,t7'=(p:Int)∧p≤s.len∧okC 0 vs=okC (if p=0 then 0 else((vs[p - 1]?).map (·.Number)).getD 0) (vs.drop p)∧Ext w w')∧s.len - t7'.toNat<s.len - ((p:Int)).toNat) true w':=fun h w' e'=>by
   unfold F_c
   refine⟨fun _=> ?_,fun hh=>(by cases hh)⟩
   have:=k w' (st.keep e').ext
   rw [hok,h] at this
   exact this
  have good:(mayV v&&decide (prev<v.Number))=true→∀ w',Ext w3 w'→F_c R (p:Int) (fun t7' w'=>(∃ p:Nat,t7'=(p:Int)∧p≤s.len∧okC 0 vs=okC (if p=0 then 0 else((vs[p - 1]?).map (·.Number)).getD 0) (vs.drop p)∧Ext w w')∧s.len - t7'.toNat<s.len - ((p:Int)).toNat) false w':=fun h w' e'=>by
   unfold F_c
   refine⟨fun hh=>(by cases hh),fun _=> ?_⟩
   rw [wp]
   refine⟨⟨p+1,rfl,O_,?_,(st.keep e').ext⟩,by show _ - _<_ - _; omega⟩
   rw [hok,h,if_neg O_,Nat.add_sub_cancel,hv]; rfl
  -- the last test
  have fin:mayV v=true→(((decide ((p:Int)>0))=true→(IsAt s.ptr∧(0≤IntKind.i64.wrap ((p:Int) - 1)∧IntKind.i64.wrap ((p:Int) - 1)<((s.len:Nat):Int)∧(∃(v44:Int),w3.cell? ⟨pblk s.ptr,poff s.ptr+(IntKind.i64.wrap ((p:Int) - 1)).toNat*3,none⟩=some (Vi v44)∧(∃(v46:Int),w3.cell? ⟨b,0,none⟩=some (Vi v46)∧(∀ w9,Ext w3 w9→F_c R (p:Int) (fun t7' w'=>(∃ p:Nat,t7'=(p:Int)∧p≤s.len∧okC 0 vs=okC (if p=0 then 0 else((vs[p - 1]?).map (·.Number)).getD 0) (vs.drop p)∧Ext w w')∧s.len - t7'.toNat<s.len - ((p:Int)).toNat) (decide (v44≥v46)) w9)))))) ∧
      ((decide ((p:Int)>0))=false→(∀ w10,Ext w3 w10→F_c R (p:Int) (fun t7' w'=>(∃ p:Nat,t7'=(p:Int)∧p≤s.len∧okC 0 vs=okC (if p=0 then 0 else((vs[p - 1]?).map (·.Number)).getD 0) (vs.drop p)∧Ext w w')∧s.len - t7'.toNat<s.len - ((p:Int)).toNat) false w10))):=fun hm=>by
   refine⟨fun h0=> ?_,fun h0=> ?_⟩
   ·have h0:=of_decide_eq_true h0
    have wm:IntKind.i64.wrap ((p:Int) - 1)=((p - 1:Nat):Int):=by rw [i64_in _ O_ O_]; omega
    obtain⟨a',u,hu,hc'⟩:=zDd (st.ext.src hs) (i:=p - 1) O_
    rw [wm]
    refine⟨a',O_,O_,u.Number,by rw [Int.toNat_natCast]; exact zMi hc',v.Number,st.cell 0 rfl rfl,fun w9 e9=> ?_⟩
    have hpu:prev=u.Number:=by rw [hprev,if_neg O_,hu]; rfl
    by_cases hlt:prev<v.Number
    ·rw [decide_eq_false O_]
     exact good (by rw [hm,decide_eq_true hlt]; rfl) w9 e9
    ·rw [decide_eq_true O_]
     exact bad (by rw [hm,decide_eq_false hlt]; rfl) w9 e9
   ·have h0:=of_decide_eq_false h0
    have hpu:prev=0:=by rw [hprev,if_pos O_]
    have hn1:1≤v.Number:=by
     unfold mayV at hm
     simp only [Bool.and_eq_true,decide_eq_true_eq] at hm
     exact hm.1.1.1
    exact fun w10 e10=>good (by rw [hm,decide_eq_true O_]; rfl) w10 e10
  refine⟨v.Number,st.cell 0 rfl rfl,fun h1=> ?_,fun h1=>⟨v.Number,st.cell 0 rfl rfl,fun h2=> ?_,fun h2=>⟨v.Val,st.cell 0 rfl rfl,fun h3=> ?_,fun h3=>⟨v.Drop,st.cell 0 rfl rfl,fun h4=>⟨v.Val,st.cell 0 rfl rfl,fun h5=> ?_,fun h5=> ?_⟩,fun h4=> ?_⟩⟩⟩⟩
  ·have h1:=of_decide_eq_true h1
   exact fun w5 e5=>bad (by unfold mayV; rw [decide_eq_false O_]; rfl) w5 e5
  ·have h2:=of_decide_eq_true h2
   exact fun w5 e5=>bad (by unfold mayV; rw [decide_eq_false (show ¬ v.Number≤65536 by omega),Bool.and_false]; rfl) w5 e5
  ·have h3:=of_decide_eq_true h3
   exact fun w5 e5=>bad (by unfold mayV; rw [decide_eq_false (show ¬ v.Val.size≤1024 by omega),Bool.and_false]; rfl) w5 e5
  ·rw [z3e] at h5
   have h5:¬ v.Val.size=0:=by simpa using h5
   exact fun w5 e5=>bad (by unfold mayV; rw [h4,decide_eq_false h5]; simp) w5 e5
  ·rw [z3e] at h5
   have h5:v.Val.size=0:=by simpa using h5
   have h1:=of_decide_eq_false h1
   have h2:=of_decide_eq_false h2
   have h3:=of_decide_eq_false h3
   exact fin (by unfold mayV; rw [decide_eq_true (show 1≤v.Number by omega),decide_eq_true (show v.Number≤65536 by omega),decide_eq_true (show v.Val.size≤1024 by omega),decide_eq_true h5]; simp)
  ·have h1:=of_decide_eq_false h1
   have h2:=of_decide_eq_false h2
   have h3:=of_decide_eq_false h3
   exact fin (by unfold mayV; rw [decide_eq_true (show 1≤v.Number by omega),decide_eq_true (show v.Number≤65536 by omega),decide_eq_true (show v.Val.size≤1024 by omega),h4]; rfl)
 ·have hi:=of_decide_eq_false hi
  rw [List.drop_eq_nil_of_le O_,okC] at hok
  have:=k w1 e
  rw [hok] at this; exact this
theorem zgj {w:World} {s:Slc} {sz:Nat} {src:List Value} (hs:zh w s sz src) (hp:s.ptr=none):src=[]:=by
 obtain⟨_,h2 | ⟨h2,_⟩⟩:=hs
 ·exact h2
 ·rw [hp] at h2; cases h2
theorem zhj:∀ xs:List T_c,zQ (xs.flatMap verT)=true
 | []=>rfl
 | x::r=>by
  have:=zhj r
  unfold zQ at this ⊢
  rw [List.flatMap_cons,List.all_append,this]; rfl
theorem s_Ec {w:World} {s:Slc} {xs:List T_c} {R:Slc→WP} (hs:zh w s 3 (xs.flatMap verT)) (hl:s.len*32≤140737488351232)
    (k:∀ s' rb w',RowC 3 s' (xs.flatMap verT) rb→St ⟨w,[]⟩ rb w'→s'.len=xs.length→R s' w'):C_m s w R:=by
 apply S_c
 unfold F_kb
 have hlen:=hs.1
 have hfl:=zq (f:=verT) (sz:=3) (fun _=>rfl) xs
 refine⟨fun h=> ?_,fun h=>fun b w1 hb hw=> ?_⟩
 ·have hp:s.ptr=none:=by simpa using h
  have hv:=zgj hs hp
  have hx:xs=[]:=List.eq_nil_of_length_eq_zero (by rw [hv] at hfl; simp at hfl; omega)
  subst hx
  exact k _ [] _ RowC.nil (St.start w) rfl
 ·have st2:=(St.start w).alloc hb hw
  refine⟨_,st2.ext.src hs,?_⟩
  refine(RowC.new (b:=b) (xs:=[]) (n:=0) rfl:RowC 3 ⟨some ⟨b,0,none⟩,0,0⟩ [] [(b,[])]).append st2 hlen (zhj xs) rfl (by show(0+s.len)*32≤_; omega) fun s' rb w' r st' hl'=> ?_
  have st3:St ⟨w,[]⟩ rb w':=by simpa using st'
  exact k _ _ _ (by simpa using r) st3 (by rw [hl']; show 0+s.len=_; omega)
/-- A strict order of ranks. -/
structure Ord (α:Type) where
 lt:α→α→Bool
 irr:∀ x,lt x x=false
 tr:∀ x y z,lt y x=false→lt z y=false→lt z x=false
 asym:∀ x y,lt x y=true→lt y x=false
namespace Ord
variable {α:Type} (O:Ord α)
def eqv (x y:α):Bool:= !O.lt x y&& !O.lt y x
/-- Nothing is less than what stands ahead of it. -/
def Sorted (l:List α):Prop:=l.Pairwise fun x y=>O.lt y x=false
/-- The things of each rank, in order. -/
def Same (l l':List α):Prop:=∀ z,l.filter (O.eqv z)=l'.filter (O.eqv z)
variable {O}
theorem zmh {x y:α}:O.eqv x y=true↔O.lt x y=false∧O.lt y x=false:=by unfold eqv; simp
theorem zCk (x:α):O.eqv x x=true:=zmh.2 ⟨O.irr x,O.irr x⟩
theorem Same.refl (l:List α):O.Same l l:=fun _=>rfl
theorem Same.trans {a b c:List α} (h:O.Same a b) (g:O.Same b c):O.Same a c:=fun z=>(h z).trans (g z)
theorem Same.symm {a b:List α} (h:O.Same a b):O.Same b a:=fun z=>(h z).symm
theorem Same.mem {a b:List α} (h:O.Same a b) {x:α} (hx:x∈a):x∈b:=by
 have:x∈a.filter (O.eqv x):=List.mem_filter.2 ⟨hx,zCk x⟩
 rw [h x] at this
 exact(List.mem_filter.1 this).1
/-- Two stretches of which each thing of the one is less than each of the other change places. -/
theorem Same.turn {a b:List α} (h:∀ x∈a,∀ y∈b,O.lt y x=true):O.Same (a++b) (b++a):=fun z=>by
 rw [List.filter_append,List.filter_append]
 by_cases ha:a.filter (O.eqv z)=[]
 ·rw [ha]; simp
 ·obtain⟨x,hx⟩:=List.exists_mem_of_ne_nil _ ha
  obtain⟨hxa,hzx⟩:=List.mem_filter.1 hx
  have:b.filter (O.eqv z)=[]:=List.filter_eq_nil_iff.2 fun y hy hzy=>by
   have h1:=zmh.1 hzx
   have h2:=zmh.1 hzy
   have:=O.tr x z y h1.1 h2.2
   rw [h x hxa y hy] at this; cases this
  rw [this]; simp
theorem Sorted.left {a b:List α} (h:O.Sorted (a++b)):O.Sorted a:=(List.pairwise_append.1 h).1
theorem Sorted.right {a b:List α} (h:O.Sorted (a++b)):O.Sorted b:=(List.pairwise_append.1 h).2.1
end Ord
namespace Ord
variable {α:Type} {O:Ord α}
/-- An order on what things say. -/
def on {β:Type} (O:Ord α) (f:β→α):Ord β:=⟨fun x y=>O.lt (f x) (f y),fun x=>O.irr _,fun x y z h g=>O.tr _ _ _ h g,fun x y h=>O.asym _ _ h⟩
end Ord
theorem z9k:∀ x:List UInt8,Op.bytesLess x x=false
 | []=>rfl
 | a::x=>by
  rw [Op.bytesLess,z9k x]
  simp [UInt8.lt_irrefl]
theorem zij {a b:UInt8} {x y:List UInt8}:Op.bytesLess (a::x) (b::y)=true↔a.toNat<b.toNat∨(a=b∧Op.bytesLess x y=true):=by
 rw [Op.bytesLess]
 simp only [Bool.or_eq_true,decide_eq_true_eq,Bool.and_eq_true,beq_iff_eq]
 exact Iff.rfl
theorem zjj:∀ x y:List UInt8,Op.bytesLess x y=true→Op.bytesLess y x=false
 | [],[],h=>by cases h
 | [],_::_,_=>rfl
 | _::_,[],h=>by cases h
 | a::x,b::y,h=>by
  cases hc:Op.bytesLess (b::y) (a::x) with
  | false=>rfl
  | true =>
   rw [zij] at h hc
   rcases h with h | ⟨rfl,h⟩ <;> rcases hc with hc | ⟨hc1,hc⟩
   ·omega
   ·rw [hc1] at h; omega
   ·omega
   ·rw [zjj x y h] at hc; cases hc
theorem zfp:∀ x y z:List UInt8,Op.bytesLess y x=false→Op.bytesLess z y=false→Op.bytesLess z x=false
 | [],_,[],_,_=>rfl
 | [],_,_::_,_,_=>rfl
 | _::_,[],_,h,_=>by cases h
 | _::_,_::_,[],_,h=>by cases h
 | a::x,b::y,c::z,h,g=>by
  cases hc:Op.bytesLess (c::z) (a::x) with
  | false=>rfl
  | true =>
   have h:¬ Op.bytesLess (b::y) (a::x)=true:=by rw [h]; simp
   have g:¬ Op.bytesLess (c::z) (b::y)=true:=by rw [g]; simp
   rw [zij] at h g hc
   have h1:¬ b.toNat<a.toNat:=fun e=>h (.inl e)
   have g1:¬ c.toNat<b.toNat:=fun e=>g (.inl e)
   rcases hc with hc | ⟨rfl,hc⟩
   ·omega
   ·have e:b=c:=UInt8.toNat_inj.1 O_
    subst e
    have h2:Op.bytesLess y x=false:=by cases e2:Op.bytesLess y x with
     | false=>rfl
     | true=>exact absurd (.inr ⟨rfl,e2⟩) h
    have g2:Op.bytesLess z y=false:=by cases e2:Op.bytesLess z y with
     | false=>rfl
     | true=>exact absurd (.inr ⟨rfl,e2⟩) g
    rw [zfp x y z h2 g2] at hc; cases hc
def mayK (k:ByteArray):Prop:=1≤k.size∧k.size≤64
def zne (a b:Hd):Prop:=Op.bytesLess a.1.toList b.1.toList=true
def zkj (h:Hd):Prop:=mayK h.1∧h.2≠[]∧okC 0 h.2=true
def z5b (hs:List Hd):Prop:=(∀ h∈hs,zkj h)∧hs.Pairwise zne
abbrev hoD (o:HO):Hd:=(o.1,o.2.1)
theorem zlj {x y z:List UInt8} (h1:Op.bytesLess x y=true) (h2:Op.bytesLess y z=true):Op.bytesLess x z=true:=by
 cases h:Op.bytesLess x z with
 | true=>rfl
 | false =>
  have:=zfp y z x (zjj _ _ h2) h
  rw [h1] at this; cases this
theorem z4e {a b c:Hd} (h1:zne a b) (h2:zne b c):zne a c:=zlj h1 h2
theorem zDk {a b:Hd} (h:zne a b):a.1≠b.1:=fun e=>by
 unfold zne at h
 rw [e,z9k] at h; cases h
theorem s_Od {key:ByteArray} {w:World} {R:Bool→WP} (k1:mayK key→R true w) (k0:¬ mayK key→R false w):C_Mc key w R:=by
 apply S_Pc
 unfold F_mf
 rw [z3e]
 by_cases h:mayK key
 ·have h1:=h.1
  have h2:=h.2
  rw [decide_eq_false O_,decide_eq_true O_]
  exact k1 h
 ·unfold mayK at h
  by_cases h0:key.size=0
  ·rw [decide_eq_true h0]; exact k0 (fun h'=>by have:=h'.1; omega)
  ·rw [decide_eq_false h0,decide_eq_false O_]; exact k0 h
/-- What a map of keys has, by its entries. -/
def MpS (es:Array MapEntry) (hs:List Hd) (sls:List Slc):Prop:=es.toList.map (fun e=>(e.key,e.val))=(hs.zip sls).map fun p=>(Value.string p.1.1,Vs p.2)
theorem MpS.nil:MpS #[] [] []:=rfl
theorem MpS.snoc {es:Array MapEntry} {hs:List Hd} {sls:List Slc} {h:Hd} {s:Slc} {c:Nat} (m:MpS es hs sls) (hl:sls.length=hs.length):MpS (es.push ⟨.string h.1,Vs s,c⟩) (hs++[h]) (sls++[s]):=by
 unfold MpS at *
 rw [Array.toList_push,List.map_append,m,List.zip_append hl.symm,List.map_append]; rfl
theorem MpS.str {es:Array MapEntry} {hs:List Hd} {sls:List Slc} (m:MpS es hs sls):zsf es:=fun e he=>by
 have:(e.key,e.val)∈es.toList.map (fun e=>(e.key,e.val)):=List.mem_map_of_mem he
 rw [m] at this
 obtain⟨p,_,hp⟩:=List.mem_map.1 this
 exact⟨p.1.1,(congrArg Prod.fst hp).symm⟩
theorem MpS.has {es:Array MapEntry} {hs:List Hd} {sls:List Slc} {k:ByteArray} (m:MpS es hs sls) (h:zrf es k):∃ x∈hs,x.1=k:=by
 obtain⟨e,he,hk⟩:=h
 have:(e.key,e.val)∈es.toList.map (fun e=>(e.key,e.val)):=List.mem_map_of_mem he
 rw [m] at this
 obtain⟨p,hp,h2⟩:=List.mem_map.1 this
 refine⟨p.1,(List.of_mem_zip hp).1,?_⟩
 have h3:=congrArg Prod.fst h2
 rw [hk] at h3
 exact Value.string.inj h3
/-- A shard, and what it has. -/
def ShO (W:World) (mp:List (Nat×Obj)) (t:OA) (hs:List Hd) (cs:List zf) (B:Base):Prop :=
 ∃(b r:Nat) (es:Array MapEntry) (c:Nat) (sls:List Slc) (pb:List zf),t=some ⟨b,0,none⟩∧B=⟨W,(r,.map es c)::mp⟩∧cs=(b,[Value.map (some r)])::pb∧MpS es hs sls∧zXb InV hs sls pb
theorem ShO.back {W:World} {mp:List (Nat×Obj)} {t:OA} {hs:List Hd} {cs l:List zf} {B:Base} {w:World} (o:ShO W mp t hs cs B) (st:St B l w):St ⟨W,mp⟩ l w:=by
 obtain⟨b,r,es,c,sls,pb,_,rfl,_⟩:=o
 exact St.forget (a:=[(r,.map es c)]) (b:=mp) (W:=W) st
theorem zjd {os:List HO} {p:Nat} {o:HO} (h:os[p]? =some o):(os.map hoD)[p]? =some (hoD o):=by rw [List.getElem?_map,h]; rfl
section
variable {W:World} {mp:List (Nat×Obj)} {fr:List zf} {s:Slc} {os:List HO} {R:OA→Int→WP} {b r:Nat}
/-- A shard that has some first keys. -/
def LdI (W:World) (mp:List (Nat×Obj)) (fr:List zf) (os:List HO) (b r p:Nat) (w:World):Prop :=
 ∃(es:Array MapEntry) (c:Nat) (sls:List Slc) (pb:List zf),z5b ((os.map hoD).take p)∧MpS es ((os.map hoD).take p) sls∧zXb InV ((os.map hoD).take p) sls pb∧St ⟨W,(r,.map es c)::mp⟩ ((b,[Value.map (some r)])::(pb++fr)) w
theorem s_ac {w3:World} {p:Nat} {again_:Int→WP} (ha:∀ mp' l w',St ⟨W,mp'⟩ (l++fr) w'→HdAt w' s os) (hl:s.len≤1152921504606846976) (hv:∀ o∈os,o.2.2.len≤4398046511104)
    (k1:¬ z5b (os.map hoD)→∀ w',St ⟨W,mp⟩ fr w'→R none 1 w') (h:LdI W mp fr os b r p w3) (hp:p<s.len) (hag:∀ w',LdI W mp fr os b r (p+1) w'→again_ ((p+1:Nat):Int) w')
    (k0:decide (((p:Nat):Int)<((s.len:Nat):Int))=false→R (some ⟨b,0,none⟩) 0 w3):F_8c s R (some ⟨b,0,none⟩) again_ ((p:Nat):Int) w3:=by
 obtain⟨es,c,sls,pb,hok,hm,ps,st⟩:=h
 unfold F_8c
 refine⟨fun hi=> ?_,k0⟩
 have hi:=of_decide_eq_true hi
 have wp:IntKind.i64.wrap ((p:Int)+1)=((p+1:Nat):Int):=by rw [i64_in _ O_ O_]; omega
 have at_:∀ {es:Array MapEntry} {c:Nat} (l l':List zf) {w':World},St ⟨W,(r,.map es c)::mp⟩ l' w'→l'.Perm (l++fr)→HdAt w' s os:=fun {es c} l l' {w'} st' hp=>ha _ l w' (st'.perm hp)
 have ha3:=at_ ((b,[Value.map (some r)])::pb) _ st (by simp)
 have hsl:s.len=os.length:=by have:=ha3.src.1; rw [zq (sz:=2) (fun _=>rfl)] at this; omega
 obtain⟨a,o,ho,hc⟩:=zh.getN ha3.src (fun _=>rfl) D_ (i:=(p:Int)) O_ O_
 rw [Int.toNat_natCast] at ho hc
 have hom:=List.mem_of_getElem? ho
 have hvl:=hv o hom
 refine⟨a,O_,hi,⟨o.1,o.2.2⟩,by rw [Int.toNat_natCast]; exact hc,fun b1 w4 hb1 hw4=> ?_⟩
 have st4:=st.alloc hb1 hw4
 refine⟨st4.writable 0 rfl D_,fun w5 hw5 w6 hd6=> ?_⟩
 have st5:St ⟨W,(r,.map es c)::mp⟩ ((b1,hoT o)::(b,[Value.map (some r)])::(pb++fr)) w5:=st4.put0 hw5
 have st6:=st5.drew hd6
 clear st4 st5 hw4 hw5 hd6 ha3
 have hod:=zjd ho
 have back:∀ {l:List zf} {w':World},St ⟨W,(r,.map es c)::mp⟩ l w'→St ⟨W,mp⟩ l w':=fun {l w'} st'=>St.forget (a:=[(r,.map es c)]) (b:=mp) (W:=W) st'
 have bad:(z5b (os.map hoD)→False)→∀ w',St ⟨W,(r,.map es c)::mp⟩ ((b1,hoT o)::(b,[Value.map (some r)])::(pb++fr)) w'→F_h R (some ⟨b,0,none⟩) ((p:Nat):Int) again_ b1 true w':=by
  intro hbad w' st'
  unfold F_h
  exact⟨fun _=>k1 hbad w' ((back st').wq ((b1,hoT o)::(b,[Value.map (some r)])::pb)),fun h=>(by cases h)⟩
 have good:zkj (hoD o)→(0<p→∀ q,(os.map hoD)[p - 1]? =some q→zne q (hoD o))→∀ w',St ⟨W,(r,.map es c)::mp⟩ ((b1,hoT o)::(b,[Value.map (some r)])::(pb++fr)) w'→F_h R (some ⟨b,0,none⟩) ((p:Nat):Int) again_ b1 false w':=by
  intro hg hpo w' st'
  unfold F_h
  refine⟨fun h=>(by cases h),fun _ w7 hd7=> ?_⟩
  have st7:=st'.keep (Qt.ext hd7)
  obtain⟨hov7,hovl⟩:=(at_ ((b1,hoT o)::(b,[Value.map (some r)])::pb) _ st7 (by simp)).ver o hom
  refine⟨rfl,some r,st7.cell 1 rfl rfl,o.1,st7.cell 0 rfl rfl,o.2.2,st7.cell 0 rfl rfl,s_Ec hov7 hovl fun s2 rb w8 r8 st8 hl8=> ?_⟩
  have st8:=st7.more st8
  have st8:St ⟨W,(r,.map es c)::mp⟩ ((b1,hoT o)::(b,[Value.map (some r)])::(rb++(pb++fr))) w8:=st8.pq
  have hall:∀ x∈(os.map hoD).take p,zne x (hoD o):=by
   intro x hx
   obtain⟨j,hj⟩:=List.mem_iff_getElem?.1 hx
   have hjl:=(List.getElem?_eq_some_iff.1 hj).1
   rw [List.length_take,List.length_map] at hjl
   have hj':(os.map hoD)[j]? =some x:=by rw [List.getElem?_take_of_lt O_] at hj; exact hj
   obtain⟨q,hq⟩:∃ q,(os.map hoD)[p - 1]? =some q:=⟨_,List.getElem?_eq_getElem (by rw [List.length_map]; omega)⟩
   have h1:zne q (hoD o):=hpo O_ q hq
   by_cases hjp:j=p - 1
   ·rw [hjp,hq] at hj'
    obtain rfl:=Option.some.inj hj'
    exact h1
   ·refine z4e ?_ h1
    have hq':((os.map hoD).take p)[p - 1]? =some q:=by rw [List.getElem?_take_of_lt O_]; exact hq
    obtain⟨g1,e1⟩:=List.getElem?_eq_some_iff.1 hj
    obtain⟨g2,e2⟩:=List.getElem?_eq_some_iff.1 hq'
    have:=(List.pairwise_iff_getElem.1 hok.2) j (p - 1) g1 g2 O_
    rw [e1,e2] at this; exact this
  have htk:(os.map hoD).take (p+1)=(os.map hoD).take p++[hoD o]:=by rw [List.take_add_one,hod]; rfl
  refine⟨st8.cell 0 rfl rfl,st8.cell 1 rfl rfl,r,es,c,rfl,st8.mps.at_ _ (List.mem_cons_self ..),hm.str,fun hh=> ?_,fun w9 hw9=> ?_⟩
  ·obtain⟨x,hx,hxe⟩:=hm.has hh
   exact zDk (hall x hx) hxe
  have st9:=St.turn (a:=[]) (b:=mp) (W:=W) st8 hw9 (o':= .map (es.push ⟨.string o.1,Vs s2,c⟩) (c+1)) (fun _ _ _ h=>by cases h)
  rw [wp]
  refine hag w9 ⟨_,_,sls++[s2],pb++rb,?_,by rw [htk]; exact MpS.snoc (h:=hoD o) hm ps.len,by rw [htk]; exact ps.snoc r8,st9.wq [(b1,hoT o)]⟩
  rw [htk]
  refine⟨fun h hh=> ?_,List.pairwise_append.2 ⟨hok.2,List.pairwise_singleton ..,fun x hx y hy=>by rw [List.mem_singleton.1 hy]; exact hall x hx⟩⟩
  rcases List.mem_append.1 hh with hh | hh
  ·exact hok.1 h hh
  ·rw [List.mem_singleton.1 hh]; exact hg
 have inAll:∀ {P_:Prop},(zkj (hoD o)→P_)→z5b (os.map hoD)→P_:=fun f hL=>f (hL.1 _ (List.mem_of_getElem? hod))
 -- behind the tests of the key and of the order
 have last:mayK o.1→(0<p→∀ q,(os.map hoD)[p - 1]? =some q→zne q (hoD o))→∃(v36:Slc),w6.cell? ⟨b1,1,none⟩=some (Vs v36)∧((((((v36.len:Nat):Int)==0)=true→F_h R (some ⟨b,0,none⟩) ((p:Nat):Int) again_ b1 true w6)) ∧
     ((((v36.len:Nat):Int)==0)=false→∃(v42:Slc),w6.cell? ⟨b1,1,none⟩=some (Vs v42)∧C_jc v42 w6 (fun v43 w11=>F_h R (some ⟨b,0,none⟩) ((p:Nat):Int) again_ b1 (v43 != 0) w11))):=by
  intro hk hpo
  obtain⟨hov6,hovl⟩:=(at_ ((b1,hoT o)::(b,[Value.map (some r)])::pb) _ st6 (by simp)).ver o hom
  have hvlen:o.2.2.len=o.2.1.length:=by have:=hov6.1; rw [zq (sz:=3) (fun _=>rfl)] at this; omega
  refine⟨o.2.2,st6.cell 0 rfl rfl,fun h=>bad (inAll fun hg=>hg.2.1 ?_) w6 st6,fun h=>⟨o.2.2,st6.cell 0 rfl rfl,s_fb hov6 hvl fun w' e'=> ?_⟩⟩
  ·have h:((o.2.2.len:Nat):Int)=0:=by simpa using h
   exact List.eq_nil_of_length_eq_zero (by show o.2.1.length=0; omega)
  ·have h:((o.2.2.len:Nat):Int)≠0:=by simpa using h
   by_cases hC:okC 0 o.2.1=true
   ·rw [if_pos hC]
    exact good ⟨hk,fun e=>by have e:o.2.1=[]:=e; rw [e] at hvlen; simp at hvlen; omega,hC⟩ hpo w' (st6.keep e')
   ·rw [if_neg hC]
    exact bad (inAll fun hg=>hC hg.2.2) w' (st6.keep e')
 refine⟨o.1,st6.cell 0 rfl rfl,s_Od (fun hk=>⟨fun h=>(by cases h),fun _=>⟨fun hp0=> ?_,fun hp0=> ?_⟩⟩) (fun hk=>⟨fun _=>bad (inAll fun hg=>hk hg.1) w6 st6,fun h=>(by cases h)⟩)⟩
 ·have hp0:=of_decide_eq_true hp0
  have wm:IntKind.i64.wrap ((p:Int) - 1)=((p - 1:Nat):Int):=by rw [i64_in _ O_ O_]; omega
  obtain⟨a',q,hq,hc'⟩:=zh.getN (at_ ((b1,hoT o)::(b,[Value.map (some r)])::pb) _ st6 (by simp)).src (fun _=>rfl) D_ (i:=((p - 1:Nat):Int)) O_ O_
  rw [Int.toNat_natCast] at hq hc'
  have hqd:=zjd hq
  rw [wm]
  refine⟨a',O_,O_,q.1,by rw [Int.toNat_natCast]; exact hc'.1,o.1,st6.cell 0 rfl rfl,fun h=>bad (fun hL=> ?_) w6 st6,fun h=>last hk fun _ q' hq'=> ?_⟩
  ·obtain⟨h1,e1⟩:=List.getElem?_eq_some_iff.1 hqd
   obtain⟨h2,e2⟩:=List.getElem?_eq_some_iff.1 hod
   have:=(List.pairwise_iff_getElem.1 hL.2) (p - 1) p h1 h2 O_
   rw [e1,e2] at this
   have this:Op.bytesLess q.1.toList o.1.toList=true:=this
   rw [this] at h; cases h
  ·rw [hqd] at hq'
   obtain rfl:=Option.some.inj hq'
   show Op.bytesLess q.1.toList o.1.toList=true
   simpa using h
 ·have hp0:=of_decide_eq_false hp0
  exact last hk fun h=>by omega
theorem s_Gb {w:World} (st:St ⟨W,mp⟩ fr w) (ha:∀ mp' l w',St ⟨W,mp'⟩ (l++fr) w'→HdAt w' s os) (hl:s.len≤1152921504606846976) (hv:∀ o∈os,o.2.2.len≤4398046511104)
    (k1:¬ z5b (os.map hoD)→∀ w',St ⟨W,mp⟩ fr w'→R none 1 w')
    (k0:z5b (os.map hoD)→∀ t cs B w',ShO W mp t (os.map hoD) cs B→St B (cs++fr) w'→R t 0 w'):C_Lc s w R:=by
 apply S_Kc
 unfold F_jf
 apply S_Oc
 unfold F_lf
 intro r w1 hr hw1 b w2 hb hw2
 have st1:St ⟨W,(r,.map #[] 0)::mp⟩ fr w1:=st.newObj hr hw1 (fun _ _ _ h=>by cases h)
 have st2:St ⟨W,(r,.map #[] 0)::mp⟩ ((b,[Value.map (some r)])::fr) w2:=st1.alloc hb hw2
 have hsl:s.len=os.length:=by have:=(ha mp [] w st).src.1; rw [zq (sz:=2) (fun _=>rfl)] at this; omega
 refine⟨fun i w'=>∃(p:Nat),i=(p:Int)∧p≤s.len∧LdI W mp fr os b r p w',fun i _=>s.len - i.toNat,
  ⟨0,rfl,O_,#[],0,[],[],⟨fun h hh=>by simp at hh,by simp⟩,by simpa using MpS.nil,by simpa using zXb.nil,by simpa using st2⟩,?_⟩
 clear st st1 st2 hw1 hw2 hb hr
 rintro i w3 ⟨p,rfl,hp,hI⟩
 by_cases hlt:p<s.len
 ·exact s_ac ha hl hv k1 hI hlt (fun w' h'=>⟨⟨p+1,rfl,O_,h'⟩,by show _ - _<_ - _; omega⟩) fun h=>absurd (of_decide_eq_false h) O_
 ·unfold F_8c
  obtain⟨es,c,sls,pb,hok,hm,ps,st⟩:=hI
  have e:(os.map hoD).take p=os.map hoD:=List.take_of_length_le (by rw [List.length_map]; omega)
  rw [e] at hok hm ps
  exact⟨fun h=>absurd (of_decide_eq_true h) O_,fun _=>k0 hok _ _ _ w3 ⟨b,r,es,c,sls,pb,rfl,rfl,rfl,hm,ps⟩ st⟩
end
theorem z5h (x:Int):(x != x)=false:=by simp
theorem s_ad {x y:Int} {w:World} {R:Bool→WP} (k:R (decide (x<y)) w):C_Hc x y w R:=by
 apply S_Ec
 unfold F_Ye
 apply S_zc
 unfold F_Qe
 rw [z5h]
 exact⟨fun h=>(by cases h),fun _=>k⟩
theorem znh {xs:List Int} (h:xs.Pairwise (·<·)) {i j:Nat} {x y:Int} (hi:xs[i]? =some x) (hj:xs[j]? =some y) (hij:i<j):x<y:=by
 obtain⟨h1,rfl⟩:=List.getElem?_eq_some_iff.1 hi
 obtain⟨h2,rfl⟩:=List.getElem?_eq_some_iff.1 hj
 exact(List.pairwise_iff_getElem.1 h) i j h1 h2 hij
theorem s_4 {s:Slc} {xs:List Int} {t:Int} {w:World} {R:Int→Bool→WP} (hs:zh w s 1 (xs.map Vi)) (hl:s.len≤1152921504606846976) (hr:xs.Pairwise (·<·)) (k:∀ p,R p (decide (t∈xs)) w) :
    C_4 s t w R:=by
 apply S_z
 unfold F_uc
 have hlen:=hs.len_eq
 refine⟨fun i j w'=>w'=w∧∃ p q:Nat,i=(p:Int)∧j=(q:Int)∧p≤q∧q≤xs.length∧(∀ n x,n<p→xs[n]? =some x→x<t)∧(∀ n x,q≤n→xs[n]? =some x→t≤x),fun i j _=>(j - i).toNat,
  ⟨rfl,0,s.len,rfl,rfl,O_,O_,fun n x h=>absurd h (Nat.not_lt_zero n),fun n x h hx=>by have:=(List.getElem?_eq_some_iff.1 hx).1; omega⟩,?_⟩
 rintro i j _ ⟨rfl,p,q,rfl,rfl,hpq,hq,hlo,hhi⟩
 unfold F_5
 refine⟨fun h=> ?_,fun h=> ?_⟩
 ·have h:=of_decide_eq_true h
  have hm:IntKind.i64.wrap (Int.fdiv (IntKind.u64.wrap (IntKind.i64.wrap ((p:Int)+(q:Int)))) (2 ^ 1))=(((p+q) / 2:Nat):Int):=by
   rw [i64_in ((p:Int)+(q:Int)) O_ O_,zX _ O_ O_]
   have e:Int.fdiv ((p:Int)+(q:Int)) (2 ^ 1)=(((p+q) / 2:Nat):Int):=by
    rw [Int.fdiv_eq_ediv_of_nonneg _ D_]; omega
   rw [e,i64_in _ O_ O_]
  rw [hm]
  have wm:IntKind.i64.wrap ((((p+q) / 2:Nat):Int)+1)=(((p+q) / 2+1:Nat):Int):=by rw [i64_in _ O_ O_]; omega
  obtain⟨ha,x,hx,hc⟩:=zh.get (i:=(((p+q) / 2:Nat):Int)) hs O_ O_
  rw [Int.toNat_natCast] at hx hc
  refine⟨ha,O_,O_,x,by rw [Int.toNat_natCast]; exact hc,s_ad ⟨fun h1=> ?_,fun h1=> ?_⟩⟩
  ·have h1:=of_decide_eq_true h1
   rw [wm]
   refine⟨⟨rfl,(p+q) / 2+1,q,rfl,rfl,O_,hq,fun n y hn hy=> ?_,hhi⟩,by show Int.toNat _<Int.toNat _; omega⟩
   rcases Nat.lt_or_ge n ((p+q) / 2) with hlt | hge
   ·have:=znh hr hy hx hlt; omega
   ·obtain rfl:n=(p+q) / 2:=O_
    rw [hx] at hy; obtain rfl:=Option.some.inj hy; exact h1
  ·have h1:=of_decide_eq_false h1
   refine⟨⟨rfl,p,(p+q) / 2,rfl,rfl,O_,O_,hlo,fun n y hn hy=> ?_⟩,by show Int.toNat _<Int.toNat _; omega⟩
   rcases Nat.lt_or_ge ((p+q) / 2) n with hlt | hge
   ·have:=znh hr hx hy hlt; omega
   ·obtain rfl:n=(p+q) / 2:=O_
    rw [hx] at hy; obtain rfl:=Option.some.inj hy; omega
 ·have h:=of_decide_eq_false h
  obtain rfl:p=q:=O_
  have no:(∀ x,xs[p]? =some x→x≠t)→decide (t∈xs)=false:=fun hne=>decide_eq_false fun hm=>by
   obtain⟨n,hn⟩:=List.mem_iff_getElem?.1 hm
   rcases Nat.lt_trichotomy n p with hlt | rfl | hgt
   ·have:=hlo n t hlt hn; omega
   ·exact hne t hn rfl
   ·have hp:p<xs.length:=by have:=(List.getElem?_eq_some_iff.1 hn).1; omega
    have h1:=hhi p _ (Nat.le_refl _) (List.getElem?_eq_getElem hp)
    have h2:=znh hr (List.getElem?_eq_getElem hp) hn hgt
    omega
  refine⟨fun h1=> ?_,fun h1=> ?_⟩
  ·have h1:=of_decide_eq_true h1
   obtain⟨ha,x,hx,hc⟩:=zh.get (i:=(p:Int)) hs O_ O_
   rw [Int.toNat_natCast] at hx
   refine⟨ha,O_,h1,x,hc,fun h2=> ?_,fun h2=>⟨ha,O_,h1,x,hc,?_⟩⟩
   ·obtain rfl:x=t:=by simpa using h2
    have:=k ((p:Nat):Int)
    rw [decide_eq_true (List.mem_of_getElem? hx)] at this; exact this
   ·have h2:x≠t:=by simpa using h2
    apply S_jc
    unfold F_we
    rw [z5h]
    refine⟨fun h=>(by cases h),fun _=> ?_⟩
    have:=k ((p:Nat):Int)
    rw [no fun y hy=>by rw [hx] at hy; obtain rfl:=Option.some.inj hy; exact h2] at this; exact this
  ·have h1:=of_decide_eq_false h1
   have:=k ((p:Nat):Int)
   rw [no fun y hy=>by have:=(List.getElem?_eq_some_iff.1 hy).1; omega] at this; exact this
structure SvM where
 mark:Int
 bey:List Int
 held:List Hd
abbrev svT (s:T_b):List Value:=[Vi s.Mark,Vs s.Beyond,Vs s.Held]
/-- Numbers that rise above one. -/
def z5e:Int→List Int→Prop
 | _,[]=>True
 | t,n::r=>t<n∧n≤65536∧z5e n r
theorem zKc:∀ {l:List Int} {t:Int},z5e t l→(∀ n∈l,t<n∧n≤65536)∧l.Pairwise (·<·)
 | [],_,_=>⟨fun n h=>(by cases h),List.Pairwise.nil⟩
 | n::r,t,h=>by
  obtain⟨h1,h2,h3⟩:=h
  obtain⟨g1,g2⟩:=zKc h3
  refine⟨fun x hx=> ?_,List.pairwise_cons.2 ⟨fun x hx=>(g1 x hx).1,g2⟩⟩
  rcases List.mem_cons.1 hx with rfl | hx
  ·exact⟨h1,h2⟩
  ·exact⟨by have:=(g1 x hx).1; omega,(g1 x hx).2⟩
theorem zmj:∀ {l:List Int} {t:Int},z5e t l→0≤t→(l.length:Int)+t≤65536+1+t∧((l.length:Int)≤65536)
 | [],t,_,h0=>by simp; omega
 | n::r,t,⟨h1,h2,h3⟩,h0=>by
  have h:∀ {l:List Int} {t:Int},z5e t l→0≤t→t≤65536→(l.length:Int)+t≤65536:=fun {l}=>by
   induction l with
   | nil=>intro t _ _ h; simp; omega
   | cons a l ih =>
    intro t ⟨a1,a2,a3⟩ b1 b2
    have:=ih a3 O_ a2
    rw [List.length_cons]; omega
  have:=h h3 O_ h2
  rw [List.length_cons]; omega
def okV (m:SvM) (h:Hd):Prop:=∀(i:Nat) (v:Ver),h.2[i]? =some v→(v.Number≤m.mark→i=0∧v.Drop=false)∧(m.mark<v.Number→v.Number∈m.bey)
def ckOk (m:SvM):Prop:=(0≤m.mark∧m.mark≤65536)∧z5e (m.mark+1) m.bey∧z5b m.held∧∀ h∈m.held,okV m h
open Classical in
noncomputable def ckE (m:SvM):Int:=if ckOk m then 0 else 1
theorem zOf {m:SvM} (h:ckOk m):ckE m=0:=by unfold ckE; exact if_pos h
theorem zPf {m:SvM} (h:¬ ckOk m):ckE m=1:=by unfold ckE; exact if_neg h
structure SvAt (w:World) (s:T_b) (m:SvM) (os:List HO):Prop where
 mark:s.Mark=m.mark
 bey:zh w s.Beyond 1 (m.bey.map Vi)
 held:HdAt w s.Held os
 hos:os.map hoD=m.held
 blen:s.Beyond.len≤17592186044416
 hlen:s.Held.len≤17592186044416
 vlen:∀ o∈os,o.2.2.len≤4398046511104
theorem SvAt.ext {w w':World} {s:T_b} {m:SvM} {os:List HO} (h:SvAt w s m os) (e:Ext w w'):SvAt w' s m os:=⟨h.mark,e.src h.bey,h.held.ext e,h.hos,h.blen,h.hlen,h.vlen⟩
section
variable {w:World} {s:T_b} {m:SvM} {os:List HO} {R:Int→WP} {b:Nat}
/-- One version is looked at. -/
theorem s_Jd {w8:World} {again_1:Int→WP} {p:Nat} {o:HO} (ha:SvAt w s m os) (hb:m.bey.Pairwise (·<·)) (st:St ⟨w,[]⟩ [(b,svT s)] w8) (ho:os[p]? =some o)
    (bad:¬ okV m (hoD o)→∀ w',Ext w w'→R 1 w') (hag:okV m (hoD o)→∀ w',St ⟨w,[]⟩ [(b,svT s)] w'→again_1 (IntKind.i64.wrap ((p:Int)+1)) w') :
    ∃(I:Int→WP) (μ:Int→World→Nat),I 0 w8∧∀(t60:Int) w,I t60 w→F_Od R b ((p:Nat):Int) again_1 o.2.2 (fun(t60':Int) w'=>I t60' w'∧μ t60' w'<μ t60 w) t60 w:=by
 have hom:=List.mem_of_getElem? ho
 have hvl:=ha.vlen o hom
 obtain⟨hov,_⟩:=ha.held.ver o hom
 have hvlen:o.2.2.len=o.2.1.length:=by have:=hov.1; rw [zq (sz:=3) (fun _=>rfl)] at this; omega
 refine⟨fun i w'=>∃ q:Nat,i=(q:Int)∧q≤o.2.2.len∧(∀(i:Nat) (v:Ver),i<q→o.2.1[i]? =some v→(v.Number≤m.mark→i=0∧v.Drop=false)∧(m.mark<v.Number→v.Number∈m.bey))∧St ⟨w,[]⟩ [(b,svT s)] w',fun i _=>o.2.2.len - i.toNat,
  ⟨0,rfl,O_,fun i v h=>absurd h (Nat.not_lt_zero i),st⟩,?_⟩
 clear st
 rintro i w1 ⟨q,rfl,hq,hall,st⟩
 unfold F_Od
 refine⟨fun hi=> ?_,fun hi=> ?_⟩
 rotate_left
 ·have hi:=of_decide_eq_false hi
  exact hag (fun i v hv=>hall i v (by have h2:o.2.1[i]? =some v:=hv; have:=(List.getElem?_eq_some_iff.1 h2).1; omega) hv) w1 st
 have hi:=of_decide_eq_true hi
 have wq:IntKind.i64.wrap ((q:Int)+1)=((q+1:Nat):Int):=by rw [i64_in _ O_ O_]; omega
 obtain⟨a,v,hv,hc⟩:=zh.getN (st.ext.src hov) (fun _=>rfl) D_ (i:=(q:Int)) O_ O_
 rw [Int.toNat_natCast] at hv hc
 refine⟨a,O_,hi,v,by rw [Int.toNat_natCast]; exact hc,fun b2 w2 hb2 hw2=> ?_⟩
 have st2:=st.alloc hb2 hw2
 refine⟨st2.writable 0 rfl D_,fun w3 hw3=> ?_⟩
 have st3:St ⟨w,[]⟩ [(b2,verV v),(b,svT s)] w3:=st2.put0 hw3
 have no:¬ ((v.Number≤m.mark→q=0∧v.Drop=false)∧(m.mark<v.Number→v.Number∈m.bey))→∀ w',Ext w w'→R 1 w':=fun hn=>bad fun h=>hn (h q v hv)
 have yes:((v.Number≤m.mark→q=0∧v.Drop=false)∧(m.mark<v.Number→v.Number∈m.bey))→∀ w',St ⟨w,[]⟩ [(b2,verV v),(b,svT s)] w'→(∃ q':Nat,((q+1:Nat):Int)=(q':Int)∧q'≤o.2.2.len∧(∀(i:Nat) (v:Ver),i<q'→o.2.1[i]? =some v→(v.Number≤m.mark→i=0∧v.Drop=false)∧(m.mark<v.Number→v.Number∈m.bey))∧St ⟨w,[]⟩ [(b,svT s)] w'):=fun hy w' st'=>by
  refine⟨q+1,rfl,O_,fun i u hi hu=> ?_,st'.drop1⟩
  rcases Nat.lt_or_ge i q with h | h
  ·exact hall i u h hu
  ·obtain rfl:i=q:=O_
   rw [hv] at hu
   obtain rfl:=Option.some.inj hu
   exact hy
 have hmk:=ha.mark
 have bin:(v.Number≤m.mark→q=0∧v.Drop=false)→F_vb R b ((q:Nat):Int) (fun(t60':Int) w'=>(∃ q:Nat,t60'=(q:Int)∧q≤o.2.2.len∧(∀(i:Nat) (v:Ver),i<q→o.2.1[i]? =some v→(v.Number≤m.mark→i=0∧v.Drop=false)∧(m.mark<v.Number→v.Number∈m.bey))∧St ⟨w,[]⟩ [(b,svT s)] w')∧o.2.2.len - t60'.toNat<o.2.2.len - ((q:Nat):Int).toNat) b2 false w3:=by
  intro h1
  unfold F_vb
  refine⟨fun h=>(by cases h),fun _=>⟨s.Beyond,st3.cell 1 rfl rfl,v.Number,st3.cell 0 rfl rfl,?_⟩⟩
  refine s_4 (st3.ext.src ha.bey) (by have:=ha.blen; omega) hb fun pos=>⟨v.Number,st3.cell 0 rfl rfl,s.Mark,st3.cell 1 rfl rfl,fun h=> ?_,fun h=> ?_⟩
  ·simp only [Bool.and_eq_true,decide_eq_true_eq,Bool.not_eq_true',decide_eq_false_iff_not] at h
   exact no (fun hy=>h.2 (hy.2 O_)) w3 st3.ext
  ·rw [wq]
   refine⟨yes ⟨h1,fun hlt=> ?_⟩ w3 st3,by show _ - _<_ - _; omega⟩
   simp only [Bool.and_eq_false_iff,decide_eq_false_iff_not,Bool.not_eq_false',decide_eq_true_eq] at h
   rcases h with h | h
   ·omega
   ·exact h
 refine⟨v.Number,st3.cell 0 rfl rfl,s.Mark,st3.cell 1 rfl rfl,fun hle=>⟨fun h0=> ?_,fun h0=> ?_⟩,fun hle=> ?_⟩
 ·have hle:=of_decide_eq_true hle
  have h0:=of_decide_eq_true h0
  unfold F_vb
  exact⟨fun _=>no (fun hy=>by have:=(hy.1 O_).1; omega) w3 st3.ext,fun h=>(by cases h)⟩
 ·have hle:=of_decide_eq_true hle
  have h0:=of_decide_eq_false h0
  refine⟨v.Drop,st3.cell 0 rfl rfl,?_⟩
  cases hd:v.Drop with
  | true =>
   unfold F_vb
   exact⟨fun _=>no (fun hy=>by have:=(hy.1 O_).2; rw [hd] at this; cases this) w3 st3.ext,fun h=>(by cases h)⟩
  | false=>exact bin fun _=>⟨O_,hd⟩
 ·have hle:=of_decide_eq_false hle
  exact bin fun h=>by omega
theorem s_A (ha:SvAt w s m os) (k:∀ w',Ext w w'→R (ckE m) w'):C_Bc s w R:=by
 apply S_Lc
 unfold F_if
 intro b w1 hb hw1
 have st1:St ⟨w,[]⟩ [(b,svT s)] w1:=(St.start w).alloc hb hw1
 have bad:¬ ckOk m→∀ w',Ext w w'→R 1 w':=fun hn w' e=>by have:=k w' e; rw [zPf hn] at this; exact this
 have hmk:=ha.mark
 have hbl:=ha.bey.len_eq
 have hbl2:=ha.blen
 have hhl:=ha.hlen
 refine⟨s.Mark,st1.cell 0 rfl rfl,fun h=> ?_,fun h=>⟨s.Mark,st1.cell 0 rfl rfl,?_⟩⟩
 ·have h:=of_decide_eq_true h
  unfold F_5c
  exact⟨fun _=>bad (fun hk=>by have:=hk.1.1; omega) w1 st1.ext,fun h=>(by cases h)⟩
 have h:=of_decide_eq_false h
 unfold F_5c
 refine⟨fun h2=> ?_,fun h2=> ?_⟩
 ·have h2:=of_decide_eq_true h2
  exact bad (fun hk=>by have:=hk.1.2; omega) w1 st1.ext
 have h2:=of_decide_eq_false h2
 refine⟨s.Mark,st1.cell 0 rfl rfl,s.Beyond,st1.cell 0 rfl rfl,fun least i w'=>∃ p:Nat,i=(p:Int)∧p≤s.Beyond.len∧(1≤least∧least≤65538)∧(z5e (m.mark+1) m.bey↔z5e (least - 1) (m.bey.drop p))∧St ⟨w,[]⟩ [(b,svT s)] w',fun _ i _=>s.Beyond.len - i.toNat,
  ⟨0,rfl,O_,by rw [i64_in _ O_ O_]; omega,by rw [i64_in _ O_ O_,hmk,List.drop_zero,show m.mark+2 - 1=m.mark+1 from by omega],st1⟩,?_⟩
 clear st1 hw1
 rintro least i w2 ⟨p,rfl,hp,hle,hiff,st⟩
 unfold F_me
 refine⟨fun hi=> ?_,fun hi=> ?_⟩
 ·have hi:=of_decide_eq_true hi
  have wp:IntKind.i64.wrap ((p:Int)+1)=((p+1:Nat):Int):=by rw [i64_in _ O_ O_]; omega
  obtain⟨a,x,hx,hc⟩:=zh.get (i:=(p:Int)) (st.ext.src ha.bey) O_ hi
  rw [Int.toNat_natCast] at hx
  have hxl:=(List.getElem?_eq_some_iff.1 hx).1
  have hdr:m.bey.drop p=x::m.bey.drop (p+1):=by
   rw [List.drop_eq_getElem_cons hxl,(List.getElem?_eq_some_iff.1 hx).2]
  rw [hdr] at hiff
  refine⟨a,O_,hi,x,hc,fun h3=> ?_,fun h3=> ?_⟩
  ·simp only [Bool.or_eq_true,decide_eq_true_eq] at h3
   exact bad (fun hk=>by have:=hiff.1 hk.2.1; have g1:=this.1; have g2:=this.2.1; omega) w2 st.ext
  ·simp only [Bool.or_eq_false_iff,decide_eq_false_iff_not] at h3
   rw [wp,i64_in (x+1) O_ O_]
   refine⟨⟨p+1,rfl,O_,O_,hiff.trans ⟨fun h=> ?_,fun h=>⟨O_,O_,?_⟩⟩,st⟩,by show _ - _<_ - _; omega⟩
   ·rw [show x+1 - 1=x from by omega]; exact h.2.2
   ·rw [show x+1 - 1=x from by omega] at h; exact h
 have hi:=of_decide_eq_false hi
 have hrise:z5e (m.mark+1) m.bey:=by
  rw [List.drop_eq_nil_of_le O_] at hiff
  exact hiff.2 trivial
 have hpw:=(zKc hrise).2
 refine⟨s.Held,st.cell 0 rfl rfl,?_⟩
 have e2:=st.ext
 refine s_Gb (W:=w) (mp:=[]) (fr:=[(b,svT s)]) st (fun mp' l w' st'=>ha.held.ext st'.ext) O_ ha.vlen (fun hno w' st'=>⟨fun _=>bad (fun hk=>hno (by rw [ha.hos]; exact hk.2.2.1)) w' st'.ext,fun h=>(by simp at h)⟩) fun hL t cs B w' oS st'=>⟨fun h=>(by simp at h),fun _=> ?_⟩
 have st':St ⟨w,[]⟩ [(b,svT s)] w':=(oS.back st').wq cs
 rw [ha.hos] at hL
 clear oS
 have hsl:s.Held.len=os.length:=by have:=ha.held.src.1; rw [zq (sz:=2) (fun _=>rfl)] at this; omega
 refine⟨s.Held,st'.cell 0 rfl rfl,fun i w'=>∃ p:Nat,i=(p:Int)∧p≤s.Held.len∧(∀ h∈m.held.take p,okV m h)∧St ⟨w,[]⟩ [(b,svT s)] w',fun i _=>s.Held.len - i.toNat,⟨0,rfl,O_,fun h hh=>by simp at hh,st'⟩,?_⟩
 clear st' st
 rintro i w3 ⟨p,rfl,hp,hall,st⟩
 unfold F_le
 refine⟨fun hi=> ?_,fun hi=> ?_⟩
 ·have hi:=of_decide_eq_true hi
  have wp:IntKind.i64.wrap ((p:Int)+1)=((p+1:Nat):Int):=by rw [i64_in _ O_ O_]; omega
  obtain⟨a,o,ho,hc⟩:=zh.getN (st.ext.src ha.held.src) (fun _=>rfl) D_ (i:=(p:Int)) O_ O_
  rw [Int.toNat_natCast] at ho hc
  have hod:m.held[p]? =some (hoD o):=by rw [←ha.hos]; exact zjd ho
  refine⟨a,O_,hi,⟨o.1,o.2.2⟩,by rw [Int.toNat_natCast]; exact hc,fun b1 w4 hb1 hw4=> ?_⟩
  have st4:=st.alloc hb1 hw4
  refine⟨st4.writable 0 rfl D_,fun w5 hw5=> ?_⟩
  have st5:St ⟨w,[]⟩ [(b1,hoT o),(b,svT s)] w5:=st4.put0 hw5
  refine⟨o.2.2,st5.cell 0 rfl rfl,?_⟩
  refine s_Jd ha hpw st5.drop1 ho (fun hno w' e'=>bad (fun hk=>hno (hk.2.2.2 _ (List.mem_of_getElem? hod))) w' e') fun hok w' st'=> ?_
  rw [wp]
  refine⟨⟨p+1,rfl,O_,fun h hh=> ?_,st'⟩,by show _ - _<_ - _; omega⟩
  rw [List.take_add_one,hod] at hh
  rcases List.mem_append.1 hh with hh | hh
  ·exact hall h hh
  ·obtain rfl:h=hoD o:=by simpa using hh
   exact hok
 ·have hi:=of_decide_eq_false hi
  have hml:m.held.length=os.length:=by rw [←ha.hos,List.length_map]
  have e:m.held.take p=m.held:=List.take_of_length_le O_
  rw [e] at hall
  have:=k w3 st.ext
  rw [zOf ⟨⟨O_,O_⟩,hrise,hL,hall⟩] at this
  exact this
end
section
variable {w0:Base} {w:World} {fr bs:List zf}
/-! ### Writers -/
def WrO (w_:OA) (xs:List UInt8) (bs:List zf):Prop :=
 ∃(b:Nat) (s:Slc) (rb:List zf),w_=some ⟨b,0,none⟩∧RowC 1 s (xs.map bV) rb∧bs=(b,[Vo true,Vs s])::rb
variable {wr:OA} {xs:List UInt8}
theorem s_bc {R:OA→WP} (st:St w0 fr w) (k:∀ r bs w',WrO r [] bs→St w0 (bs++fr) w'→R r w'):C_wc w R:=by
 apply S_uc
 intro b w1 hb hw
 exact k _ _ _ ⟨b,⟨none,0,0⟩,[],rfl,RowC.nil,rfl⟩ (st.alloc hb hw)
theorem s_f {R:Bool→WP} (st:St w0 (bs++fr) w) (o:WrO wr xs bs) (k:R false w):C_A wr w R:=by
 apply S_dc
 obtain⟨b,s,rb,rfl,r,rfl⟩:=o
 exact⟨fun h=>(by cases h),fun _=>⟨rfl,true,st.cell 0 rfl rfl,k⟩⟩
theorem z6l (s:ByteArray):zQ (zcb s)=true:=by
 unfold zcb zQ
 rw [List.all_map]
 exact List.all_eq_true.2 fun _ _=>rfl
/-- One byte more, as the writer's methods put it. -/
theorem zoh {b:Nat} {s:Slc} {rb:List zf} {x:UInt8} {v:Value} {T:TypeId} {w1:World} {b2:Nat} {K:Slc→WP} (st:St w0 ((b,[Vo true,Vs s])::(rb++fr)) w) (r:RowC 1 s (xs.map bV) rb)
    (hl:xs.length+1≤140737488351232) (hv:v=bV x) (hb:b2=w.heap.size) (hw:w1=w.alloc (Obj.cells [v].toArray T (0,0)))
    (k:∀ s' w2,(b=b)→zd w2 b 1 1→(∀ w3,w3=World.puts b 1 [Vs s'] w2→∃ bs',WrO (some ⟨b,0,none⟩) (xs++[x]) bs'∧St w0 (bs'++fr) w3)→K s' w2) :
    ∃ src,zh w1 (Slc.mk (some ⟨b2,0,none⟩) 1 1) 1 src∧zj 1 1 T [Value.int .u8 0] s src 1 w1 K:=by
 subst hv
 refine⟨_,z7d hb hw rfl,?_⟩
 have st1:=(st.alloc hb hw).drop1
 have hsl:=r.len
 rw [List.length_map] at hsl
 refine r.append (l:=(b,[Vo true,Vs s])::fr) (by exact st1.swap (a:=[(b,[Vo true,Vs s])])) rfl rfl rfl O_ fun s' rb' w2 r' st' hl'=> ?_
 refine k s' w2 rfl ((st'.swap (b:=[(b,_)])).writable 0 rfl (by simp)) fun w3 hw3=>⟨_,⟨b,s',rb',rfl,by simpa using r',rfl⟩,?_⟩
 exact(st'.swap (b:=[(b,[Vo true,Vs s])])).put0 hw3
theorem s_a {n:Nat} {R:WP} (st:St w0 (bs++fr) w) (o:WrO wr xs bs) (hn:n<2 ^ 64) (hl:xs.length+20≤140737488351232)
    (k:∀ bs' w',WrO wr (xs++varF n) bs'→St w0 (bs'++fr) w'→R w'):C_f wr (n:Int) w R:=by
 apply S_lc
 refine s_f st o ⟨fun h=>(by cases h),fun _=> ?_⟩
 refine⟨fun n1 w'=>∃(m f:Nat) (pre:List UInt8) (bs:List zf),n1=(m:Int)∧pre.length+f=9∧m<128 ^ (f+1)∧m<2 ^ 64∧pre++varB (f+1) m=varF n∧WrO wr (xs++pre) bs∧St w0 (bs++fr) w',fun n1 _=>n1.toNat,
  ⟨n,9,[],bs,rfl,rfl,by have:(2:Nat) ^ 64≤128 ^ (9+1):=D_
                        omega,hn,rfl,by simpa using o,st⟩,?_⟩
 rintro n1 w1 ⟨m,f,pre,bs,rfl,hpf,hm,hm64,hpre,o,st⟩
 unfold F_6c
 obtain⟨b,s,rb,rfl,r,rfl⟩:=o
 have e256:IntKind.u8.wrap (m:Int)=((m % 256:Nat):Int):=by rw [zKd]; omega
 refine⟨fun h=> ?_,fun h=> ?_⟩
 ·have h:=of_decide_eq_true h
  refine⟨rfl,s,st.cell 0 rfl rfl,fun b2 w3 hb hw=> ?_⟩
  refine zoh (x:=UInt8.ofNat (m % 128+128)) st r (by simp; omega) ?_ hb hw fun s' w4 _ hwr hput=>⟨rfl,hwr,fun w5 hw5=> ?_⟩
  ·rw [z0c O_,e256,show(128:Int)=((128:Nat):Int) from rfl,zOe rfl (by show _<256; omega) D_,zcp _ O_]
   congr 2
   omega
  ·obtain⟨bs',o',st'⟩:=hput w5 hw5
   have hd:Int.fdiv (m:Int) (2 ^ 7)=((m / 128:Nat):Int):=fdiv_nat m 128
   rw [hd]
   have hf:f≠0:=fun e=>by subst e; simp at hm; omega
   obtain⟨f,rfl⟩:=Nat.exists_eq_succ_of_ne_zero hf
   refine⟨⟨m / 128,f,pre++[UInt8.ofNat (m % 128+128)],bs',rfl,by simp; omega,?_,O_,?_,by simpa using o',st'⟩,by show Int.toNat _<Int.toNat _; omega⟩
   ·rw [Nat.div_lt_iff_lt_mul O_]
    rw [Nat.pow_succ] at hm
    exact hm
   ·rw [←hpre]
    conv=>rhs; rw [varB,if_neg O_]
    simp
 ·have h:=of_decide_eq_false h
  refine⟨rfl,s,st.cell 0 rfl rfl,fun b2 w3 hb hw=> ?_⟩
  refine zoh (x:=UInt8.ofNat m) st r (by simp; omega) ?_ hb hw fun s' w4 _ hwr hput=>⟨rfl,hwr,fun w5 hw5=> ?_⟩
  ·rw [z0c O_,e256]
   congr 2
   omega
  ·obtain⟨bs',o',st'⟩:=hput w5 hw5
   rw [varB,if_pos O_] at hpre
   rw [List.append_assoc,hpre] at o'
   exact k _ _ o' st'
theorem s_s {s:ByteArray} {R:WP} (st:St w0 (bs++fr) w) (o:WrO wr xs bs) (hl:xs.length+s.size+40≤140737488351232)
    (k:∀ bs' w',WrO wr (xs++(varF s.size++s.data.toList)) bs'→St w0 (bs'++fr) w'→R w'):C_Wb wr s w R:=by
 apply S_bc
 refine s_f st o ⟨fun h=>(by cases h),fun _=> ?_⟩
 rw [show IntKind.u64.wrap ((s.size:Nat):Int)=((s.size:Nat):Int) from zX _ O_ O_]
 refine s_a st o O_ O_ fun bs w2 o st=> ?_
 obtain⟨b,sl,rb,rfl,r,rfl⟩:=o
 have hv:=zwd 10 s.size
 have hsl:=r.len
 simp only [List.length_map,List.length_append] at hsl
 refine⟨rfl,sl,st.cell 0 rfl rfl,?_⟩
 have hsz:s.data.toList.length=s.size:=by simp
 refine r.append (l:=(b,[Vo true,Vs sl])::fr) (by exact st.swap (a:=[(b,[Vo true,Vs sl])])) (by simp [zcb]) (z6l _) rfl (by unfold varF at hsl; omega) fun s' rb' w3 r' st' hl'=> ?_
 refine⟨rfl,(st'.swap (b:=[(b,_)])).writable 0 rfl (by simp [poff]),fun w4 hw4=>k _ _ ⟨b,s',rb',rfl,?_,rfl⟩ ((st'.swap (b:=[(b,[Vo true,Vs sl])])).put0 (o:=1) hw4)⟩
 have e:zcb s=s.data.toList.map bV:=rfl
 rw [←List.append_assoc,List.map_append,←e]
 exact r'
theorem s_p {n:Nat} {width:Int} {R:Int→WP} (st:St w0 (bs++fr) w) (o:WrO wr xs bs) (hn:n<2 ^ 64) (hl:xs.length+20≤140737488351232)
    (k1:(width<1∨width>8)→R 1 w) (k3:1≤width→width≤8→256 ^ width.toNat≤n→R 3 w)
    (k0:1≤width→width≤8→n<256 ^ width.toNat→∀ bs' w',WrO wr (xs++fixB width.toNat n) bs'→St w0 (bs'++fr) w'→R 0 w'):C_Fb wr (n:Int) width w R:=by
 apply S_0b
 refine s_f st o ⟨fun h=>(by cases h),fun _=>⟨fun h=>k1 (by simpa using h),fun h=> ?_⟩⟩
 simp only [Bool.or_eq_false_iff,decide_eq_false_iff_not] at h
 obtain⟨W,rfl⟩:=toN (show 0≤width by omega)
 have h8:IntKind.i64.wrap (8*(W:Int))=((8*W:Nat):Int):=by rw [i64_in _ O_ O_]; omega
 have hp:(2:Nat) ^ (8*W)=256 ^ W:=by rw [Nat.pow_mul]
 have hdiv:Int.fdiv (n:Int) (2 ^ (min (((8*W:Nat):Int).toNat) 64))=((n / 256 ^ W:Nat):Int):=by
  rw [Int.toNat_natCast,Nat.min_eq_left O_,show((2:Int) ^ (8*W))=((2 ^ (8*W):Nat):Int) from by push_cast; rfl,fdiv_nat,hp]
 rw [h8,hdiv]
 rw [Int.toNat_natCast] at k3 k0
 have hpos:0<256 ^ W:=Nat.pow_pos O_
 refine⟨O_,fun hh=>k3 O_ O_ ?_,fun hh=> ?_⟩
 ·have hne:n / 256 ^ W≠0:=fun e=>by rw [e] at hh; simp at hh
  rcases Nat.lt_or_ge n (256 ^ W) with h3 | h3
  ·exact absurd (Nat.div_eq_of_lt h3) hne
  ·exact h3
 have hlt:n<256 ^ W:=by
  have h4:n / 256 ^ W=0:=by
   have:((n / 256 ^ W:Nat):Int)=0:=by simpa using hh
   omega
  rcases Nat.lt_or_ge n (256 ^ W) with h3 | h3
  ·exact h3
  ·have:=Nat.div_pos h3 hpos; omega
 have k0:=k0 O_ O_ hlt
 refine⟨fun n1 t w'=>∃(m j:Nat) (pre:List UInt8) (bs:List zf),n1=(m:Int)∧t=((W - j:Nat):Int)∧j≤W∧m<2 ^ 64∧pre.length+j=W∧pre++fixB j m=fixB W n∧WrO wr (xs++pre) bs∧St w0 (bs++fr) w',fun _ t _=>W - t.toNat,
  ⟨n,W,[],bs,rfl,by simp,Nat.le_refl _,hn,by simp,rfl,by simpa using o,st⟩,?_⟩
 rintro n1 t w1 ⟨m,j,pre,bs,rfl,rfl,hj,hm,hpj,hpre,o,st⟩
 unfold F_vc
 refine⟨fun h=> ?_,fun h=> ?_⟩
 ·have h:=of_decide_eq_true h
  have hj0:j≠0:=fun e=>by subst e; omega
  obtain⟨j,rfl⟩:=Nat.exists_eq_succ_of_ne_zero hj0
  obtain⟨b,s,rb,rfl,r,rfl⟩:=o
  have e256:IntKind.u8.wrap (m:Int)=((m % 256:Nat):Int):=by rw [zKd]; omega
  refine⟨rfl,s,st.cell 0 rfl rfl,fun b2 w3 hb hw=> ?_⟩
  refine zoh (x:=UInt8.ofNat (m % 256)) st r (by simp; omega) ?_ hb hw fun s' w4 _ hwr hput=>⟨rfl,hwr,fun w5 hw5=> ?_⟩
  ·rw [z0c O_,e256]
  ·obtain⟨bs',o',st'⟩:=hput w5 hw5
   have hd:Int.fdiv (m:Int) (2 ^ 8)=((m / 256:Nat):Int):=fdiv_nat m 256
   have wt:IntKind.i64.wrap (((W - (j+1):Nat):Int)+1)=((W - j:Nat):Int):=by rw [i64_in _ O_ O_]; omega
   rw [hd,wt]
   refine⟨⟨m / 256,j,pre++[UInt8.ofNat (m % 256)],bs',rfl,rfl,O_,O_,by simp; omega,?_,by simpa using o',st'⟩,by show _ - _<_ - _; omega⟩
   rw [←hpre]
   conv=>rhs; rw [fixB]
   simp
 ·have h:=of_decide_eq_false h
  obtain rfl:j=0:=O_
  rw [fixB,List.append_nil] at hpre
  rw [hpre] at o
  exact k0 _ _ o st
theorem s_gb {R:Slc→WP} (st:St w0 (bs++fr) w) (o:WrO wr xs bs) (hl:xs.length≤140737488351232)
    (k:∀ s rb w',RowC 1 s (xs.map bV) rb→St w0 (rb++(bs++fr)) w'→s.len=xs.length→R s w'):C_lc wr w R:=by
 apply S_cc
 refine s_f st o ⟨fun h=>(by cases h),fun _=> ?_⟩
 obtain⟨b,s,rb,rfl,r,rfl⟩:=o
 have hsl:=r.len
 rw [List.length_map] at hsl
 refine⟨rfl,s,st.cell 0 rfl rfl,?_⟩
 exact s_V st (r.src (st.drop1:St w0 (rb++fr) w)) O_ k
end
def zpb (v:Ver):List UInt8:=varF v.Number.toNat++(if v.Drop=true then fixB 1 1 else fixB 1 0++(varF v.Val.size++v.Val.data.toList))
def zxc (h:Hd):List UInt8:=(varF h.1.size++h.1.data.toList)++(varF h.2.length++h.2.flatMap zpb)
def encB (n:Int):List UInt8:=varF n.toNat
def encS (m:SvM):List UInt8:=varF m.mark.toNat++(varF m.bey.length++(m.bey.flatMap encB++(varF m.held.length++m.held.flatMap zxc)))
theorem zoe {n:Int} (h0:0≤n) (h1:n≤18446744073709551615):IntKind.u64.wrap n=((n.toNat:Nat):Int):=by rw [zX _ h0 O_]; omega
section
variable {w:World} {s:T_b} {m:SvM} {os:List HO} {b:Nat} {wr:OA}
theorem zph {α:Type} {l:List α} {p:Nat} {x:α} (h:l[p]? =some x):l.drop p=x::l.drop (p+1):=by
 obtain⟨h1,rfl⟩:=List.getElem?_eq_some_iff.1 h
 exact List.drop_eq_getElem_cons h1
/-- The versions of a key are written. -/
theorem s_Kd {w13:World} {again_1:Int→WP} {t50:Int} {o:HO} {xs T:List UInt8} {wbs fr:List zf} (hov:zh w o.2.2 3 (o.2.1.flatMap verT)) (hvl:o.2.2.len≤4398046511104) (hok:okC 0 o.2.1=true) (ow:WrO wr xs wbs) (st:St ⟨w,[]⟩ (wbs++fr) w13)
    (hl:(xs++(o.2.1.flatMap zpb++T)).length≤70368744177664)
    (k:∀ wbs' w',WrO wr (xs++o.2.1.flatMap zpb) wbs'→St ⟨w,[]⟩ (wbs'++fr) w'→again_1 (IntKind.i64.wrap (t50+1)) w') :
    ∃(I:Int→WP) (μ:Int→World→Nat),I 0 w13∧∀(t67:Int) w,I t67 w→F_xd wr t50 again_1 o.2.2 (fun(t67':Int) w'=>I t67' w'∧μ t67' w'<μ t67 w) t67 w:=by
 have hvlen:o.2.2.len=o.2.1.length:=by have:=hov.1; rw [zq (sz:=3) (fun _=>rfl)] at this; omega
 refine⟨fun i w'=>∃(q:Nat) (ys:List UInt8) (wbs:List zf),i=(q:Int)∧q≤o.2.2.len∧ys++(o.2.1.drop q).flatMap zpb=xs++o.2.1.flatMap zpb∧WrO wr ys wbs∧St ⟨w,[]⟩ (wbs++fr) w',fun i _=>o.2.2.len - i.toNat,
  ⟨0,xs,wbs,rfl,O_,by rw [List.drop_zero],ow,st⟩,?_⟩
 clear st ow
 rintro i w1 ⟨q,ys,wbs,rfl,hq,heq,ow,st⟩
 unfold F_xd
 refine⟨fun hi=> ?_,fun hi=> ?_⟩
 rotate_left
 ·have hi:=of_decide_eq_false hi
  rw [List.drop_eq_nil_of_le O_,List.flatMap_nil,List.append_nil] at heq
  rw [heq] at ow
  exact k wbs w1 ow st
 have hi:=of_decide_eq_true hi
 have wq:IntKind.i64.wrap ((q:Int)+1)=((q+1:Nat):Int):=by rw [i64_in _ O_ O_]; omega
 obtain⟨a,v,hv,hc⟩:=zh.getN (st.ext.src hov) (fun _=>rfl) D_ (i:=(q:Int)) O_ O_
 rw [Int.toNat_natCast] at hv hc
 rw [zph hv,List.flatMap_cons] at heq
 have hvok:=(zlh.1 hok).2 v (List.mem_of_getElem? hv)
 have hmay:=hvok.2
 unfold mayV at hmay
 simp only [Bool.and_eq_true,decide_eq_true_eq] at hmay
 have hlen:=congrArg List.length heq
 simp only [List.length_append] at hlen hl
 refine⟨a,O_,hi,v,by rw [Int.toNat_natCast]; exact hc,fun b2 w2 hb2 hw2=> ?_⟩
 have st2:=st.alloc hb2 hw2
 refine⟨st2.writable 0 rfl D_,fun w3 hw3=> ?_⟩
 have st3:St ⟨w,[]⟩ ((b2,verV v)::(wbs++fr)) w3:=st2.put0 hw3
 refine⟨v.Number,st3.cell 0 rfl rfl,?_⟩
 rw [zoe (n:=v.Number) O_ O_]
 have st3:St ⟨w,[]⟩ (wbs++((b2,verV v)::fr)) w3:=st3.pq
 refine s_a st3 ow (by have:=hmay.1.1.2; omega) O_ fun wbs4 w4 ow4 st4=> ?_
 have ev:(zpb v).length=(varF v.Number.toNat).length+(if v.Drop=true then fixB 1 1 else fixB 1 0++(varF v.Val.size++v.Val.data.toList)).length:=by unfold zpb; rw [List.length_append]
 have hv10:(varF v.Number.toNat).length≤10:=zwd _ _
 have fin:∀ {zs:List UInt8} {wbs':List zf} {w':World},zs=zpb v→WrO wr (ys++zs) wbs'→St ⟨w,[]⟩ (wbs'++((b2,verV v)::fr)) w'→F_Lc ((q:Nat):Int) (fun(t67':Int) w'=>(∃(q:Nat) (ys:List UInt8) (wbs:List zf),t67'=(q:Int)∧q≤o.2.2.len∧ys++(o.2.1.drop q).flatMap zpb=xs++o.2.1.flatMap zpb∧WrO wr ys wbs∧St ⟨w,[]⟩ (wbs++fr) w')∧o.2.2.len - t67'.toNat<o.2.2.len - ((q:Nat):Int).toNat) w':=by
  rintro zs wbs' w' rfl ow' st'
  unfold F_Lc
  rw [wq]
  exact⟨⟨q+1,ys++zpb v,wbs',rfl,O_,by rw [List.append_assoc]; exact heq,ow',st'.wq [(b2,verV v)]⟩,by show _ - _<_ - _; omega⟩
 have st4b:St ⟨w,[]⟩ ((b2,verV v)::(wbs4++fr)) w4:=st4.pq
 refine⟨v.Drop,st4b.cell 0 rfl rfl,fun hd=> ?_,fun hd=> ?_⟩
 ·refine s_p (n:=1) (width:=1) st4 ow4 D_ (by rw [List.length_append]; omega) (fun h=>by omega) (fun _ _ h=>by simp at h) fun _ _ _ wbs5 w5 ow5 st5=> ?_
  refine fin ?_ (by rw [List.append_assoc] at ow5; exact ow5) st5
  unfold zpb
  rw [if_pos hd]; rfl
 ·refine s_p (n:=0) (width:=1) st4 ow4 D_ (by rw [List.length_append]; omega) (fun h=>by omega) (fun _ _ h=>by simp at h) fun _ _ _ wbs5 w5 ow5 st5=> ?_
  have st5b:St ⟨w,[]⟩ ((b2,verV v)::(wbs5++fr)) w5:=st5.pq
  refine⟨v.Val,st5b.cell 0 rfl rfl,?_⟩
  have h1024:=hmay.1.2
  have hf1:(fixB (1:Int).toNat 0).length=1:=fixB_len _ _
  refine s_s st5 ow5 (by simp only [List.length_append,hf1]; omega) fun wbs6 w6 ow6 st6=> ?_
  refine fin ?_ (by rw [List.append_assoc,List.append_assoc] at ow6; exact ow6) st6
  unfold zpb
  rw [if_neg (by rw [hd]; decide)]; rfl
theorem s_hb {R:Slc→Int→WP} (ha:SvAt w s m os) (hl:(encS m).length≤70368744177664) (k1:¬ ckOk m→∀ w',Ext w w'→R ⟨none,0,0⟩ 1 w')
    (k0:ckOk m→∀ c rb w',RowC 1 c ((encS m).map bV) rb→St ⟨w,[]⟩ rb w'→c.len=(encS m).length→R c 0 w'):C_Jc s w R:=by
 apply S_Ic
 unfold F_7e
 intro b w1 hb hw1
 have st1:St ⟨w,[]⟩ [(b,svT s)] w1:=(St.start w).alloc hb hw1
 refine⟨s,(st1.get 0 rfl).all,s_A (ha.ext st1.ext) fun w2 e2=> ?_⟩
 have st2:=st1.keep e2
 by_cases hk:ckOk m
 rotate_left
 ·rw [zPf hk]
  exact⟨fun _=>k1 hk w2 st2.ext,fun h=>(by simp at h)⟩
 rw [zOf hk]
 refine⟨fun h=>(by simp at h),fun _=> ?_⟩
 have k0:=k0 hk
 have hmk:=ha.mark
 have hbl:=ha.bey.len_eq
 have hbl2:=ha.blen
 have hhl:=ha.hlen
 have hsl:s.Held.len=os.length:=by have:=ha.held.src.1; rw [zq (sz:=2) (fun _=>rfl)] at this; omega
 have hml:m.held.length=os.length:=by rw [←ha.hos,List.length_map]
 obtain⟨⟨hm0,hm1⟩,hrise,hload,_⟩:=hk
 have hL:=congrArg List.length (rfl:encS m=varF m.mark.toNat++(varF m.bey.length++(m.bey.flatMap encB++(varF m.held.length++m.held.flatMap zxc))))
 have v10:∀ n,(varF n).length≤10:=fun n=>zwd _ _
 have a1:=v10 m.mark.toNat
 have a2:=v10 m.bey.length
 have a3:=v10 m.held.length
 simp only [List.length_append] at hL
 refine s_bc st2 fun wr wb3 w3 ow3 st3=> ?_
 have st3b:St ⟨w,[]⟩ ((b,svT s)::wb3) w3:=st3.pq
 refine⟨s.Mark,st3b.cell 0 rfl rfl,?_⟩
 rw [hmk,zoe hm0 O_]
 refine s_a st3 ow3 O_ (by simp) fun wb4 w4 ow4 st4=> ?_
 rw [List.nil_append] at ow4
 have st4b:St ⟨w,[]⟩ ((b,svT s)::wb4) w4:=st4.pq
 refine⟨s.Beyond,st4b.cell 0 rfl rfl,?_⟩
 rw [zoe (n:=((s.Beyond.len:Nat):Int)) O_ O_,Int.toNat_natCast,hbl]
 refine s_a st4 ow4 O_ O_ fun wb5 w5 ow5 st5=> ?_
 have st5b:St ⟨w,[]⟩ ((b,svT s)::wb5) w5:=st5.pq
 refine⟨s.Beyond,st5b.cell 0 rfl rfl,fun i w'=>∃(p:Nat) (ys:List UInt8) (wbs:List zf),i=(p:Int)∧p≤s.Beyond.len∧ys++((m.bey.drop p).flatMap encB++(varF m.held.length++m.held.flatMap zxc))=encS m∧WrO wr ys wbs∧St ⟨w,[]⟩ (wbs++[(b,svT s)]) w',fun i _=>s.Beyond.len - i.toNat,
  ⟨0,_,wb5,rfl,O_,by rw [List.drop_zero,List.append_assoc]; rfl,ow5,st5⟩,?_⟩
 clear st5b st5 ow5 st4b st4 ow4 st3b st3 ow3 st2 e2 st1 hw1
 rintro i w6 ⟨p,ys,wbs,rfl,hp,heq,ow,st⟩
 have st0:St ⟨w,[]⟩ ((b,svT s)::wbs) w6:=st.pq
 unfold F_0d
 refine⟨fun hi=> ?_,fun hi=> ?_⟩
 ·have hi:=of_decide_eq_true hi
  have wp:IntKind.i64.wrap ((p:Int)+1)=((p+1:Nat):Int):=by rw [i64_in _ O_ O_]; omega
  obtain⟨a,x,hx,hc⟩:=zh.get (i:=(p:Int)) (st.ext.src ha.bey) O_ hi
  rw [Int.toNat_natCast] at hx
  rw [zph hx,List.flatMap_cons,List.append_assoc] at heq
  have hxb:=(zKc hrise).1 x (List.mem_of_getElem? hx)
  have hlen:=congrArg List.length heq
  rw [List.length_append] at hlen
  refine⟨a,O_,hi,x,hc,?_⟩
  rw [zoe (n:=x) O_ O_]
  refine s_a st ow O_ O_ fun wb7 w7 ow7 st7=> ?_
  rw [wp]
  exact⟨⟨p+1,ys++encB x,wb7,rfl,O_,by rw [List.append_assoc]; exact heq,ow7,st7⟩,by show _ - _<_ - _; omega⟩
 have hi:=of_decide_eq_false hi
 rw [List.drop_eq_nil_of_le O_,List.flatMap_nil,List.nil_append] at heq
 have hlen:=congrArg List.length heq
 rw [List.length_append] at hlen
 refine⟨s.Held,st0.cell 0 rfl rfl,?_⟩
 rw [zoe (n:=((s.Held.len:Nat):Int)) O_ O_,Int.toNat_natCast,hsl,←hml]
 refine s_a st ow O_ O_ fun wb7 w7 ow7 st7=> ?_
 have st7b:St ⟨w,[]⟩ ((b,svT s)::wb7) w7:=st7.pq
 refine⟨s.Held,st7b.cell 0 rfl rfl,fun i w'=>∃(p:Nat) (ys:List UInt8) (wbs:List zf),i=(p:Int)∧p≤s.Held.len∧ys++(m.held.drop p).flatMap zxc=encS m∧WrO wr ys wbs∧St ⟨w,[]⟩ (wbs++[(b,svT s)]) w',fun i _=>s.Held.len - i.toNat,
  ⟨0,_,wb7,rfl,O_,by rw [List.drop_zero,List.append_assoc]; exact heq,ow7,st7⟩,?_⟩
 clear st7b st7 ow7 st0 st ow heq hlen
 rintro i w8 ⟨p,ys,wbs,rfl,hp,heq,ow,st⟩
 unfold F_Zd
 refine⟨fun hi=> ?_,fun hi=> ?_⟩
 rotate_left
 ·have hi:=of_decide_eq_false hi
  rw [List.drop_eq_nil_of_le O_,List.flatMap_nil,List.append_nil] at heq
  subst heq
  exact s_gb st ow O_ fun c rb w9 rc st9 hcl=>k0 c rb w9 rc (st9.wq (wbs++[(b,svT s)])) hcl
 have hi:=of_decide_eq_true hi
 have wp:IntKind.i64.wrap ((p:Int)+1)=((p+1:Nat):Int):=by rw [i64_in _ O_ O_]; omega
 obtain⟨a,o,ho,hc⟩:=zh.getN (st.ext.src ha.held.src) (fun _=>rfl) D_ (i:=(p:Int)) O_ O_
 rw [Int.toNat_natCast] at ho hc
 have hom:=List.mem_of_getElem? ho
 have hod:m.held[p]? =some (hoD o):=by rw [←ha.hos]; exact zjd ho
 have hg:=hload.1 _ (List.mem_of_getElem? hod)
 obtain⟨hov,_⟩:=ha.held.ver o hom
 have hvl:=ha.vlen o hom
 have hvlen:o.2.2.len=o.2.1.length:=by have:=hov.1; rw [zq (sz:=3) (fun _=>rfl)] at this; omega
 rw [zph hod,List.flatMap_cons] at heq
 have heq2:ys++(((varF o.1.size++o.1.data.toList)++(varF o.2.1.length++o.2.1.flatMap zpb))++(m.held.drop (p+1)).flatMap zxc)=encS m:=heq
 have hlen:=congrArg List.length heq2
 simp only [List.length_append] at hlen
 refine⟨a,O_,hi,⟨o.1,o.2.2⟩,by rw [Int.toNat_natCast]; exact hc,fun b1 w9 hb1 hw9=> ?_⟩
 have st9:=st.alloc hb1 hw9
 refine⟨st9.writable 0 rfl D_,fun w10 hw10=> ?_⟩
 have st10:St ⟨w,[]⟩ ((b1,hoT o)::(wbs++[(b,svT s)])) w10:=st9.put0 hw10
 refine⟨o.1,st10.cell 0 rfl rfl,?_⟩
 have st10:St ⟨w,[]⟩ (wbs++((b1,hoT o)::[(b,svT s)])) w10:=st10.pq
 have h64:=hg.1.2
 have h64:o.1.size≤64:=h64
 refine s_s st10 ow O_ fun wb11 w11 ow11 st11=> ?_
 have st11b:St ⟨w,[]⟩ ((b1,hoT o)::(wb11++[(b,svT s)])) w11:=st11.pq
 refine⟨o.2.2,st11b.cell 0 rfl rfl,?_⟩
 rw [zoe (n:=((o.2.2.len:Nat):Int)) O_ O_,Int.toNat_natCast,hvlen]
 refine s_a st11 ow11 O_ (by simp only [List.length_append]; omega) fun wb12 w12 ow12 st12=> ?_
 have st12b:St ⟨w,[]⟩ ((b1,hoT o)::(wb12++[(b,svT s)])) w12:=st12.pq
 refine⟨o.2.2,st12b.cell 0 rfl rfl,?_⟩
 refine s_Kd (T:=[]) (o:=o) hov hvl hg.2.2 ow12 st12 (by simp only [List.length_append,List.length_nil]; omega) fun wb13 w13 ow13 st13=> ?_
 rw [wp]
 refine⟨⟨p+1,_,wb13,rfl,O_,?_,ow13,st13.wq [(b1,hoT o)]⟩,by show _ - _<_ - _; omega⟩
 rw [←heq2]
 simp only [List.append_assoc]
end
def mkS (l:List UInt8):ByteArray:=⟨l.toArray⟩
theorem zNg (l:List UInt8):zcb (mkS l)=l.map bV:=rfl
theorem z6h (l:List UInt8):(mkS l).size=l.length:=by simp [mkS,ByteArray.size]
theorem mkS_toList (l:List UInt8):(mkS l).data.toList=l:=by simp [mkS]
def zV (most:Int) (s:RS):RS×List UInt8 :=
 if s.code≠0 then(s,[]) else if most<0 then(⟨s.rest,1⟩,[]) else if(shF s.rest).2.2≠0 then(⟨s.rest,(shF s.rest).2.2⟩,[])
 else if((shF s.rest).1:Int)>most then(⟨s.rest,3⟩,[]) else if(shF s.rest).1>s.rest.length - (shF s.rest).2.1 then(⟨s.rest,5⟩,[])
 else(⟨s.rest.drop ((shF s.rest).2.1+(shF s.rest).1),0⟩,(s.rest.drop (shF s.rest).2.1).take (shF s.rest).1)
section
variable {w0:Base} {w:World} {fr bs:List zf} {r:OA} {s:RS}
theorem s_t {most:Int} {R:ByteArray→WP} (st:St w0 (bs++fr) w) (o:RdO r s bs) (hm0: -9223372036854775808≤most) (hm1:most≤9223372036854775807) (hl:s.rest.length≤140737488351232)
    (k:∀ bs' w',RdO r (zV most s).1 bs'→St w0 (bs'++fr) w'→R (mkS (zV most s).2) w'):C_Zb r most w R:=by
 apply S_fc
 intro b w1 hb hw b1 w2 hb1 hw1
 have st1:St w0 (bs++((b1,[Value.string (mkS [])])::(b,[Vi most])::fr)) w2:=((st.alloc hb hw).alloc hb1 hw1).perm (((List.perm_middle.symm).cons _).trans (List.perm_middle.symm))
 have fin:∀ {v:ByteArray} {bs':List zf} {w3:World},St w0 (bs'++((b1,[Value.string v])::(b,[Vi most])::fr)) w3→(∀ w',St w0 (bs'++fr) w'→R v w') →
     ∃ v:ByteArray,w3.cell? ⟨b1,0,none⟩=some (Value.string v)∧(zd w3 b1 0 1∧(∀ w4,w4=World.puts b1 0 [Value.string v] w3→(∃ res:ByteArray,ze w4 b1 0 [Value.string res]∧(R res w4)))):=fun st k =>
  zid (f:=fun x:ByteArray=>Value.string x) st fun w' st'=>k _ st'.unmid.drop1
 obtain⟨hb1',hb2,hb3⟩:=zMf s.rest
 refine s_eb st1 o (fun hc=> ?_) (fun hc sl hs hlen hcap=> ?_)
 ·refine fin (v:=mkS []) st1 fun w' st'=> ?_
  have:=k bs w'
  unfold zV at this
  rw [if_pos hc] at this
  exact this o st'
 ·unfold zV at k
  rw [if_neg O_] at k
  refine zU.mk (all:=#[Vs sl,Vp (some ⟨b,0,none⟩),Vp (some ⟨b1,0,none⟩)]) K_ rfl ?_
  refine S_Tb (b_:=sl) (t1:=some ⟨b,0,none⟩) (t2:=some ⟨b1,0,none⟩) ?_
  unfold F_Vd
  have cb:w2.cell? ⟨b,0,none⟩=some (Vi most):=(st1.unmid).drop1.unmid.cell 0 rfl rfl
  have bad:∀ {e:Int},e≠0→(∀ bs' w',RdO r ⟨s.rest,e⟩ bs'→St w0 (bs'++fr) w'→R (mkS []) w')→∀ {n:Int},∃ fr',St w0 (bs++fr') w2∧(e≠0→∀ bs' w3,RdO r ⟨s.rest,e⟩ bs'→St w0 (bs'++fr') w3 →
      (∃ v:ByteArray,w3.cell? ⟨b1,0,none⟩=some (Value.string v)∧(zd w3 b1 0 1∧(∀ w4,w4=World.puts b1 0 [Value.string v] w3→(∃ res:ByteArray,ze w4 b1 0 [Value.string res]∧(R res w4)))))) ∧
      (e=0→0≤n∧n≤(s.rest.length:Int)∧∀ bs' w3,RdO r ⟨s.rest.drop n.toNat,0⟩ bs'→St w0 (bs'++fr') w3 →
      (∃ v:ByteArray,w3.cell? ⟨b1,0,none⟩=some (Value.string v)∧(zd w3 b1 0 1∧(∀ w4,w4=World.puts b1 0 [Value.string v] w3→(∃ res:ByteArray,ze w4 b1 0 [Value.string res]∧(R res w4)))))):=fun he k n =>
   ⟨_,st1,fun _ bs' w3 o' st3=>fin (v:=mkS []) st3 fun w' st'=>k bs' w' o' st',fun h=>absurd h he⟩
  refine⟨rfl,most,cb,fun h=> ?_,fun h=> ?_⟩
  ·have h:=of_decide_eq_true h
   rw [if_pos h] at k
   exact bad D_ k
  have h:=of_decide_eq_false h
  rw [if_neg h] at k
  refine s_8b (hs _ _ st1) ⟨fun he=> ?_,fun he=> ?_⟩
  ·have he:(shF s.rest).2.2≠0:=by simpa using he
   rw [if_pos he] at k
   exact bad he k
  have he:(shF s.rest).2.2=0:=by simpa using he
  rw [if_neg O_] at k
  have wm:IntKind.u64.wrap most=most:=zX _ O_ O_
  refine⟨rfl,most,cb,fun h2=> ?_,fun h2=> ?_⟩
  ·rw [wm] at h2
   have h2:=of_decide_eq_true h2
   rw [if_pos h2] at k
   exact bad D_ k
  rw [wm] at h2
  have h2:=of_decide_eq_false h2
  rw [if_neg h2] at k
  have wl:IntKind.u64.wrap (IntKind.i64.wrap (((sl.len:Nat):Int) - ((shF s.rest).2.1:Int)))=((s.rest.length - (shF s.rest).2.1:Nat):Int):=by
   rw [i64_in _ O_ O_,zX _ O_ O_]; omega
  rw [wl]
  refine⟨fun h3=> ?_,fun h3=> ?_⟩
  ·have h3:=of_decide_eq_true h3
   rw [if_pos O_] at k
   exact bad D_ k
  have h3:=of_decide_eq_false h3
  rw [if_neg O_] at k
  have wn:IntKind.i64.wrap (((shF s.rest).2.1:Int)+IntKind.i64.wrap ((shF s.rest).1:Int))=(((shF s.rest).2.1+(shF s.rest).1:Nat):Int):=by
   rw [i64_in ((shF s.rest).1:Int) O_ O_,i64_in _ O_ O_]; omega
  simp only [wn]
  refine⟨⟨O_,O_,O_,O_⟩,fun sc hsc=> ?_⟩
  have hcut:=(hs _ _ st1).cut (lo:=((shF s.rest).2.1:Int)) (hi:=(((shF s.rest).2.1+(shF s.rest).1:Nat):Int)) (mx:=((sl.cap:Nat):Int)) O_ O_ O_ O_
  rw [←hsc] at hcut
  simp only [Int.toNat_natCast,Nat.mul_one] at hcut
  rw [show(shF s.rest).2.1+(shF s.rest).1 - (shF s.rest).2.1=(shF s.rest).1 from by omega,←List.map_drop,←List.map_take] at hcut
  refine⟨mkS ((s.rest.drop (shF s.rest).2.1).take (shF s.rest).1),by rw [zNg]; exact hcut,rfl,st1.unmid.writable 0 rfl (by simp [poff]),fun w3 hw3=> ?_⟩
  have st3:St w0 (bs++((b1,[Value.string (mkS ((s.rest.drop (shF s.rest).2.1).take (shF s.rest).1))])::(b,[Vi most])::fr)) w3:=(st1.unmid.put0 hw3).mid
  refine⟨_,st3,fun hh=>absurd rfl hh,fun _=>⟨O_,O_,fun bs' w4 o' st4=>fin st4 fun w' st'=> ?_⟩⟩
  rw [Int.toNat_natCast] at o'
  exact k bs' w' o' st'
end
theorem zqh:∀(k n:Nat),n<256 ^ k→leV (fixB k n)=n
 | 0,n,h=>by simp at h; simp [fixB,leV,h]
 | k+1,n,h=>by
  have hc:(UInt8.ofNat (n % 256)).toNat=n % 256:=by rw [UInt8.toNat_ofNat']; omega
  rw [fixB,leV,hc,zqh k (n / 256) (by rw [Nat.div_lt_iff_lt_mul O_]; rw [Nat.pow_succ] at h; exact h)]
  omega
theorem z7l (f n:Nat):varB (f+1) n≠[]:=by unfold varB; split <;> simp
theorem znj (n:Nat):varF n≠[]:=z7l 9 n
theorem zOg:∀(l:List UInt8) (i acc v sz:Nat),i≤9→shA i acc l=(v,sz,0) →
    ∃ m,v=acc+m*128 ^ i∧(0<i→0<m)∧l.take (sz - i)=varB (10 - i) m∧sz=i+(varB (10 - i) m).length
 | [],i,acc,v,sz,_,h=>by simp [shA] at h
 | c::r,i,acc,v,sz,hi,h=>by
  have hb:=c.toNat_lt
  unfold shA at h
  split at h
  ·simp at h
  ·rename_i hne
   obtain⟨f,hf⟩:∃ f,10 - i=f+1:=⟨9 - i,O_⟩
   rw [hf]
   split at h
   ·rename_i hlt
    simp only [Prod.mk.injEq,and_true] at h
    obtain⟨rfl,rfl⟩:=h
    have e:varB (f+1) c.toNat=[c]:=by
     unfold varB
     rw [if_pos hlt]
     simp
    refine⟨c.toNat,by rw [Nat.mod_eq_of_lt hlt],fun h0=>by omega,?_,by rw [e]; rfl⟩
    rw [e,show i+1 - i=1 from by omega]
    rfl
   ·rename_i hge
    have h9:i≠9:=fun h9=>by omega
    obtain⟨m',hv,hpos,htake,hsz⟩:=zOg r (i+1) _ v sz O_ h
    have hm':=hpos O_
    have hf2:10 - (i+1)=f:=O_
    rw [hf2] at htake hsz
    have e:varB (f+1) (c.toNat % 128+128*m')=c::varB f m':=by
     rw [varB,if_neg O_]
     have e1:(c.toNat % 128+128*m') % 128+128=c.toNat:=O_
     have e2:(c.toNat % 128+128*m') / 128=m':=O_
     rw [e1,e2]
     simp
    refine⟨c.toNat % 128+128*m',?_,fun _=>by omega,?_,by rw [e,List.length_cons]; omega⟩
    ·rw [hv,Nat.add_mul,Nat.pow_succ,Nat.mul_assoc 128,Nat.mul_comm 128 (m'*128 ^ i),Nat.mul_assoc m',Nat.add_assoc]
    ·rw [e,show sz - i=(sz - (i+1))+1 from by omega,List.take_succ_cons,htake]
theorem zPg {l:List UInt8} (h:(shF l).2.2=0):l.take (shF l).2.1=varF (shF l).1∧(shF l).2.1=(varF (shF l).1).length:=by
 obtain⟨m,hv,_,ht,hs⟩:=zOg l 0 0 (shF l).1 (shF l).2.1 O_ (by
  have:shF l=((shF l).1,(shF l).2.1,(shF l).2.2):=rfl
  rw [h] at this; exact this)
 simp only [Nat.pow_zero,Nat.mul_one,Nat.zero_add,Nat.sub_zero] at hv ht hs
 subst hv
 exact⟨ht,hs⟩
theorem z6e {most:Int} (h0:0≤most) (l:List UInt8):(∃ c,c≠0∧zV most ⟨l,0⟩=(⟨l,c⟩,[])) ∨
    ∃ key r,zV most ⟨l,0⟩=(⟨r,0⟩,key)∧l=varF key.length++(key++r)∧(key.length:Int)≤most:=by
 unfold zV
 simp only
 rw [if_neg (by simp),if_neg O_]
 obtain⟨hb1,hb2,hb3⟩:=zMf l
 by_cases he:(shF l).2.2=0
 ·rw [if_neg O_]
  by_cases c1:((shF l).1:Int)>most
  ·rw [if_pos c1]; exact .inl ⟨3,D_,rfl⟩
  rw [if_neg c1]
  by_cases c2:(shF l).1>l.length - (shF l).2.1
  ·rw [if_pos c2]; exact .inl ⟨5,D_,rfl⟩
  rw [if_neg c2]
  obtain⟨d1,d2⟩:=zPg he
  have e2:((l.drop (shF l).2.1).take (shF l).1).length=(shF l).1:=by rw [List.length_take,List.length_drop]; omega
  refine .inr ⟨_,_,rfl,?_,by rw [e2]; omega⟩
  rw [e2,←d1,←List.drop_drop,List.take_append_drop,List.take_append_drop]
 ·rw [if_pos he]; exact .inl ⟨_,he,rfl⟩
theorem zxd (l:List UInt8):(∃ c,c≠0∧varR ⟨l,0⟩=(⟨l,c⟩,0))∨∃ n r,varR ⟨l,0⟩=(⟨r,0⟩,n)∧l=varF n++r∧n<2 ^ 64:=by
 unfold varR
 simp only
 rw [if_neg (by simp)]
 obtain⟨hb1,hb2,hb3⟩:=zMf l
 by_cases he:(shF l).2.2=0
 ·rw [if_neg O_]
  obtain⟨d1,d2⟩:=zPg he
  refine .inr ⟨_,_,rfl,?_,hb1⟩
  rw [←d1,List.take_append_drop]
 ·rw [if_pos he]; exact .inl ⟨_,he,rfl⟩
theorem zQf (l:List UInt8):(l=[]∧fixR 1 ⟨l,0⟩=(⟨l,5⟩,0))∨∃ c r,fixR 1 ⟨l,0⟩=(⟨r,0⟩,c)∧l=fixB 1 c++r∧c<256:=by
 cases l with
 | nil=>exact .inl ⟨rfl,rfl⟩
 | cons c r =>
  have hb:=c.toNat_lt
  refine .inr ⟨c.toNat,r,?_,?_,hb⟩
  ·unfold fixR
   rw [if_neg (by simp),if_neg O_,if_neg (by simp only [List.length_cons]; omega)]
   show((⟨r,0⟩:RS),c.toNat+256*0)=_
   simp
  ·show c::r=UInt8.ofNat (c.toNat % 256)::r
   rw [Nat.mod_eq_of_lt hb]; simp
end Go.Proofs.YtjlfdepkphibgaaGreatDoor
