/- A replica is made, over a new disk. -/
import Derived.Test.YtofjmclceflgiaaGreatM1
import Derived.Test.YtofjmclceflgiaaGreatGdeps
import Derived.Test.YtofjmclceflgiaaGreatGF
import Derived.Lib.SortBridge
import Derived.Shelf.Sort.Plain
import Derived.Shelf.Slices.In.SortNone
import Derived.Ground.NamesProg
import Derived.Test.YtofjmclceflgiaaGreatGchain
import Derived.Test.YtofjmclceflgiaaGreatGslices
import Derived.Test.YtofjmclceflgiaaGreatGsort
import Derived.Test.YtofjmclceflgiaaGreatGshard
import Derived.Test.YtofjmclceflgiaaGreatGring
import Derived.Test.YtofjmclceflgiaaGreatGowner
import Derived.Test.YtofjmclceflgiaaGreatGreplica
import Derived.Test.YtofjmclceflgiaaGreatGslots
import Derived.Test.YtofjmclceflgiaaGreatGdisk
import Derived.Test.YtofjmclceflgiaaGreatGdump
namespace Go.Proofs.YtofjmclceflgiaaGreat
open Go
set_option linter.unusedVariables false
set_option linter.unusedSimpArgs false

abbrev mV (m:Nat):Value:=Value.map (some m)
abbrev pV (a b:Int):Value:=Value.agg #[Vi a,Vi b]
def wcnt (n:Int) (Wt:List (Int×Int)):Nat:=(Wt.filter fun p=>decide (p.1=n)).length
structure DepS (top:Int) (opn:List Int) (Wt:List (Int×Int)) (e1:Array MapEntry) (c1:Nat) (e2:Array MapEntry) (c2:Nat) (e3:Array MapEntry) (c3:Nat):Prop where
 o1:MOk isKS e1 c1
 o2:MOk isKI e2 c2
 o3:MOk isKP e3 c3
 v1:∀ k u,zK e1 k=some u→∃ i:Int,u=Vi i∧0≤i∧i≤65536
 v2:∀ n,zK e2 (Vi n)=if n∈opn then some (Vi (wcnt n Wt)) else none
 v3:∀ a b,zK e3 (pV a b)=if(a,b)∈Wt then some (Vo true) else none
 tp:0≤top∧top≤65536
 op:∀ x∈opn,1≤x∧x≤top
 wd:Wt.Nodup
 wp:∀ p∈Wt,p.1∈opn∧p.2∈opn
 wl:Wt.length≤32*top.toNat
def DepO (t:OA) (top:Int) (opn:List Int) (Wt:List (Int×Int)) (dm:List (Nat×Obj)) (bs:List zg):Prop :=
 ∃ b m1 m2 m3 e1 c1 e2 c2 e3 c3,t=some ⟨b,0,none⟩∧bs=[(b,[mV m1,mV m2,mV m3,Vi top])]∧dm=[(m1,.map e1 c1),(m2,.map e2 c2),(m3,.map e3 c3)]∧DepS top opn Wt e1 c1 e2 c2 e3 c3
section
variable {W:World} {m0 dm:List (Nat×Obj)} {w:World} {fr bs:List zg} {t:OA} {top:Int} {opn:List Int} {Wt:List (Int×Int)}
theorem s_s {R:OA→WP} (st:St ⟨W,m0⟩ fr w) (k:∀ t dm bs w',DepO t 0 [] [] dm bs→St ⟨W,dm++m0⟩ (bs++fr) w'→R t w'):C_Vb w R:=by
 apply S_7b
 unfold F_Kd
 intro b1 w1 hb1 hw1 b2 w2 hb2 hw2 b3 w3 hb3 hw3 b4 w4 hb4 hw4
 have st:=(((st.mnew hb1 hw1).mnew hb2 hw2).mnew hb3 hw3).alloc hb4 hw4
 have st:St ⟨W,[(b1,.map #[] 0),(b2,.map #[] 0),(b3,.map #[] 0)]++m0⟩ ([(b4,[mV b1,mV b2,mV b3,Vi 0])]++fr) w4:=st.mperm (za fun f_=>by simp <;> omega)
 have hn:∀ k,zK #[] k=none:=fun k=>zuc fun e he=>(by cases he)
 exact k _ _ _ _ ⟨b4,b1,b2,b3,_,_,_,_,_,_,rfl,rfl,rfl,⟨MOk.empty,MOk.empty,MOk.empty,fun k u h=>(by rw [hn] at h; cases h),fun n=>hn _,fun a b=>hn _,O_,fun x hx=>(by cases hx),List.nodup_nil,fun p hp=>(by cases hp),Nat.zero_le _⟩⟩ st
theorem s_p {R:Bool→WP} (o:DepO t top opn Wt dm bs) (st:St ⟨W,dm++m0⟩ (bs++fr) w) (k:R false w):C_Y t w R:=by
 apply S_cb
 unfold F_Lc
 obtain⟨b,m1,m2,m3,e1,c1,e2,c2,e3,c3,rfl,rfl,rfl,s⟩:=o
 exact⟨fun h=>(by cases h),fun _=>⟨rfl,some m1,st.cell 0 rfl rfl,k⟩⟩
theorem wcnt_app {n:Int} {a b:List (Int×Int)}:wcnt n (a++b)=wcnt n a+wcnt n b:=by unfold wcnt; rw [List.filter_append,List.length_append]
theorem wcnt_U (x:Int) (U:List Int):wcnt x (U.map fun u=>(x,u))=U.length:=by
 unfold wcnt
 rw [List.filter_eq_self.2 fun p hp=> ?_,List.length_map]
 obtain⟨u,_,rfl⟩:=List.mem_map.1 hp
 exact decide_eq_true rfl
theorem zGd {n:Int} {Wt:List (Int×Int)} (h:∀ p∈Wt,p.1≠n):wcnt n Wt=0:=by
 unfold wcnt
 rw [List.filter_eq_nil_iff.2 fun p hp=>by simpa using h p hp]; rfl
theorem s_mb {x:T_b} {ws:List Wr} {R:Int→Int→WP} (o:DepO t top opn Wt dm bs) (st:St ⟨W,dm++m0⟩ (bs++fr) w) (hs:∀ mp l' w',St ⟨W,mp⟩ (l'++fr) w'→zr w' x.Writes 3 (ws.flatMap wV)) (ok:okT x.Number ws) (ht:top<x.Number)
    (k:∀(U:List Int) dm' bs' w',U.Nodup→(∀ u∈U,u∈opn)→DepO t x.Number (x.Number::opn) (Wt++U.map fun u=>(x.Number,u)) dm' bs'→St ⟨W,dm'++m0⟩ (bs'++fr) w'→R (U.length:Nat) 0 w'):C_7 t x w R:=by
 apply S_yb
 unfold F_4c
 intro b_ w1 hb hw
 have st:St ⟨W,dm++m0⟩ (bs++((b_,txW x.Number x.Writes)::fr)) w1:=(st.alloc hb hw).mid
 have o':=o
 obtain⟨b,m1,m2,m3,e1,c1,e2,c2,e3,c3,rfl,rfl,rfl,s⟩:=o
 refine s_p o' st ⟨fun h=>(by cases h),fun _=>⟨x,(st.get 1 rfl).all,?_⟩⟩
 have hsl:∀ {mp l' w'},St ⟨W,mp⟩ (l'++((b_,txW x.Number x.Writes)::fr)) w'→zr w' x.Writes 3 (ws.flatMap wV):=fun {mp l' w'} st=>hs mp (l'++[(b_,txW x.Number x.Writes)]) w' (by simpa using st)
 have hsrc:=hsl st
 have hlen:=zkd hsrc
 have hl32:=ok.2.2.1
 refine s_m hsrc O_ fun w2 ex2=> ?_
 rw [if_pos ok]
 refine⟨fun h=>(by cases h),fun _=> ?_⟩
 have st:=st.keep ex2
 refine⟨x.Number,st.cell 1 rfl rfl,rfl,top,st.cell 0 rfl rfl,fun w3 ex3=>⟨fun h=> ?_,fun _=> ?_⟩⟩
 ·have:=of_decide_eq_true h; omega
 have st:=st.keep ex3
 refine⟨x.Writes,st.cell 1 rfl rfl,?_⟩
 have hxn:x.Number∉opn:=fun h=>by have:=s.op _ h; omega
 have hx1:=ok.1
 have hx2:=ok.2.1
 refine⟨fun n i w'=>∃(p:Nat) (U:List Int) (e3:Array MapEntry) (c3:Nat),i=(p:Int)∧p≤x.Writes.len∧n=((U.length:Nat):Int)∧U.length≤p∧U.Nodup∧(∀ u∈U,u∈opn)∧MOk isKP e3 c3∧(∀ a b,zK e3 (pV a b)=if(a,b)∈Wt++U.map (fun u=>(x.Number,u)) then some (Vo true) else none) ∧
  St ⟨W,[(m1,.map e1 c1),(m2,.map e2 c2),(m3,.map e3 c3)]++m0⟩ ([(b,[mV m1,mV m2,mV m3,Vi top])]++((b_,txW x.Number x.Writes)::fr)) w',fun _ i _=>x.Writes.len - i.toNat,
  ⟨0,[],e3,c3,rfl,O_,rfl,by simp,List.nodup_nil,fun u h=>(by cases h),s.o3,by simpa using s.v3,st⟩,?_⟩
 clear st hsrc
 rintro n i w4 ⟨p,U,e3,c3,rfl,hp,rfl,hUp,hUn,hUo,o3,v3,st⟩
 unfold F_Cb
 refine⟨fun hi=> ?_,fun hi=> ?_⟩
 ·have hi:=of_decide_eq_true hi
  obtain⟨a,y,hy,hc⟩:=zwf (hsl st) (i:=p) O_
  have wp:IntKind.i64.wrap ((p:Int)+1)=((p+1:Nat):Int):=by rw [i64_in _ O_ O_]; omega
  refine⟨a,O_,hi,y,by rw [Int.toNat_natCast]; exact hc,fun b1 w5 hb1 hw5=> ?_⟩
  have st:=st.alloc hb1 hw5
  refine⟨st.writable 0 rfl (by simp),fun w6 hw6 w7 ex7=> ?_⟩
  have st:St _ ((b1,wV y)::_) w7:=(st.put0 hw6).drew ex7
  refine⟨x.Number,st.cell 2 rfl rfl,rfl,some m1,st.cell 1 rfl rfl,y.Key,st.cell 0 rfl rfl,?_⟩
  have hv:∃ l:Int,(zK e1 (.string y.Key)).getD (Vi 0)=Vi l∧0≤l∧l≤65536:=by
   cases h:zK e1 (.string y.Key) with
   | none=>exact⟨0,rfl,O_,O_⟩
   | some u=>exact s.v1 _ _ h
  obtain⟨l,hl,hl0,hl1⟩:=hv
  refine⟨e1,l,(zK e1 (.string y.Key)).isSome,.inr ⟨m1,c1,rfl,st.objAt 0 rfl⟩,s.o1.all,s.o1.nodup,⟨_,rfl⟩,MOk.lkIs' hl rfl,fun b2 w8 hb2 hw8=> ?_⟩
  have st:=st.alloc hb2 hw8
  refine⟨.inr ⟨m1,c1,rfl,st.objAt 0 rfl⟩,st.cell 1 rfl rfl,st.cell 2 rfl rfl,st.cell 3 rfl rfl,st.writable 0 rfl (by simp),fun w9 hw9=> ?_⟩
  have st:St _ ((b2,[Vi x.Number,Vi l])::_) w9:=st.put0 hw9
  have hgo:(zK e2 (Vi l)).isSome=decide (l∈opn):=by
   rw [s.v2]
   by_cases h:l∈opn <;> simp [h]
  have hgv:∃ z:Int,(zK e2 (Vi l)).getD (Vi 0)=Vi z:=by
   rw [s.v2]
   by_cases h:l∈opn
   ·exact⟨_,by rw [if_pos h]; rfl⟩
   ·exact⟨0,by rw [if_neg h]; rfl⟩
  obtain⟨z,hz⟩:=hgv
  refine⟨rfl,some m2,st.cell 2 rfl rfl,O_,O_,l,st.cell 0 rfl rfl,e2,z,decide (l∈opn),.inr ⟨m2,c2,rfl,st.objAt 1 rfl⟩,s.o2.all,s.o2.nodup,⟨_,rfl⟩,MOk.lkIs' hz hgo,fun w10 ex10=>⟨fun hop=> ?_,fun hop=> ?_⟩⟩
  ·have hop:=of_decide_eq_true hop
   have st:=st.keep ex10
   have hin:isKP (pV x.Number l):=⟨x.Number,l,rfl,O_,O_⟩
   have hw3:(zK e3 (pV x.Number l)).getD (Vo false)=Vo (decide ((x.Number,l)∈Wt++U.map fun u=>(x.Number,u))):=by
    rw [v3]
    by_cases h:(x.Number,l)∈Wt++U.map fun u=>(x.Number,u)
    ·rw [if_pos h,decide_eq_true h]; rfl
    ·rw [if_neg h,decide_eq_false h]; rfl
   refine⟨rfl,some m3,st.cell 2 rfl rfl,⟨x.Number,l⟩,(st.get 0 rfl).all,e3,_,_,.inr ⟨m3,c3,rfl,st.objAt 2 rfl⟩,o3.all,o3.nodup,hin,MOk.lkIs' hw3 rfl,fun w11 ex11=> ?_⟩
   have st:=st.keep ex11
   have hmU:(x.Number,l)∈Wt++U.map (fun u=>(x.Number,u))↔l∈U:=by
    rw [List.mem_append]
    constructor
    ·rintro(h | h)
     ·exact absurd (s.wp _ h).1 hxn
     ·obtain⟨u,hu,e⟩:=List.mem_map.1 h
      rw [←(Prod.mk.inj e).2]; exact hu
    ·exact fun h=> .inr (List.mem_map.2 ⟨l,h,rfl⟩)
   unfold F_Q
   refine⟨fun hn=>fun w12 ex12=> ?_,fun hn=> ?_⟩
   ·have hn:(x.Number,l)∉Wt++U.map (fun u=>(x.Number,u)):=by simpa using hn
    have hlU:l∉U:=fun h=>hn (hmU.2 h)
    have st:=st.drew ex12
    refine⟨rfl,some m3,st.cell 2 rfl rfl,⟨x.Number,l⟩,(st.get 0 rfl).all,m3,e3,c3,rfl,st.objAt 2 rfl,o3.all,o3.nodup,hin,fun e4 c4 w13 hset hw13=> ?_⟩
    have st:=st.mset (a:=[(m1,.map e1 c1),(m2,.map e2 c2)]) hw13
    obtain⟨o4,v4a,v4b⟩:=o3.set hin hset
    unfold F_D
    have wn:IntKind.i64.wrap (((U.length:Nat):Int)+1)=(((U++[l]).length:Nat):Int):=by rw [i64_in _ O_ O_,List.length_append]; simp
    rw [wp,wn]
    refine⟨⟨p+1,U++[l],e4,c4,rfl,O_,rfl,by rw [List.length_append]; simp; omega,List.nodup_append.2 ⟨hUn,by simp,fun q hq r hr e=> ?_⟩,fun u hu=> ?_,o4,fun q r=> ?_,st.drop1.drop1⟩,by show _ - _<_ - _; omega⟩
    ·have:r=l:=by simpa using hr
     exact hlU (by rw [←this,←e]; exact hq)
    ·rcases List.mem_append.1 hu with hu | hu
     ·exact hUo u hu
     ·have:u=l:=by simpa using hu
      rw [this]; exact hop
    ·by_cases hqr:q=x.Number∧r=l
     ·obtain⟨rfl,rfl⟩:=hqr
      rw [v4a,if_pos (by simp)]
     ·rw [v4b _ (fun e=>hqr (by
        have e:pV q r=pV x.Number l:=e
        simpa using e)),v3]
      have:((q,r)∈Wt++(U++[l]).map fun u=>(x.Number,u))↔((q,r)∈Wt++U.map fun u=>(x.Number,u)):=by
       rw [List.map_append,←List.append_assoc,List.mem_append]
       constructor
       ·rintro(h | h)
        ·exact h
        ·have:q=x.Number∧r=l:=by simpa using h
         exact absurd this hqr
       ·exact .inl
      simp only [this]
   ·unfold F_D
    rw [wp]
    exact⟨⟨p+1,U,e3,c3,rfl,O_,rfl,O_,hUn,hUo,o3,v3,st.drop1.drop1⟩,by show _ - _<_ - _; omega⟩
  ·intro w11 ex11
   have st:=(st.keep ex10).keep ex11
   unfold F_Q
   refine⟨fun h=>(by cases h),fun _=> ?_⟩
   unfold F_D
   rw [wp]
   exact⟨⟨p+1,U,e3,c3,rfl,O_,rfl,O_,hUn,hUo,o3,v3,st.drop1.drop1⟩,by show _ - _<_ - _; omega⟩
 ·have hl32':U.length≤65536:=O_
  refine⟨x.Writes,st.cell 1 rfl rfl,?_⟩
  refine⟨fun i w'=>∃(p:Nat) (e1:Array MapEntry) (c1:Nat),i=(p:Int)∧p≤x.Writes.len∧MOk isKS e1 c1∧(∀ k u,zK e1 k=some u→∃ i:Int,u=Vi i∧0≤i∧i≤65536) ∧
   St ⟨W,[(m1,.map e1 c1),(m2,.map e2 c2),(m3,.map e3 c3)]++m0⟩ ([(b,[mV m1,mV m2,mV m3,Vi top])]++((b_,txW x.Number x.Writes)::fr)) w',fun i _=>x.Writes.len - i.toNat,
   ⟨0,e1,c1,rfl,O_,s.o1,s.v1,st⟩,?_⟩
  clear st
  rintro i w5 ⟨p,e1,c1,rfl,hp,o1,v1,st⟩
  unfold F_Bb
  refine⟨fun hi=> ?_,fun hi=> ?_⟩
  ·have hi:=of_decide_eq_true hi
   obtain⟨a,y,hy,hc⟩:=zwf (hsl st) (i:=p) O_
   have wp:IntKind.i64.wrap ((p:Int)+1)=((p+1:Nat):Int):=by rw [i64_in _ O_ O_]; omega
   refine⟨a,O_,hi,y,by rw [Int.toNat_natCast]; exact hc,fun b1 w6 hb1 hw6=> ?_⟩
   have st:=st.alloc hb1 hw6
   refine⟨st.writable 0 rfl (by simp),fun w7 hw7 w8 ex8=> ?_⟩
   have st:St _ ((b1,wV y)::_) w8:=(st.put0 hw7).drew ex8
   refine⟨rfl,some m1,st.cell 1 rfl rfl,y.Key,st.cell 0 rfl rfl,x.Number,st.cell 2 rfl rfl,m1,e1,c1,rfl,st.objAt 0 rfl,o1.all,o1.nodup,⟨_,rfl⟩,fun e4 c4 w9 hset hw9=> ?_⟩
   have st:=st.mset0 hw9
   obtain⟨o4,v4a,v4b⟩:=o1.set ⟨_,rfl⟩ hset
   rw [wp]
   refine⟨⟨p+1,e4,c4,rfl,O_,o4,fun k u hk=> ?_,st.drop1⟩,by show _ - _<_ - _; omega⟩
   by_cases hky:k= .string y.Key
   ·rw [hky,v4a] at hk
    exact⟨x.Number,(Option.some.inj hk).symm,O_,O_⟩
   ·rw [v4b k hky] at hk; exact v1 k u hk
  ·intro w6 ex6
   have st:=st.drew ex6
   refine⟨rfl,some m2,st.cell 0 rfl rfl,x.Number,st.cell 1 rfl rfl,m2,e2,c2,rfl,st.objAt 1 rfl,s.o2.all,s.o2.nodup,⟨_,rfl⟩,fun e4 c4 w7 hset hw7=> ?_⟩
   have st:=st.mset (a:=[(m1,.map e1 c1)]) hw7
   obtain⟨o4,v4a,v4b⟩:=s.o2.set ⟨_,rfl⟩ hset
   refine⟨x.Number,st.cell 1 rfl rfl,rfl,st.writable 0 rfl (by show 0+3+1≤4; omega),fun w8 hw8=> ?_⟩
   have st:St _ ([(b,[mV m1,mV m2,mV m3,Vi x.Number])]++([(b_,txW x.Number x.Writes)]++fr)) w8:=st.put0 (o:=3) hw8
   have st:St ⟨W,[(m1,.map e1 c1),(m2,.map e4 c4),(m3,.map e3 c3)]++m0⟩ ([(b,[mV m1,mV m2,mV m3,Vi x.Number])]++fr) w8:=st.skip2
   refine k U _ _ _ hUn hUo ⟨b,m1,m2,m3,e1,c1,e4,c4,e3,c3,rfl,rfl,rfl,⟨o1,o4,o3,v1,fun n=> ?_,v3,O_,fun y hy=> ?_,?_,fun q hq=> ?_,by have:=s.wl; have:=s.tp; rw [List.length_append,List.length_map]; omega⟩⟩ st
   ·by_cases hn:n=x.Number
    ·subst hn
     rw [v4a,if_pos (List.mem_cons_self ..),wcnt_app,wcnt_U,zGd fun q hq e=>hxn (by rw [←e]; exact(s.wp q hq).1),Nat.zero_add]
    ·rw [v4b _ (fun e=>hn (by have e:Vi n=Vi x.Number:=e; simpa using e)),s.v2]
     have hm:n∈x.Number::opn↔n∈opn:=by rw [List.mem_cons]; exact or_iff_right hn
     by_cases ho:n∈opn
     ·rw [if_pos ho,if_pos (hm.2 ho),wcnt_app,zGd (Wt:=U.map _) fun q hq e=> ?_,Nat.add_zero]
      obtain⟨u,_,rfl⟩:=List.mem_map.1 hq
      exact hn e.symm
     ·rw [if_neg ho,if_neg fun h=>ho (hm.1 h)]
   ·rcases List.mem_cons.1 hy with rfl | hy
    ·omega
    ·have:=s.op y hy; omega
   ·refine List.nodup_append.2 ⟨s.wd,List.pairwise_map.2 (hUn.imp fun {a b} hab e=>hab (Prod.mk.inj e).2),fun a ha b hb e=> ?_⟩
    obtain⟨u,_,rfl⟩:=List.mem_map.1 hb
    subst e
    exact hxn (s.wp _ ha).1
   ·rcases List.mem_append.1 hq with hq | hq
    ·obtain⟨a,b⟩:=s.wp q hq
     exact⟨List.mem_cons_of_mem _ a,List.mem_cons_of_mem _ b⟩
    ·obtain⟨u,hu,rfl⟩:=List.mem_map.1 hq
     exact⟨List.mem_cons_self ..,List.mem_cons_of_mem _ (hUo u hu)⟩
end
open Go Go.Shelf
def Tryz.laysSort_ren : Go.Shelf.Ren := ⟨fun | 189 => 285 | 125 => 53 | 257 => 287 | 128 => 88 | 129 => 89 | 294 => 288 | 295 => 289 | 296 => 290 | 297 => 291 | 298 => 292 | 299 => 293 | 216 => 126 | 300 => 294 | 301 => 295 | 328 => 296 | 329 => 109 | 330 => 110 | 331 => 297 | 332 => 298 | 215 => 148 | 343 => 299 | n => n, fun | 28 => 25 | 3 => 3 | 46 => 174 | 0 => 0 | 51 => 233 | 53 => 160 | 4 => 4 | 183 => 227 | 182 => 226 | 131 => 210 | 5 => 5 | 9 => 9 | 218 => 258 | 222 => 262 | 228 => 282 | 229 => 283 | n => n, fun | n => n⟩
theorem Tryz.laysSort : Go.Proofs.Lays.n189 Tryz.prog Tryz.laysSort_ren := {
  mixed := by kernel_rfl
  f125 := Tryz.func53.trans (congrArg some (by kernel_rfl))
  f128 := Tryz.func88.trans (congrArg some (by kernel_rfl))
  f129 := Tryz.func89.trans (congrArg some (by kernel_rfl))
  f189 := Tryz.func285.trans (congrArg some (by kernel_rfl))
  f215 := Tryz.func148.trans (congrArg some (by kernel_rfl))
  f216 := Tryz.func126.trans (congrArg some (by kernel_rfl))
  f257 := Tryz.func287.trans (congrArg some (by kernel_rfl))
  f294 := Tryz.func288.trans (congrArg some (by kernel_rfl))
  f295 := Tryz.func289.trans (congrArg some (by kernel_rfl))
  f296 := Tryz.func290.trans (congrArg some (by kernel_rfl))
  f297 := Tryz.func291.trans (congrArg some (by kernel_rfl))
  f298 := Tryz.func292.trans (congrArg some (by kernel_rfl))
  f299 := Tryz.func293.trans (congrArg some (by kernel_rfl))
  f300 := Tryz.func294.trans (congrArg some (by kernel_rfl))
  f301 := Tryz.func295.trans (congrArg some (by kernel_rfl))
  f328 := Tryz.func296.trans (congrArg some (by kernel_rfl))
  f329 := Tryz.func109.trans (congrArg some (by kernel_rfl))
  f330 := Tryz.func110.trans (congrArg some (by kernel_rfl))
  f331 := Tryz.func297.trans (congrArg some (by kernel_rfl))
  f332 := Tryz.func298.trans (congrArg some (by kernel_rfl))
  f343 := Tryz.func299.trans (congrArg some (by kernel_rfl))
  t0 := Tryz.underlying0
  a0 := Tryz.isAgg0
  z0 := Tryz.sizeOf0
  v0 := Tryz.zeroValue0
  t3 := Tryz.underlying3
  a3 := Tryz.isAgg3
  z3 := Tryz.sizeOf3
  v3 := Tryz.zeroValue3
  t4 := Tryz.underlying4
  a4 := Tryz.isAgg4
  z4 := Tryz.sizeOf4
  v4 := Tryz.zeroValue4
  t5 := Tryz.underlying5
  a5 := Tryz.isAgg5
  z5 := Tryz.sizeOf5
  v5 := Tryz.zeroValue5
  t9 := Tryz.underlying9
  a9 := Tryz.isAgg9
  z9 := Tryz.sizeOf9
  v9 := Tryz.zeroValue9
  t28 := Tryz.underlying25
  a28 := Tryz.isAgg25
  z28 := Tryz.sizeOf25
  v28 := Tryz.zeroValue25
  t46 := Tryz.underlying174
  a46 := Tryz.isAgg174
  z46 := Tryz.sizeOf174
  v46 := Tryz.zeroValue174
  t51 := Tryz.underlying233
  a51 := Tryz.isAgg233
  z51 := Tryz.sizeOf233
  v51 := Tryz.zeroValue233
  t53 := Tryz.underlying160
  a53 := Tryz.isAgg160
  z53 := Tryz.sizeOf160
  v53 := Tryz.zeroValue160
  t131 := Tryz.underlying210
  a131 := Tryz.isAgg210
  z131 := Tryz.sizeOf210
  v131 := Tryz.zeroValue210
  t182 := Tryz.underlying226
  a182 := Tryz.isAgg226
  z182 := Tryz.sizeOf226
  v182 := Tryz.zeroValue226
  t183 := Tryz.underlying227
  a183 := Tryz.isAgg227
  z183 := Tryz.sizeOf227
  v183 := Tryz.zeroValue227
  t218 := Tryz.underlying258
  a218 := Tryz.isAgg258
  z218 := Tryz.sizeOf258
  v218 := Tryz.zeroValue258
  t222 := Tryz.underlying262
  a222 := Tryz.isAgg262
  z222 := Tryz.sizeOf262
  v222 := Tryz.zeroValue262
  t228 := Tryz.underlying282
  a228 := Tryz.isAgg282
  z228 := Tryz.sizeOf282
  v228 := Tryz.zeroValue282
  t229 := Tryz.underlying283
  a229 := Tryz.isAgg283
  z229 := Tryz.sizeOf283
  v229 := Tryz.zeroValue283 }
theorem zBc {b:Nat}:∀(vs:List Value) (o:Nat) (w:World),w.setCells b o vs=World.puts b o vs w
 | [],_,_=>rfl
 | v::vs,o,w=>zBc vs (o+1) _
theorem zZi (w:World) (os:Array Obj):Ext w (Go.Sort.grow w os):=by
 refine⟨rfl,rfl,rfl,?_,fun j hj=>Go.Sort.heap_grow_old w os hj⟩
 show w.heap.size≤(w.heap++os).size
 rw [Array.size_append]; omega
theorem Blk.unfrozen {w:World} {b o:Nat} {cs:List Value} (h:Blk w b cs) (ho:o<cs.length):w.frozen? ⟨b,o,none⟩=false:=by
 obtain⟨T,lo,hi,hb,hf⟩:=h
 unfold World.frozen?
 simp only [hb]
 rcases hf with hf | hf
 ·subst hf
  rw [Bool.and_eq_false_iff]
  by_cases h1:lo≤o
  ·right; simpa using h1
  ·left; simpa using h1
 ·rw [Bool.and_eq_false_iff]; left; simp; omega
theorem s_Sb {w0:Base} {w:World} {s:Slc} {xs:List Int} {bs l:List zg} {R:WP} (h:RowC 1 s (xs.map Vi) bs) (st:St w0 (bs++l) w) (hl:s.len<4611686018427387904)
    (k:∀ bs' w',RowC 1 s ((xs.mergeSort fun x y=>decide (x≤y)).map Vi) bs'→St w0 (bs'++l) w'→R w'):C_Bb s w R:=by
 have hlen:=h.len
 rw [List.length_map,Nat.mul_one] at hlen
 have hml:(xs.mergeSort fun x y=>decide (x≤y)).length=xs.length:=List.length_mergeSort ..
 rcases h with ⟨hp,h0,hc,hx,rfl⟩ | ⟨b,pre,rest,suf,hp,rfl,h1,h2,h3⟩
 ·obtain⟨sp,sl,sc⟩:=s
  simp only at hp h0 hc
  subst hp; subst h0; subst hc
  refine(Any.slices_Sort_int_none Tryz.laysSort none 0 w).mono ?_
  rintro e w' ⟨rfl,rfl⟩
  have hxs:xs=[]:=List.eq_nil_of_length_eq_zero hlen
  subst hxs
  exact⟨rfl,k [] _ (.inl ⟨rfl,rfl,rfl,by simp,rfl⟩) st⟩
 ·obtain⟨sp,sl,sc⟩:=s
  simp only at hp hlen h3 hl
  subst hp; subst hlen
  have hH:Go.Sort.Holds (Value.int .i64) w b pre.length xs.toArray:=fun j hj=>by
   have hj:j<xs.length:=by simpa using hj
   refine⟨?_,(st.get 0 rfl).unfrozen (by simp; omega)⟩
   refine st.cell 0 rfl ?_
   rw [List.getElem?_append_right O_,show pre.length+j - pre.length=j from by omega,List.getElem?_append_left (by simpa using hj),List.getElem?_map,List.getElem?_eq_getElem hj]
   simp [getElem!_pos,hj]
  have hblk:=st.lt 0 rfl
  refine(Any.slices_Sort_int Tryz.laysSort b pre.length sc xs w hH hblk hl).mono ?_
  rintro e w' ⟨rfl,n,os,rfl⟩
  refine⟨rfl,?_⟩
  rw [Go.Lib.sorted_world (Value.int .i64) w b pre.length n xs.toArray _ os hH (by simp),zBc]
  have st1:=(st.drew ⟨n,rfl⟩).put0 (o:=pre.length) (vs:=(xs.mergeSort fun x y=>decide (x≤y)).map (Value.int .i64)) rfl
  have e1:pre++(xs.map Vi++(rest++suf))=pre++xs.map Vi++(rest++suf):=by simp only [List.append_assoc]
  rw [e1,zlb _ _ _ _ (by simp)] at st1
  refine k [(b,pre++((xs.mergeSort fun x y=>decide (x≤y)).map Vi++(rest++suf)))] _ (.inr ⟨b,pre,rest,suf,rfl,rfl,by simp,by simpa using h2,h3⟩) ?_
  have st2:=st1.keep (zZi _ os)
  rw [List.append_assoc] at st2
  exact st2
theorem zfo {n:Int} {Wt:List (Int×Int)}:wcnt n Wt≤Wt.length:=List.length_filter_le _ _
theorem zIm {n m:Int} {Wt:List (Int×Int)} (h:(n,m)∈Wt):1≤wcnt n Wt :=
 List.length_pos_of_mem (List.mem_filter.2 ⟨h,decide_eq_true rfl⟩)
/-- How many entries of a map a range has still ahead of it. -/
def z9b (b:Nat) (w:World):Nat:=match w.heap[b]? with
 | some (.mapIter (some m) _ seen _)=>match w.heap[m]? with
  | some (.map es _)=>(es.toList.filter fun e=> !seen.contains e.born).length
  | _=>0
 | _=>0
theorem z4c {b m s c l:Nat} {seen:Array Nat} {es:Array MapEntry} {w:World} (h:w.heap[b]? =some (.mapIter (some m) s seen l)) (h2:w.heap[m]? =some (.map es c)):z9b b w=(es.toList.filter fun e=> !seen.contains e.born).length:=by
 unfold z9b
 rw [h]
 simp only [h2]
theorem zhk {α:Type} {p q:α→Bool}:∀ l:List α,(l.filter fun x=> !p x&& !q x).length≤(l.filter fun x=> !p x).length
 | []=>Nat.le_refl _
 | y::l=>by
  have:=zhk (p:=p) (q:=q) l
  cases h1:p y <;> cases h2:q y <;> simp [h1,h2] <;> omega
theorem zik {α:Type} {p q:α→Bool} {e:α}:∀ {l:List α},e∈l→p e=false→q e=true→(l.filter fun x=> !p x&& !q x).length<(l.filter fun x=> !p x).length
 | y::l,he,hp,hq=>by
  rcases List.mem_cons.1 he with rfl | he
  ·have:=zhk (p:=p) (q:=q) l
   simp [hp,hq]; omega
  ·have:=zik (p:=p) (q:=q) he hp hq
   cases h1:p y <;> cases h2:q y <;> simp [h1,h2] <;> omega
theorem zFe {es es':List MapEntry} {seen:Array Nat} {e:MapEntry} (hs:es'.Sublist es) (he:e∈es) (hn:seen.contains e.born=false):(es'.filter fun x=> !(seen.push e.born).contains x.born).length<(es.filter fun x=> !seen.contains x.born).length:=by
 refine Nat.lt_of_le_of_lt (hs.filter _).length_le ?_
 have hp:(fun x:MapEntry=> !(seen.push e.born).contains x.born)=fun x=> !seen.contains x.born&& !decide (x.born=e.born):=funext fun x=>by
  rw [Bool.eq_iff_iff]; simp
 rw [hp]
 exact zik (p:=fun x:MapEntry=>seen.contains x.born) (q:=fun x=>decide (x.born=e.born)) he hn (decide_eq_true rfl)
/-- What is left of the pairs. -/
def zhb (n:Int) (D:List Int) (Wt:List (Int×Int)):List (Int×Int):=Wt.filter fun p=>decide (¬ (p.2=n∧p.1∈D))
theorem zGe {n:Int} {D:List Int} {Wt:List (Int×Int)} {p:Int×Int}:p∈zhb n D Wt↔p∈Wt∧¬ (p.2=n∧p.1∈D):=by
 unfold zhb; rw [List.mem_filter,decide_eq_true_iff]
theorem z5g {n:Int} {Wt:List (Int×Int)}:zhb n [] Wt=Wt:=by
 unfold zhb
 exact List.filter_eq_self.2 fun p hp=>by simp
theorem z6g {n x:Int} {D:List Int} {Wt:List (Int×Int)}:zhb n (D++[x]) Wt=(zhb n D Wt).filter fun p=>decide (p≠(x,n)):=by
 unfold zhb
 rw [List.filter_filter]
 refine List.filter_congr fun p hp=> ?_
 rw [Bool.eq_iff_iff]
 simp only [decide_eq_true_eq,Bool.and_eq_true,List.mem_append,List.mem_singleton]
 constructor
 ·exact fun h=>⟨fun e=>h ⟨by rw [e],.inr (by rw [e])⟩,fun hh=>h ⟨hh.1,.inl hh.2⟩⟩
 ·rintro⟨h1,h2⟩ ⟨a,b | b⟩
  ·exact h2 ⟨a,b⟩
  ·exact h1 (Prod.ext b a)
theorem zjk {x n:Int} {Wt:List (Int×Int)} (hd:Wt.Nodup) (hm:(x,n)∈Wt) (y:Int):wcnt y (Wt.filter fun p=>decide (p≠(x,n)))+(if y=x then 1 else 0)=wcnt y Wt:=by
 unfold wcnt
 induction Wt with
 | nil=>cases hm
 | cons p l ih =>
  obtain⟨h1,h2⟩:=List.nodup_cons.1 hd
  rw [List.filter_cons,List.filter_cons]
  by_cases hp:p=(x,n)
  ·subst hp
   have e:l.filter (fun p=>decide (p≠(x,n)))=l:=List.filter_eq_self.2 fun q hq=>decide_eq_true fun e=>h1 (e ▸ hq)
   rw [if_neg (by simp),e]
   by_cases hy:y=x
   ·subst hy; rw [if_pos rfl,if_pos (by simp),List.length_cons]
   ·rw [if_neg hy,if_neg (by simpa using fun e=>hy e.symm)]; rfl
  ·have hm:(x,n)∈l:=(List.mem_cons.1 hm).resolve_left fun e=>hp e.symm
   have:=ih h2 hm
   rw [if_pos (decide_eq_true hp),List.filter_cons]
   by_cases hy:p.1=y
   ·have hy':decide (p.1=y)=true:=decide_eq_true hy
    simp only [hy',if_true,List.length_cons]; omega
   ·have hy':decide (p.1=y)=false:=decide_eq_false hy
    simp only [hy',Bool.false_eq_true,if_false]; exact this
section
variable {W:World} {m0 dm:List (Nat×Obj)} {w:World} {fr bs:List zg} {t:OA} {top:Int} {opn:List Int} {Wt:List (Int×Int)}
theorem s_Y {n:Int} {R:Slc→Int→WP} (o:DepO t top opn Wt dm bs) (st:St ⟨W,dm++m0⟩ (bs++fr) w) (hn:n∈opn) (hz:∀ p∈Wt,p.1≠n) (hd:opn.Nodup)
    (k:∀(F:List Int) s rb dm' bs' w',F.Nodup→(∀ x,x∈F↔(x,n)∈Wt∧∀ p∈Wt,p.1=x→p.2=n)→RowC 1 s ((F.mergeSort fun x y=>decide (x≤y)).map Vi) rb→DepO t top (opn.erase n) (Wt.filter fun p=>decide (p.2≠n)) dm' bs'→St ⟨W,dm'++m0⟩ (rb++(bs'++fr)) w'→R s 0 w'):C_1 t n w R:=by
 apply S_db
 unfold F_Tc
 have o':=o
 obtain⟨b,m1,m2,m3,e1,c1,e2,c2,e3,c3,rfl,rfl,rfl,s⟩:=o
 refine s_p o' st ⟨fun h=>(by cases h),fun _=> ?_⟩
 have hv2:zK e2 (Vi n)=some (Vi (0:Nat)):=by
  rw [s.v2,if_pos hn,zGd hz]
 refine⟨rfl,some m2,st.cell 0 rfl rfl,e2,0,true,.inr ⟨m2,c2,rfl,st.objAt 1 rfl⟩,s.o2.all,s.o2.nodup,⟨_,rfl⟩,MOk.lkIs' (by rw [hv2]; rfl) (by rw [hv2]; rfl),fun h=>(by cases h),fun _=>⟨fun h=>(by cases h),fun _=> ?_⟩⟩
 refine⟨rfl,some m2,st.cell 0 rfl rfl,m2,e2,c2,rfl,st.objAt 1 rfl,s.o2.all,⟨_,rfl⟩,fun e4 w1 hdel hw1=> ?_⟩
 have st:=st.mset (a:=[(m1,.map e1 c1)]) hw1
 obtain⟨o4,v4a,v4b,_,_⟩:=s.o2.del hdel
 refine⟨rfl,some m3,st.cell 0 rfl rfl,m3,e3,c3,rfl,st.objAt 2 rfl,fun bi w2 hbi hw2=> ?_⟩
 have st:St ⟨W,(bi,.mapIter (some m3) c3 #[] c3)::([(m1,.map e1 c1),(m2,.map e4 c2),(m3,.map e3 c3)]++m0)⟩ _ w2:=st.newObj hbi hw2 fun _ _ _ h=>by cases h
 have hme:∀ y:Int,y∈opn.erase n↔y≠n∧y∈opn:=fun y=>hd.mem_erase_iff
 have hwl:=s.wl
 have htp:=s.tp
 refine⟨fun out w'=>∃(D F:List Int) (rb:List zg) (seen:Array Nat) (e2 e3:Array MapEntry) (c2:Nat),RowC 1 out (F.map Vi) rb∧F.length≤D.length∧D.Nodup∧(∀ x∈D,(x,n)∈Wt)∧D.length≤Wt.length∧F.Nodup∧(∀ x,x∈F↔x∈D∧wcnt x (zhb n D Wt)=0) ∧
  MOk isKI e2 c2∧(∀ y,zK e2 (Vi y)=if y∈opn.erase n then some (Vi (wcnt y (zhb n D Wt))) else none)∧MOk isKP e3 c3∧(∀ x y,zK e3 (pV x y)=if(x,y)∈zhb n D Wt then some (Vo true) else none) ∧
  (∀ e∈e3.toList,seen.contains e.born=true→∃ x y,e.key=pV x y∧y≠n) ∧
  St ⟨W,(bi,.mapIter (some m3) c3 seen c3)::([(m1,.map e1 c1),(m2,.map e2 c2),(m3,.map e3 c3)]++m0)⟩ (rb++([(b,[mV m1,mV m2,mV m3,Vi top])]++fr)) w',fun _ w'=>z9b bi w',
  ⟨[],[],[],#[],e4,e3,c2,RowC.nil,Nat.le_refl _,List.nodup_nil,fun x h=>(by cases h),Nat.zero_le _,List.nodup_nil,fun x=>by simp,o4,fun y=> ?_,s.o3,fun x y=>by rw [z5g]; exact s.v3 x y,fun e he h=>(by simp at h),st⟩,?_⟩
 ·rw [z5g]
  by_cases hy:y=n
  ·subst hy; rw [v4a,if_neg fun h=>((hme y).1 h).1 rfl]
  ·rw [v4b _ (fun e=>hy (by have e:Vi y=Vi n:=e; simpa using e)),s.v2]
   simp only [hme,hy,ne_eq,not_false_eq_true,true_and]
 clear st
 rintro out w3 ⟨D,F,rb,seen,e2,e3,c2,ro,hFD,hDn,hDW,hDl,hFn,hF,o2,v2,o3,v3,hseen,st⟩
 unfold F_rb
 refine⟨m3,c3,c3,seen,e3,c3,st.objAt 0 rfl,st.objAt 3 rfl,o3.lt,Nat.le_refl _,fun hall=> ?_,fun e w4 w5 he hns hd4 hw5=> ?_⟩
 ·unfold F_J
  refine⟨fun h=>(by cases h),fun _=> ?_⟩
  have hrl:=ro.len
  rw [List.length_map] at hrl
  refine s_Sb ro st O_ fun rb' w6 ro' st=> ?_
  have hlw:zhb n D Wt=Wt.filter fun p=>decide (p.2≠n):=by
   unfold zhb
   refine List.filter_congr fun p hp=> ?_
   rw [Bool.eq_iff_iff]
   simp only [decide_eq_true_eq]
   refine⟨fun h e=> ?_,fun h hh=>h hh.1⟩
   have hm:p∈zhb n D Wt:=zGe.2 ⟨hp,h⟩
   have hlk:=v3 p.1 p.2
   rw [if_pos hm] at hlk
   obtain⟨x,hx,hk,_⟩:=MOk.lk_mem hlk
   obtain⟨a,b,hab,hne⟩:=hseen x hx (hall x hx)
   rw [hk] at hab
   have hab:p.1=a∧p.2=b:=by
    have:pV p.1 p.2=pV a b:=hab
    simpa using this
   exact hne (hab.2 ▸ e)
  rw [hlw] at hF v2 v3
  have hDm:∀ x,x∈D↔(x,n)∈Wt:=fun x=>⟨hDW x,fun h=>by
   refine Classical.byContradiction fun hx=> ?_
   have hm:(x,n)∈zhb n D Wt:=zGe.2 ⟨h,fun hh=>hx hh.2⟩
   rw [hlw] at hm
   have:=(List.mem_filter.1 hm).2
   simp at this⟩
  have st:=st.forget (a:=[_])
  refine k F out rb' _ _ w6 hFn (fun x=> ?_) ro' ⟨b,m1,m2,m3,e1,c1,e2,c2,e3,c3,rfl,rfl,rfl,⟨s.o1,o2,o3,s.v1,v2,v3,s.tp,fun y hy=>s.op y ((hme y).1 hy).2,s.wd.filter _,fun p hp=> ?_,?_⟩⟩ st
  ·rw [hF,hDm]
   refine and_congr_right fun hx=>⟨fun h p hp e=> ?_,fun h=>zGd fun p hp e=> ?_⟩
   ·refine Classical.byContradiction fun hne=> ?_
    have:=zIm (n:=x) (m:=p.2) (Wt:=Wt.filter fun p=>decide (p.2≠n)) (List.mem_filter.2 ⟨by rw [←e]; exact hp,decide_eq_true hne⟩)
    omega
   ·obtain⟨a,c⟩:=List.mem_filter.1 hp
    exact(of_decide_eq_true c) (h p a e)
  ·obtain⟨a,c⟩:=List.mem_filter.1 hp
   obtain⟨x,y⟩:=s.wp p a
   exact⟨(hme _).2 ⟨hz p a,x⟩,(hme _).2 ⟨of_decide_eq_true c,y⟩⟩
  ·exact Nat.le_trans (List.length_filter_le _ _) s.wl
 ·have hus:z9b bi w3=_:=z4c (st.objAt 0 rfl) (st.objAt 3 rfl)
  have st:St ⟨W,(bi,.mapIter (some m3) c3 (seen.push e.born) c3)::([(m1,.map e1 c1),(m2,.map e2 c2),(m3,.map e3 c3)]++m0)⟩ _ w5:=(st.drew hd4).turn (a:=[]) hw5 fun _ _ _ h=>by cases h
  unfold F_J
  refine⟨fun _=> ?_,fun h=>(by cases h)⟩
  obtain⟨ka,kb,hek,hka,hkb⟩:=o3.all e he
  have hlk:=o3.mem_lk he
  have hin:(ka,kb)∈zhb n D Wt∧e.val=Vo true:=by
   have h2:=v3 ka kb
   rw [hek] at hlk
   have hlk:zK e3 (pV ka kb)=some e.val:=hlk
   rw [hlk] at h2
   by_cases hm:(ka,kb)∈zhb n D Wt
   ·rw [if_pos hm] at h2; exact⟨hm,Option.some.inj h2⟩
   ·rw [if_neg hm] at h2; cases h2
  obtain⟨hin,hval⟩:=hin
  refine⟨m3,c3,c3,seen,e3,e,⟨ka,kb⟩,true,st.objAt 0 rfl,st.objAt 3 rfl,he,o3.bnodup,hek,hval,fun b1 w6 hb1 hw6=> ?_⟩
  have st:=st.alloc hb1 hw6
  refine⟨st.writable 0 rfl (by simp),fun w7 hw7=> ?_⟩
  have st:St _ ([(b1,[Vi ka,Vi kb])]++(rb++([(b,[mV m1,mV m2,mV m3,Vi top])]++fr))) w7:=st.put0 hw7
  have hcon:∀ x:MapEntry,(seen.push e.born).contains x.born=true→seen.contains x.born=true∨x.born=e.born:=fun x h=>by
   simpa using h
  have hborn:∀ x∈e3.toList,x.born=e.born→x=e:=fun x hx h=>by
   obtain⟨i,hi⟩:=List.mem_iff_getElem?.1 hx
   obtain⟨j,hj⟩:=List.mem_iff_getElem?.1 he
   have a1:(e3.toList.map (·.born))[i]? =some e.born:=by rw [List.getElem?_map,hi]; exact congrArg some h
   have a2:(e3.toList.map (·.born))[j]? =some e.born:=by rw [List.getElem?_map,hj]; rfl
   have:=(List.getElem?_inj (List.getElem?_eq_some_iff.1 a1).1 o3.bnodup).1 (a1.trans a2.symm)
   subst this
   exact Option.some.inj (hi.symm.trans hj)
  refine⟨O_,O_,kb,st.cell 0 rfl rfl,fun hne=> ?_,fun heq=> ?_⟩
  ·have hne:kb≠n:=by simpa using hne
   have st:=st.drop1
   refine⟨⟨D,F,rb,seen.push e.born,e2,e3,c2,ro,hFD,hDn,hDW,hDl,hFn,hF,o2,v2,o3,v3,fun x hx h=> ?_,st⟩,?_⟩
   ·rcases hcon x h with h | h
    ·exact hseen x hx h
    ·rw [hborn x hx h]; exact⟨ka,kb,hek,hne⟩
   ·have:=z4c (st.objAt 0 rfl) (st.objAt 3 rfl)
    show z9b bi w7<z9b bi w3
    rw [this,hus]
    exact zFe (List.Sublist.refl _) he hns
  ·have heq:kb=n:=by simpa using heq
   subst heq
   intro w8 ex8
   have st:=st.drew ex8
   have hkP:isKP (Value.agg #[Vi ka,Vi kb]):=⟨ka,kb,rfl,hka,hkb⟩
   refine⟨rfl,some m3,(St.drop (a:=rb) st.drop1).cell 0 rfl rfl,⟨ka,kb⟩,(st.get 0 rfl).all,m3,e3,c3,rfl,st.objAt 3 rfl,o3.all,hkP,fun e6 w9 hdel hw9=> ?_⟩
   have st:=st.mset (a:=[(bi,_),(m1,.map e1 c1),(m2,.map e2 c2)]) hw9
   obtain⟨o6,v6a,v6b,hsub,hkeep⟩:=o3.del hdel
   obtain⟨hWm,hnD⟩:=zGe.1 hin
   have hnD:ka∉D:=fun h=>hnD ⟨rfl,h⟩
   obtain⟨hko,_⟩:=s.wp _ hWm
   have hkn:ka≠kb:=hz _ hWm
   have hke:ka∈opn.erase kb:=(hme _).2 ⟨hkn,hko⟩
   have hnew:∀ y,wcnt y (zhb kb (D++[ka]) Wt)+(if y=ka then 1 else 0)=wcnt y (zhb kb D Wt):=fun y=>by
    rw [z6g]
    exact zjk (s.wd.filter _) hin y
   have hcnt:=hnew ka
   rw [if_pos rfl] at hcnt
   have hbnd:wcnt ka (zhb kb D Wt)≤Wt.length:=Nat.le_trans zfo (List.length_filter_le _ _)
   refine fun w10 ex10=> ?_
   have st:=st.drew ex10
   have hl2:=v2 ka
   rw [if_pos hke] at hl2
   refine⟨rfl,some m2,(St.drop (a:=rb) st.drop1).cell 0 rfl rfl,O_,O_,ka,st.cell 0 rfl rfl,e2,(wcnt ka (zhb kb D Wt):Int),true,.inr ⟨m2,c2,rfl,st.objAt 2 rfl⟩,o2.all,o2.nodup,⟨_,rfl⟩,MOk.lkIs' (by rw [hl2]; rfl) (by rw [hl2]; rfl),m2,e2,c2,rfl,st.objAt 2 rfl,o2.all,o2.nodup,⟨_,rfl⟩,fun e7 c7 w11 hset hw11=> ?_⟩
   have st:=st.mset (a:=[(bi,_),(m1,.map e1 c1)]) hw11
   obtain⟨o7,v7a,v7b⟩:=o2.set ⟨_,rfl⟩ hset
   have wn:IntKind.i64.wrap ((wcnt ka (zhb kb D Wt):Int) - 1)=(wcnt ka (zhb kb (D++[ka]) Wt):Int):=by rw [i64_in _ O_ O_]; omega
   rw [wn] at v7a
   refine⟨rfl,some m2,(St.drop (a:=rb) st.drop1).cell 0 rfl rfl,O_,O_,ka,st.cell 0 rfl rfl,e7,(wcnt ka (zhb kb (D++[ka]) Wt):Int),true,.inr ⟨m2,c7,rfl,st.objAt 2 rfl⟩,o7.all,o7.nodup,⟨_,rfl⟩,MOk.lkIs' (by rw [v7a]; rfl) (by rw [v7a]; rfl),fun w12 ex12=> ?_⟩
   have st:=st.keep ex12
   have v7:∀ y,zK e7 (Vi y)=if y∈opn.erase kb then some (Vi (wcnt y (zhb kb (D++[ka]) Wt))) else none:=fun y=>by
    by_cases hy:y=ka
    ·subst hy; rw [v7a,if_pos hke]
    ·rw [v7b _ (fun e=>hy (by have e:Vi y=Vi ka:=e; simpa using e)),v2]
     have:=hnew y
     rw [if_neg hy,Nat.add_zero] at this
     rw [this]
   have v6:∀ x y,zK e6 (pV x y)=if(x,y)∈zhb kb (D++[ka]) Wt then some (Vo true) else none:=fun x y=>by
    have hm:(x,y)∈zhb kb (D++[ka]) Wt↔(x,y)∈zhb kb D Wt∧(x,y)≠(ka,kb):=by rw [z6g,List.mem_filter,decide_eq_true_iff]
    by_cases hxy:x=ka∧y=kb
    ·obtain⟨rfl,rfl⟩:=hxy
     rw [v6a,if_neg fun h=>(hm.1 h).2 rfl]
    ·rw [v6b _ (fun e=>hxy (by have e:pV x y=pV ka kb:=e; simpa using e)),v3]
     have:(x,y)∈zhb kb (D++[ka]) Wt↔(x,y)∈zhb kb D Wt:=by
      rw [hm]
      exact and_iff_left fun e=>hxy (by simpa using e)
     simp only [this]
   have hDn':(D++[ka]).Nodup:=List.nodup_append.2 ⟨hDn,by simp,fun a ha b hb e=>by
    have:b=ka:=by simpa using hb
    exact hnD (by rw [←this,←e]; exact ha)⟩
   have hDW':∀ x∈D++[ka],(x,kb)∈Wt:=fun x hx=>by
    rcases List.mem_append.1 hx with hx | hx
    ·exact hDW x hx
    ·have:x=ka:=by simpa using hx
     rw [this]; exact hWm
   have hDl':(D++[ka]).length≤Wt.length:=by
    have h1:((D++[ka]).map fun x=>(x,kb)).Nodup:=List.pairwise_map.2 (hDn'.imp fun {a b} hab e=>hab (Prod.mk.inj e).1)
    have:=List.Nodup.length_le_of_subset h1 (l₂:=Wt) fun p hp=>by
     obtain⟨x,hx,rfl⟩:=List.mem_map.1 hp
     exact hDW' x hx
    rwa [List.length_map] at this
   have hseen':∀ x∈e6.toList,(seen.push e.born).contains x.born=true→∃ a b,x.key=pV a b∧b≠kb:=fun x hx h=>by
    rcases hcon x h with h | h
    ·exact hseen x (hsub.mem hx) h
    ·have:=hborn x (hsub.mem hx) h
     subst this
     have h6:=o6.mem_lk hx
     rw [hek] at h6
     have v6a:zK e6 (Value.agg #[Vi ka,Vi kb])=none:=v6a
     rw [v6a] at h6; cases h6
   have hFx:∀ x,x∈F↔x∈D∧wcnt x (zhb kb (D++[ka]) Wt)=0:=fun x=>by
    rw [hF]
    refine and_congr_right fun hx=> ?_
    have:=hnew x
    rw [if_neg (fun e:x=ka=>hnD (by rw [←e]; exact hx))] at this
    rw [←this,Nat.add_zero]
   have hDl2:(D++[ka]).length=D.length+1:=by simp
   refine⟨fun h0=>⟨O_,O_,ka,st.cell 0 rfl rfl,fun b2 w13 hb2 hw13=>⟨[Vi ka],zwb hb2 hw13 rfl,?_⟩⟩,fun h0=> ?_⟩
   ·have h0:wcnt ka (zhb kb (D++[ka]) Wt)=0:=by
      have:((wcnt ka (zhb kb (D++[ka]) Wt):Int))=0:=by simpa using h0
      omega
    have hrl:=ro.len
    rw [List.length_map] at hrl
    refine ro.append ((st.alloc hb2 hw13).drop1).drop1 rfl rfl rfl (by show(out.len+1)*8≤_; omega) fun out' rb' w14 ro' st hl'=> ?_
    refine⟨⟨D++[ka],F++[ka],rb',seen.push e.born,e7,e6,c7,by rw [List.map_append]; exact ro',by simp; omega,hDn',hDW',hDl',List.nodup_append.2 ⟨hFn,by simp,fun a ha b hb e=> ?_⟩,fun x=> ?_,o7,v7,o6,v6,hseen',st⟩,?_⟩
    ·have:b=ka:=by simpa using hb
     exact hnD (by rw [←this,←e]; exact((hF a).1 ha).1)
    ·rw [List.mem_append,List.mem_append,hFx,List.mem_singleton]
     constructor
     ·rintro(⟨a,b⟩ | rfl)
      ·exact⟨.inl a,b⟩
      ·exact⟨.inr rfl,h0⟩
     ·rintro⟨a | a,b⟩
      ·exact .inl ⟨a,b⟩
      ·exact .inr a
    ·have:=z4c (st.objAt 0 rfl) (st.objAt 3 rfl)
     show z9b bi w14<z9b bi w3
     rw [this,hus]
     exact zFe hsub he hns
   ·have h0:wcnt ka (zhb kb (D++[ka]) Wt)≠0:=by
      have:((wcnt ka (zhb kb (D++[ka]) Wt):Int))≠0:=by simpa using h0
      omega
    have st:=st.drop1
    refine⟨⟨D++[ka],F,rb,seen.push e.born,e7,e6,c7,ro,O_,hDn',hDW',hDl',hFn,fun x=> ?_,o7,v7,o6,v6,hseen',st⟩,?_⟩
    ·rw [hFx,List.mem_append,List.mem_singleton]
     constructor
     ·rintro⟨a,b⟩; exact⟨.inl a,b⟩
     ·rintro⟨a | a,b⟩
      ·exact⟨a,b⟩
      ·subst a; exact absurd b h0
    ·have:=z4c (st.objAt 0 rfl) (st.objAt 3 rfl)
     show z9b bi w12<z9b bi w3
     rw [this,hus]
     exact zFe hsub he hns
end
abbrev Ver:=T_j
def verC (v:Ver):List Value:=[Vi v.Number,Value.string v.Val,Vo v.Drop]
theorem verC_len (v:Ver):(verC v).length=3:=rfl
theorem zJh (l:List Ver):zI (l.flatMap verC)=true:=by
 unfold zI
 rw [List.all_eq_true]
 intro x hx
 obtain⟨v,_,hx⟩:=List.mem_flatMap.1 hx
 unfold verC at hx
 simp only [List.mem_cons,List.mem_nil_iff,or_false] at hx
 rcases hx with rfl | rfl | rfl <;> rfl
theorem zhc (s:ByteArray):(s.toList==ByteArray.empty.toList)=decide (s.size=0):=by
 rw [ByteArray.toList_eq,ByteArray.toList_eq]
 have:s.data.toList.length=s.size:=by simp
 cases h:s.data.toList with
 | nil=>rw [h] at this; have h0:s.size=0:=by simpa using this.symm
        rw [h0]; rfl
 | cons c r=>rw [h] at this; have h0:¬ s.size=0:=by simp at this; omega
             rw [decide_eq_false h0]; rfl
instance decVer:DecidableEq Ver:=fun x y =>
 if h:x.Number=y.Number∧x.Val=y.Val∧x.Drop=y.Drop then isTrue (by cases x; cases y; simp only at h; obtain⟨h1,h2,h3⟩:=h; rw [h1,h2,h3]) else isFalse fun e=>h (by rw [e]; exact⟨rfl,rfl,rfl⟩)
theorem ba_eqV (a b:ByteArray):(a==b)=decide (a=b):=by
 cases a; cases b
 rename_i x y
 show(x==y)=_
 by_cases h:x=y
 ·subst h; simp
 ·rw [decide_eq_false (fun e=>h (ByteArray.mk.inj e))]; simpa using h
def mayV (v:Ver):Bool:=decide (1≤v.Number)&&decide (v.Number≤65536)&&decide (v.Val.size≤1024)&&(!v.Drop||decide (v.Val.size=0))
def okC:Int→List Ver→Bool
 | _,[]=>true
 | p,v::r=>(mayV v&&decide (p<v.Number))&&okC v.Number r
def z1d (vs:List Ver):Prop:=vs.Pairwise fun a b=>a.Number<b.Number
theorem zln:∀ {vs:List Ver} {p:Int},z1d vs→(∀ v∈vs,p<v.Number∧mayV v=true)→okC p vs=true
 | [],_,_,_=>rfl
 | v::r,p,hs,h=>by
  unfold z1d at hs
  rw [List.pairwise_cons] at hs
  have h0:=h v (List.mem_cons_self ..)
  rw [okC,h0.2,decide_eq_true h0.1,zln hs.2 fun x hx=>⟨hs.1 x hx,(h x (List.mem_cons_of_mem _ hx)).2⟩]; rfl
theorem zHe:∀ {vs:List Ver} {p:Int},okC p vs=true↔z1d vs∧∀ v∈vs,p<v.Number∧mayV v=true
 | [],p=>⟨fun _=>⟨List.Pairwise.nil,fun v hv=>by cases hv⟩,fun _=>rfl⟩
 | v::r,p=>by
  refine⟨fun h=> ?_,fun h=>zln h.1 h.2⟩
  rw [okC] at h
  simp only [Bool.and_eq_true,decide_eq_true_eq] at h
  obtain⟨h1,h2⟩:=zHe.1 h.2
  refine⟨List.pairwise_cons.2 ⟨fun x hx=>(h2 x hx).1,h1⟩,fun x hx=> ?_⟩
  rcases List.mem_cons.1 hx with rfl | hx
  ·exact⟨h.1.2,h.1.1⟩
  ·exact⟨by have:=(h2 x hx).1; omega,(h2 x hx).2⟩
/-- How many are at or below a mark. -/
def upF (at_:Int) (vs:List Ver):Nat:=(vs.takeWhile fun v=>decide (v.Number≤at_)).length
theorem zmn (at_:Int) (vs:List Ver):upF at_ vs≤vs.length:=by
 unfold upF
 exact(List.takeWhile_sublist _).length_le
theorem zqd {at_:Int}:∀ {vs:List Ver},z1d vs→∀ {i:Nat} {v:Ver},vs[i]? =some v→(v.Number≤at_↔i<upF at_ vs)
 | [],_,i,v,h=>by simp at h
 | x::r,hs,i,v,h=>by
  unfold z1d at hs
  rw [List.pairwise_cons] at hs
  by_cases hx:x.Number≤at_
  ·have e:upF at_ (x::r)=upF at_ r+1:=by unfold upF; rw [List.takeWhile_cons,if_pos (decide_eq_true hx)]; rfl
   rw [e]
   cases i with
   | zero=>rw [List.getElem?_cons_zero] at h; cases h; omega
   | succ i=>rw [List.getElem?_cons_succ] at h; have:=zqd (at_:=at_) hs.2 h; omega
  ·have e:upF at_ (x::r)=0:=by unfold upF; rw [List.takeWhile_cons,if_neg (by simpa using hx)]; rfl
   rw [e]
   cases i with
   | zero=>rw [List.getElem?_cons_zero] at h; cases h; omega
   | succ i =>
    rw [List.getElem?_cons_succ] at h
    have:=hs.1 v (List.mem_of_getElem? h)
    omega
theorem zIe {w:World} {s:Slc} {vs:List Ver} (h:zr w s 3 (vs.flatMap verC)) {i:Nat} (hi:i<s.len):IsAt s.ptr∧∃ v,vs[i]? =some v∧zc w (pblk s.ptr) (poff s.ptr+i*3) (verC v):=by
 obtain⟨a,v,hv,hc⟩:=zr.getN h verC_len D_ (i:=(i:Int)) O_ O_
 rw [Int.toNat_natCast] at hv hc
 exact⟨a,v,hv,hc⟩
theorem zrd {w:World} {s:Slc} {vs:List Ver} (h:zr w s 3 (vs.flatMap verC)):s.len=vs.length:=by
 have:=h.1
 rw [zl verC_len] at this
 omega
theorem zJm {w:World} {b o:Nat} {v:Ver} (h:zc w b o (verC v)):w.cell? ⟨b,o,none⟩=some (Vi v.Number):=zz.1 h 0 _ rfl
theorem s_l {s:Slc} {vs:List Ver} {w:World} {R:Int→WP} (hs:zr w s 3 (vs.flatMap verC)) (hl:s.len≤4398046511104) (k:∀ w',Ext w w'→R (if okC 0 vs=true then 0 else 1) w'):C_S s w R:=by
 apply S_Lb
 unfold F_pd
 have hsl:=zrd hs
 refine⟨fun i w'=>∃ p:Nat,i=(p:Int)∧p≤s.len∧okC 0 vs=okC (if p=0 then 0 else((vs[p - 1]?).map (·.Number)).getD 0) (vs.drop p)∧Ext w w',fun i _=>s.len - i.toNat,⟨0,rfl,O_,rfl,Ext.refl _⟩,?_⟩
 rintro i w1 ⟨p,rfl,hp,hok,e⟩
 unfold F_dc
 refine⟨fun hi=> ?_,fun hi=> ?_⟩
 ·have hi:=of_decide_eq_true hi
  obtain⟨a,v,hv,hc⟩:=zIe (e.src hs) (i:=p) O_
  have hpl:=(List.getElem?_eq_some_iff.1 hv).1
  have hdc:vs.drop p=v::vs.drop (p+1):=by
   rw [List.drop_eq_getElem_cons hpl]
   rw [List.getElem?_eq_getElem hpl] at hv
   rw [Option.some.inj hv]
  rw [hdc,okC] at hok
  have wp:IntKind.i64.wrap ((p:Int)+1)=((p+1:Nat):Int):=by rw [i64_in _ O_ O_]; omega
  have st:St ⟨w,[]⟩ [] w1:=(St.start w).keep e
  refine⟨a,O_,hi,v,by rw [Int.toNat_natCast]; exact hc,fun b w2 hb hw=> ?_⟩
  have st:=st.alloc hb hw
  refine⟨st.writable 0 rfl (by simp),fun w3 hw3=> ?_⟩
  have st:St ⟨w,[]⟩ [(b,verC v)] w3:=st.put0 hw3
  obtain⟨prev,hprev⟩:∃ prev,prev=(if p=0 then 0 else((vs[p - 1]?).map (·.Number)).getD 0):=⟨_,rfl⟩
  rw [←hprev] at hok
  have bad:(mayV v&&decide (prev<v.Number))=false→∀ w',Ext w3 w'→F_c R (p:Int) (fun t7' w'=>(∃ p:Nat,t7'=(p:Int)∧p≤s.len∧okC 0 vs=okC (if p=0 then 0 else((vs[p - 1]?).map (·.Number)).getD 0) (vs.drop p)∧Ext w w')∧s.len - t7'.toNat<s.len - ((p:Int)).toNat) true w':=fun h w' e'=>by
   unfold F_c
   refine⟨fun _=> ?_,fun hh=>(by cases hh)⟩
   have:=k w' (st.keep e').ext
   rw [hok,h] at this
   exact this
  have good:(mayV v&&decide (prev<v.Number))=true→∀ w',Ext w3 w'→F_c R (p:Int) (fun t7' w'=>(∃ p:Nat,t7'=(p:Int)∧p≤s.len∧okC 0 vs=okC (if p=0 then 0 else((vs[p - 1]?).map (·.Number)).getD 0) (vs.drop p)∧Ext w w')∧s.len - t7'.toNat<s.len - ((p:Int)).toNat) false w':=fun h w' e'=>by
   unfold F_c
   refine⟨fun hh=>(by cases hh),fun _=> ?_⟩
   rw [wp]
   refine⟨⟨p+1,rfl,O_,?_,(st.keep e').ext⟩,by show _ - _<_ - _; omega⟩
   rw [hok,h,if_neg O_,Nat.add_sub_cancel,hv]; rfl
  -- the last test
  have fin:mayV v=true→(((decide ((p:Int)>0))=true→(IsAt s.ptr∧(0≤IntKind.i64.wrap ((p:Int) - 1)∧IntKind.i64.wrap ((p:Int) - 1)<((s.len:Nat):Int)∧(∃(v44:Int),w3.cell? ⟨pblk s.ptr,poff s.ptr+(IntKind.i64.wrap ((p:Int) - 1)).toNat*3,none⟩=some (Vi v44)∧(∃(v46:Int),w3.cell? ⟨b,0,none⟩=some (Vi v46)∧(∀ w9,Ext w3 w9→F_c R (p:Int) (fun t7' w'=>(∃ p:Nat,t7'=(p:Int)∧p≤s.len∧okC 0 vs=okC (if p=0 then 0 else((vs[p - 1]?).map (·.Number)).getD 0) (vs.drop p)∧Ext w w')∧s.len - t7'.toNat<s.len - ((p:Int)).toNat) (decide (v44≥v46)) w9)))))) ∧
      ((decide ((p:Int)>0))=false→(∀ w10,Ext w3 w10→F_c R (p:Int) (fun t7' w'=>(∃ p:Nat,t7'=(p:Int)∧p≤s.len∧okC 0 vs=okC (if p=0 then 0 else((vs[p - 1]?).map (·.Number)).getD 0) (vs.drop p)∧Ext w w')∧s.len - t7'.toNat<s.len - ((p:Int)).toNat) false w10))):=fun hm=>by
   refine⟨fun h0=> ?_,fun h0=> ?_⟩
   ·have h0:=of_decide_eq_true h0
    have wm:IntKind.i64.wrap ((p:Int) - 1)=((p - 1:Nat):Int):=by rw [i64_in _ O_ O_]; omega
    obtain⟨a',u,hu,hc'⟩:=zIe (st.ext.src hs) (i:=p - 1) O_
    rw [wm]
    refine⟨a',O_,O_,u.Number,by rw [Int.toNat_natCast]; exact zJm hc',v.Number,st.cell 0 rfl rfl,fun w9 e9=> ?_⟩
    have hpu:prev=u.Number:=by rw [hprev,if_neg O_,hu]; rfl
    by_cases hlt:prev<v.Number
    ·rw [decide_eq_false O_]
     exact good (by rw [hm,decide_eq_true hlt]; rfl) w9 e9
    ·rw [decide_eq_true O_]
     exact bad (by rw [hm,decide_eq_false hlt]; rfl) w9 e9
   ·have h0:=of_decide_eq_false h0
    have hpu:prev=0:=by rw [hprev,if_pos O_]
    have hn1:1≤v.Number:=by
     unfold mayV at hm
     simp only [Bool.and_eq_true,decide_eq_true_eq] at hm
     exact hm.1.1.1
    exact fun w10 e10=>good (by rw [hm,decide_eq_true O_]; rfl) w10 e10
  refine⟨v.Number,st.cell 0 rfl rfl,fun h1=> ?_,fun h1=>⟨v.Number,st.cell 0 rfl rfl,fun h2=> ?_,fun h2=>⟨v.Val,st.cell 0 rfl rfl,fun h3=> ?_,fun h3=>⟨v.Drop,st.cell 0 rfl rfl,fun h4=>⟨v.Val,st.cell 0 rfl rfl,fun h5=> ?_,fun h5=> ?_⟩,fun h4=> ?_⟩⟩⟩⟩
  ·have h1:=of_decide_eq_true h1
   exact fun w5 e5=>bad (by unfold mayV; rw [decide_eq_false O_]; rfl) w5 e5
  ·have h2:=of_decide_eq_true h2
   exact fun w5 e5=>bad (by unfold mayV; rw [decide_eq_false (show ¬ v.Number≤65536 by omega),Bool.and_false]; rfl) w5 e5
  ·have h3:=of_decide_eq_true h3
   exact fun w5 e5=>bad (by unfold mayV; rw [decide_eq_false (show ¬ v.Val.size≤1024 by omega),Bool.and_false]; rfl) w5 e5
  ·rw [zhc] at h5
   have h5:¬ v.Val.size=0:=by simpa using h5
   exact fun w5 e5=>bad (by unfold mayV; rw [h4,decide_eq_false h5]; simp) w5 e5
  ·rw [zhc] at h5
   have h5:v.Val.size=0:=by simpa using h5
   have h1:=of_decide_eq_false h1
   have h2:=of_decide_eq_false h2
   have h3:=of_decide_eq_false h3
   exact fin (by unfold mayV; rw [decide_eq_true (show 1≤v.Number by omega),decide_eq_true (show v.Number≤65536 by omega),decide_eq_true (show v.Val.size≤1024 by omega),decide_eq_true h5]; simp)
  ·have h1:=of_decide_eq_false h1
   have h2:=of_decide_eq_false h2
   have h3:=of_decide_eq_false h3
   exact fin (by unfold mayV; rw [decide_eq_true (show 1≤v.Number by omega),decide_eq_true (show v.Number≤65536 by omega),decide_eq_true (show v.Val.size≤1024 by omega),h4]; rfl)
 ·have hi:=of_decide_eq_false hi
  rw [List.drop_eq_nil_of_le O_,okC] at hok
  have:=k w1 e
  rw [hok] at this; exact this
theorem s_Tb {s:Slc} {vs:List Ver} {at_:Int} {p:Nat} {w:World} {R:Bool→WP} (hs:zr w s 3 (vs.flatMap verC)) (hp:p<s.len) (k:∀ v w',vs[p]? =some v→Ext w w'→R (decide (v.Number>at_)) w') :
    C_Pb ⟨s,at_⟩ (p:Int) w R:=by
 apply S_1
 unfold F_Ec
 intro b w1 hb hw
 have st:=(St.start w).alloc hb hw
 obtain⟨a,v,hv,hc⟩:=zIe (st.ext.src hs) hp
 exact⟨s,st.cell 0 rfl rfl,a,O_,O_,v.Number,by rw [Int.toNat_natCast]; exact zJm hc,at_,st.cell 0 rfl rfl,fun w2 e2=>k v w2 hv (st.keep e2).ext⟩
theorem s_Vb {s:Slc} {vs:List Ver} {at_:Int} {w:World} {R:Int→WP} (hs:zr w s 3 (vs.flatMap verC)) (hl:s.len≤4398046511104) (hr:z1d vs) (k:∀ w',Ext w w'→R (upF at_ vs:Int) w'):C_ob s at_ w R:=by
 apply S_eb
 unfold F_Sc
 apply S_Mb
 unfold F_qd
 have hsl:=zrd hs
 have hu:=zmn at_ vs
 refine⟨fun i j w'=>∃ a b:Nat,i=(a:Int)∧j=(b:Int)∧a≤upF at_ vs∧upF at_ vs≤b∧b≤s.len∧Ext w w',fun i j _=>j.toNat - i.toNat,⟨0,s.len,rfl,rfl,O_,O_,O_,Ext.refl _⟩,?_⟩
 rintro i j w1 ⟨a,b,rfl,rfl,h1,h2,h3,e⟩
 unfold F_kc
 refine⟨fun h=> ?_,fun h=> ?_⟩
 ·have h:=of_decide_eq_true h
  have hm:IntKind.i64.wrap (Int.fdiv (IntKind.u64.wrap (IntKind.i64.wrap ((a:Int)+(b:Int)))) (2 ^ 1))=(((a+b) / 2:Nat):Int):=by
   rw [i64_in ((a:Int)+(b:Int)) O_ O_,zHs _ O_ O_,show((a:Int)+(b:Int))=((a+b:Nat):Int) from by omega]
   rw [show Int.fdiv ((a+b:Nat):Int) (2 ^ 1)=(((a+b) / 2:Nat):Int) from zcj (a+b) 2,i64_in _ O_ O_]
  rw [hm]
  refine zbb.mk (all:=#[Value.agg #[Vs s,Vi at_],Vi (((a+b) / 2:Nat):Int)]) K_ rfl ?_
  refine Calls.mono (s_Tb (at_:=at_) (p:=(a+b) / 2) (e.src hs) O_ (R:=fun r w'=>∃ v,vs[(a+b) / 2]? =some v∧r=decide (v.Number>at_)∧Ext w1 w') fun v w' hv e'=>⟨v,hv,rfl,e'⟩) ?_
  rintro e' w2 ⟨r,rfl,v,hv,rfl,e2⟩
  have hiff:=zqd (at_:=at_) hr hv
  refine⟨_,rfl,fun hh=> ?_,fun hh=> ?_⟩
  ·have hh:¬ v.Number>at_:=by simpa using hh
   have wm:IntKind.i64.wrap ((((a+b) / 2:Nat):Int)+1)=(((a+b) / 2+1:Nat):Int):=by rw [i64_in _ O_ O_]; omega
   rw [wm]
   exact⟨⟨(a+b) / 2+1,b,rfl,rfl,O_,h2,h3,e.trans e2⟩,by show _ - _<_ - _; omega⟩
  ·have hh:v.Number>at_:=by simpa using hh
   exact⟨⟨a,(a+b) / 2,rfl,rfl,h1,O_,O_,e.trans e2⟩,by show _ - _<_ - _; omega⟩
 ·have h:=of_decide_eq_false h
  have:=k w1 e
  rw [show upF at_ vs=a from by omega] at this
  exact this
section
variable {w0:Base} {w:World} {fr:List zg}
theorem s_k {s:Slc} {vs:List Ver} {R:Slc→WP} (st:St w0 fr w) (hs:zr w s 3 (vs.flatMap verC)) (hl:s.len≤4398046511104)
    (k:∀ s' rb w',RowC 3 s' (vs.flatMap verC) rb→St w0 (rb++fr) w'→Ext w w'→s'.len=vs.length→R s' w'):C_a s w R:=by
 apply S_g
 unfold F_C
 have hlen:=zrd hs
 refine⟨fun h=> ?_,fun h=>fun b w1 hb hw=> ?_⟩
 ·have hp:s.ptr=none:=by simpa using h
  have:vs.flatMap verC=[]:=by
   obtain⟨_,h2 | ⟨h2,_⟩⟩:=hs
   ·exact h2
   ·rw [hp] at h2; cases h2
  have h0:=zl verC_len vs
  rw [this] at h0
  have hv:vs=[]:=List.eq_nil_of_length_eq_zero (by simp at h0; omega)
  subst hv
  exact k _ [] _ RowC.nil st (Ext.refl _) rfl
 ·have st2:=(St.start w).alloc hb hw
  refine⟨_,st2.ext.src hs,?_⟩
  refine(RowC.new (b:=b) (xs:=[]) (n:=0) rfl:RowC 3 ⟨some ⟨b,0,none⟩,0,0⟩ [] [(b,[])]).append st2 (by rw [zl verC_len,hlen]) (zJh vs) rfl (by show(0+s.len)*32≤_; omega) fun s' rb w' r st' hl'=> ?_
  have st3:St ⟨w,[]⟩ rb w':=by simpa using st'
  exact k _ _ _ (by simpa using r) (St.join st st3) st3.ext (by rw [hl']; show 0+s.len=_; omega)
end
section
variable {w0:Base} {w:World} {fr:List zg}
/-- slices.Insert of one version, that lies in a plain block of its own. -/
theorem s_x {s:Slc} {vs:List Ver} {x:Ver} {i vb:Nat} {rb:List zg} {R:Slc→WP} (r:RowC 3 s (vs.flatMap verC) rb) (st:St w0 (rb++([(vb,verC x)]++fr)) w) (hpl:Plain w vb) (hl:s.len≤1099511627776) (hi:i≤s.len)
    (k:∀ s' rb' w',RowC 3 s' ((vs.take i++x::vs.drop i).flatMap verC) rb'→St w0 (rb'++fr) w'→s'.len=vs.length+1→R s' w'):C_e s (i:Int) (Slc.mk (some ⟨vb,0,none⟩) 1 1) w R:=by
 apply S_f
 unfold F_B
 have hsl:s.len=vs.length:=by have:=r.len; rw [zl verC_len] at this; omega
 have hcl:=r.cap_le
 have hx:zI (verC x)=true:=rfl
 have vsrc:∀ {rb:List zg} {w':World},St w0 (rb++([(vb,verC x)]++fr)) w'→zr w' (Slc.mk (some ⟨vb,0,none⟩) 1 1) 3 (verC x):=fun st=>⟨rfl,.inr ⟨rfl,(st.drop.get 0 rfl).all⟩⟩
 have hti:(vs.take i).length=i:=by rw [List.length_take]; omega
 have htc:((vs.take i).flatMap verC).length=i*3:=by rw [zl verC_len,hti]
 have hdi:(vs.drop i).length=vs.length - i:=List.length_drop ..
 have hdc:((vs.drop i).flatMap verC).length=(vs.length - i)*3:=by rw [zl verC_len,hdi]
 have hsplit:vs.flatMap verC=(vs.take i).flatMap verC++(vs.drop i).flatMap verC:=by rw [←List.flatMap_append,List.take_append_drop]
 refine⟨⟨O_,O_,O_,O_⟩,fun s1 _=>⟨fun h=>by simp at h,fun _=>⟨fun h=> ?_,fun h=> ?_⟩⟩⟩
 ·have h:i=s.len:=by have:(i:Int)=((s.len:Nat):Int):=by simpa using h
                     omega
  refine⟨_,vsrc st,r.append st rfl hx rfl (by show(s.len+1)*32≤_; omega) fun s' rb' w' r' st' hl'=>k s' rb' w' ?_ st'.skip2 (by rw [hl',hsl])⟩
  rw [List.take_of_length_le O_,List.drop_eq_nil_of_le O_,List.flatMap_append]
  simpa using r'
 have hne:i<s.len:=by
  have:(i:Int)≠((s.len:Nat):Int):=by simpa using h
  omega
 have w1:IntKind.i64.wrap (((s.len:Nat):Int)+((1:Nat):Int))=((s.len+1:Nat):Int):=by rw [i64_in _ O_ O_]; omega
 have w2:IntKind.i64.wrap (((s.len+1:Nat):Int) - (i:Int))=((s.len+1 - i:Nat):Int):=by rw [i64_in _ O_ O_]; omega
 have w3:IntKind.i64.wrap ((i:Int)+((1:Nat):Int))=((i+1:Nat):Int):=by rw [i64_in _ O_ O_]; omega
 show((decide ((IntKind.i64.wrap (((s.len:Nat):Int)+((1:Nat):Int)))>((s.cap:Nat):Int)))=true→_)∧_
 rw [w1]
 refine⟨fun h=> ?_,fun h=> ?_⟩
 ·have h:=of_decide_eq_true h
  show 0≤(i:Int)∧(i:Int)≤((s.cap:Nat):Int)∧(0≤IntKind.i64.wrap (((s.len+1:Nat):Int) - (i:Int))∧_)
  rw [w2,Int.toNat_natCast,Int.toNat_natCast]
  refine⟨O_,O_,O_,O_,?_⟩
  refine⟨fun hc=>by have hc:i+(s.len+1 - i)≤s.cap:=hc; omega,fun hc=>⟨growslice_fits hc (by show(i+(s.len+1 - i))*32≤_; omega),(vs.take i).flatMap verC,?_,fun cap b w4 hcap _ hb hw=> ?_⟩⟩
  ·have hp:=(r.src st).pre (k:=i) O_
   rw [hsplit,List.take_append_of_le_length O_,List.take_of_length_le O_] at hp
   exact hp
  ·have hE:Ext w w.drew:=Qt.ext ⟨1,rfl⟩
   have st2:=(st.keep hE).alloc hb hw
   have hz:∀ n,(zu n [Vi 0,Value.string ByteArray.empty,Vo false]).toList.length=n*3:=fun n=>by
    unfold zu
    simp [List.length_flatten]
   have hcap':s.len+1≤cap:=by have hcap:i+(s.len+1 - i)≤cap:=hcap; omega
   have r2:RowC 3 ⟨some ⟨b,0,none⟩,s.len+1,cap⟩ ((vs.take i).flatMap verC++(zu (s.len+1 - i) [Vi 0,Value.string ByteArray.empty,Vo false]).toList) [(b,(vs.take i).flatMap verC++(zu (s.len+1 - i) [Vi 0,Value.string ByteArray.empty,Vo false]).toList++(zu (cap - (s.len+1)) [Vi 0,Value.string ByteArray.empty,Vo false]).toList)]:=by
    refine .inr ⟨b,[],(zu (cap - (s.len+1)) [Vi 0,Value.string ByteArray.empty,Vo false]).toList,[],rfl,by simp,?_,?_,hcap'⟩
    ·rw [List.length_append,hz,htc]; show i*3+_=(s.len+1)*3; omega
    ·rw [List.length_append,hz,hz,htc]; show i*3+_+_=cap*3; omega
   have e4:i+(s.len+1 - i)=s.len+1:=O_
   rw [e4] at st2
   rw [e4]
   have st2:St w0 ([(b,(vs.take i).flatMap verC++(zu (s.len+1 - i) [Vi 0,Value.string ByteArray.empty,Vo false]).toList++(zu (cap - (s.len+1)) [Vi 0,Value.string ByteArray.empty,Vo false]).toList)]++(rb++([(vb,verC x)]++fr))) w4:=st2
   show(0≤(i:Int)∧(i:Int)≤((s.len+1:Nat):Int)∧((s.len+1:Nat):Int)≤((cap:Nat):Int)∧((cap:Nat):Int)≤((cap:Nat):Int))∧_
   refine⟨⟨O_,O_,O_,O_⟩,fun s3 hs3=> ?_⟩
   have hs3l:s3.len=s.len+1 - i:=by rw [hs3,Slc.cut_len O_ (by show(i:Int)≤((s.len+1:Nat):Int); omega)]; simp
   have hmin:min 1 s3.len=1:=O_
   refine⟨verC x,?_,?_⟩
   ·show zBb w4 _ (min 1 s3.len) 3 _
    rw [hmin]; exact vsrc st2.drop
   rw [hs3]
   refine r2.overN (lo:=i) (m:=1) st2 rfl D_ D_ (by show i+1≤s.len+1; omega) rfl rfl hx fun nb w5 r3 st3=> ?_
   intro w6 e6
   have st3:=st3.drew e6
   show(0≤IntKind.i64.wrap ((i:Int)+((1:Nat):Int))∧_)∧_
   rw [w3]
   refine⟨⟨O_,by show((i+1:Nat):Int)≤((s.len+1:Nat):Int); omega,by show((s.len+1:Nat):Int)≤((cap:Nat):Int); omega,Int.le_refl _⟩,fun s4 hs4=>⟨⟨O_,O_,O_,O_⟩,fun s5 hs5=> ?_⟩⟩
   have hs4l:s4.len=s.len - i:=by rw [hs4,Slc.cut_len O_ (by show((i+1:Nat):Int)≤((s.len+1:Nat):Int); omega)]; (simp only [Int.toNat_natCast]) <;> omega
   have hs5l:s5.len=s.len - i:=by rw [hs5,Slc.cut_len O_ O_]; simp
   have hsrc5:=(r.src st3.swap).cut (lo:=(i:Int)) (hi:=((s.len:Nat):Int)) (mx:=((s.cap:Nat):Int)) O_ O_ O_ O_
   rw [←hs5,Int.toNat_natCast,Int.toNat_natCast,hsplit,List.drop_left' htc,List.take_of_length_le O_] at hsrc5
   refine⟨(vs.drop i).flatMap verC,?_,?_⟩
   ·have:min s5.len s4.len=s5.len:=O_
    rw [this]; exact hsrc5
   rw [hs4]
   refine r3.overN (lo:=i+1) (m:=s.len - i) st3 (by rw [hdc,hsl]) O_ D_ (by show i+1+(s.len - i)≤s.len+1; omega) rfl rfl (zJh _) fun nb2 w7 r4 st4=> ?_
   refine k _ nb2 w7 ?_ (st4.skip2.skip2) (by show s.len+1=_; omega)
   have e5:(((vs.take i).flatMap verC++(zu (s.len+1 - i) [Vi 0,Value.string ByteArray.empty,Vo false]).toList).take (i*3)++verC x++((vs.take i).flatMap verC++(zu (s.len+1 - i) [Vi 0,Value.string ByteArray.empty,Vo false]).toList).drop (i*3+(verC x).length)).take ((i+1)*3)=(vs.take i).flatMap verC++verC x:=by
    rw [List.take_left' htc,List.take_append_of_le_length (by rw [List.length_append,htc,verC_len]; omega),List.take_of_length_le (by rw [List.length_append,htc,verC_len]; omega)]
   rw [e5] at r4
   have r4:=r4.trim (by simp only [List.length_append,htc,hdc,verC_len]; show _=(s.len+1)*3; omega)
   rw [List.flatMap_append,List.flatMap_cons]
   simpa using r4
 ·have h:=of_decide_eq_false h
  rw [Int.toNat_natCast]
  refine⟨O_,O_,?_⟩
  show(0≤IntKind.i64.wrap ((i:Int)+((1:Nat):Int))∧_)∧_
  rw [w3]
  obtain⟨js,hjs,r2⟩:=r.extend (n:=s.len+1) O_ O_ O_
  have hjs:js.length=3:=by rw [hjs]; omega
  refine⟨⟨O_,O_,O_,O_⟩,fun s6 hs6=> ?_⟩
  obtain⟨b,pre,rest,suf,hp,hrb,hx1,hx2,hx3⟩:∃ b pre rest suf,s.ptr=some ⟨b,pre,none⟩∧rb=[(b,suf)]∧rest=suf.length∧0<suf.length∧True:=by
   rcases r with ⟨hp,hl0,_⟩ | ⟨b,pre,rest,suf,hp,hrb,hx,hr,hle⟩
   ·omega
   ·refine⟨b,pre.length,_,_,hp,hrb,rfl,?_,trivial⟩
    have:(vs.flatMap verC).length=vs.length*3:=zl verC_len vs
    simp only [List.length_append]; omega
  have hov:zig w (Slc.mk (some ⟨vb,0,none⟩) 1 1) s6:=by
   have hptr:s6.ptr=some ⟨b,pre+(i+1)*3,none⟩:=by
    rw [hs6]; unfold Slc.cut
    simp only [Int.toNat_natCast]
    rw [if_neg O_,hp]
    simp [addr_add]
   rw [hrb] at st
   have hnb:vb≠b:=fun e=>by
    have:=st.nodup
    subst e
    simp at this
   obtain⟨TB,hB⟩:=(show St w0 ((b,suf)::([(vb,verC x)]++fr)) w from st).shape
   obtain⟨TA,hA⟩:=(show St w0 ((vb,verC x)::fr) w from st.drop1).shape
   refine⟨rfl,by rw [hptr]; rfl,by rw [hptr]; exact hnb,TA,_,TB,_,hA,by rw [hptr]; exact hB,O_,hpl⟩
  refine⟨hov,fun _=> ?_,fun h=>by simp at h⟩
  intro w6 e6
  have st:=st.drew e6
  have hA:(⟨s.ptr,s.len+1,s.cap⟩:Slc).len=s.len+1:=rfl
  refine⟨⟨O_,O_,O_,O_⟩,fun s7 hs7=>⟨⟨O_,O_,O_,O_⟩,fun s8 hs8=> ?_⟩⟩
  have hs7l:s7.len=s.len - i:=by rw [hs7,Slc.cut_len O_ O_]; (simp only [Int.toNat_natCast]) <;> omega
  have hs8l:s8.len=s.len+1 - i:=by rw [hs8,Slc.cut_len O_ O_]; simp
  have hsrc8:=(r2.src st).cut (lo:=(i:Int)) (hi:=((s.len+1:Nat):Int)) (mx:=((s.cap:Nat):Int)) O_ O_ (by show((s.len+1:Nat):Int)≤((s.len+1:Nat):Int); omega) O_
  rw [←hs8,Int.toNat_natCast,Int.toNat_natCast,hsplit,List.append_assoc,List.drop_left' htc,List.take_of_length_le (by rw [List.length_append,hdc,hjs]; omega)] at hsrc8
  refine⟨(vs.drop i).flatMap verC,?_,?_⟩
  ·have hmn:min s8.len s7.len=s.len - i:=O_
   rw [hmn]
   have:=zPm hsrc8 (k:=s.len - i) O_
   rw [List.take_left' (by rw [hdc,hsl])] at this
   exact this
  rw [hs7]
  refine r2.overN (lo:=i+1) (m:=s.len - i) st (by rw [hdc,hsl]) O_ D_ (by show i+1+(s.len - i)≤s.len+1; omega) rfl rfl (zJh _) fun nb w7 r3 st3=> ?_
  have hA:(vs.flatMap verC++js).take ((i+1)*3)=(vs.take i).flatMap verC++(((vs.drop i).flatMap verC++js).take 3):=by
   rw [hsplit,List.append_assoc,List.take_append,htc,List.take_of_length_le O_,show(i+1)*3 - i*3=3 from by omega]
  have h3:(((vs.drop i).flatMap verC++js).take 3).length=3:=by rw [List.length_take,List.length_append,hdc,hjs]; omega
  rw [hA] at r3
  generalize ((vs.drop i).flatMap verC++js).take 3=J at r3 h3
  have r3:=r3.trim (by simp only [List.length_append,htc,hdc,h3]; show _=(s.len+1)*3; omega)
  have eX1:(((vs.take i).flatMap verC++J)++(vs.drop i).flatMap verC).take (i*3)=(vs.take i).flatMap verC:=by rw [List.append_assoc,List.take_left' htc]
  have eX2:(((vs.take i).flatMap verC++J)++(vs.drop i).flatMap verC).drop (i*3+3)=(vs.drop i).flatMap verC:=List.drop_left' (by rw [List.length_append,htc,h3])
  refine⟨⟨O_,O_,O_,O_⟩,fun s9 hs9=> ?_⟩
  have hs9l:s9.len=s.len+1 - i:=by rw [hs9,Slc.cut_len O_ O_]; simp
  refine⟨verC x,?_,?_⟩
  ·have hmn:min (1:Nat) s9.len=1:=O_
   show zBb w7 _ (min 1 s9.len) 3 _
   rw [hmn]; exact vsrc st3
  rw [hs9]
  refine r3.overN (lo:=i) (m:=1) st3 rfl D_ D_ (by show i+1≤s.len+1; omega) rfl rfl hx fun nb2 w8 r4 st4=> ?_
  refine k _ nb2 w8 ?_ st4.skip2 (by show s.len+1=_; omega)
  rw [eX1,verC_len,eX2] at r4
  rw [List.flatMap_append,List.flatMap_cons]
  simpa using r4
end
def zKh (x:Ver) (vs:List Ver):List Ver:=vs.take (upF x.Number vs)++x::vs.drop (upF x.Number vs)
theorem zgo {vs:List Ver} {n:Int} (hr:z1d vs) (h0:0<upF n vs) {u:Ver} (hu:vs[upF n vs - 1]? =some u):(∃ y∈vs,y.Number=n)↔u.Number=n:=by
 refine⟨fun⟨y,hy,he⟩=> ?_,fun h=>⟨u,List.mem_of_getElem? hu,h⟩⟩
 obtain⟨j,hj⟩:=List.mem_iff_getElem?.1 hy
 have h1:=(zqd (at_:=n) hr hj).1 O_
 have h2:=(zqd (at_:=n) hr hu).2 O_
 by_cases hjk:j=upF n vs - 1
 ·rw [hjk,hu] at hj; rw [Option.some.inj hj]; exact he
 ·exfalso
  have hjl:=(List.getElem?_eq_some_iff.1 hj).1
  have hul:=(List.getElem?_eq_some_iff.1 hu).1
  have:=List.pairwise_iff_getElem.1 hr j (upF n vs - 1) hjl hul O_
  rw [(List.getElem?_eq_some_iff.1 hj).2,(List.getElem?_eq_some_iff.1 hu).2] at this
  omega
theorem zKm {vs:List Ver} {n:Int} (hr:z1d vs) (h0:upF n vs=0):∀ y∈vs,y.Number≠n:=fun y hy he=>by
 obtain⟨j,hj⟩:=List.mem_iff_getElem?.1 hy
 have:=(zqd (at_:=n) hr hj).1 O_
 omega
section
variable {w0:Base} {w:World} {fr:List zg}
theorem zho (x:Ver):okC 0 [x]=mayV x:=by
 unfold okC okC
 cases h:mayV x with
 | false=>rfl
 | true =>
  unfold mayV at h
  simp only [Bool.and_eq_true,decide_eq_true_eq] at h
  rw [decide_eq_true O_]; rfl
theorem s_Z {l:Slc} {vs:List Ver} {x:Ver} {R:Slc→Bool→Int→WP} (st:St w0 fr w) (hs:∀ {l':List zg} {w':World},St w0 (l'++fr) w'→zr w' l 3 (vs.flatMap verC)) (hl:l.len≤1099511627776)
    (k0:(okC 0 vs&&mayV x)=false→∀ w',St w0 fr w'→R ⟨none,0,0⟩ false 1 w')
    (k1:okC 0 vs=true→mayV x=true→(∃ y∈vs,y.Number=x.Number)→∀ s rb w',RowC 3 s (vs.flatMap verC) rb→St w0 (rb++fr) w'→s.len=vs.length→R s false 0 w')
    (k2:okC 0 vs=true→mayV x=true→(∀ y∈vs,y.Number≠x.Number)→∀ s rb w',RowC 3 s ((zKh x vs).flatMap verC) rb→St w0 (rb++fr) w'→s.len=vs.length+1→R s true 0 w'):C_9b l x w R:=by
 apply S_Xb
 unfold F_Hd
 intro b w1 hb hw
 have st:St w0 ([(b,verC x)]++fr) w1:=st.alloc hb hw
 have hsl:=zrd (hs st)
 have bad:(okC 0 vs&&mayV x)=false→∀ w',St w0 ([(b,verC x)]++fr) w'→F_jb l R b true w':=fun h w' st=>by
  unfold F_jb
  exact⟨fun _=>k0 h w' st.drop,fun hh=>(by cases hh)⟩
 refine s_l (hs st) O_ fun w2 e2=> ?_
 have st:=st.keep e2
 cases hok:okC 0 vs with
 | false=>exact⟨fun _=>bad (by rw [hok]; rfl) _ st,fun h=>by simp at h⟩
 | true =>
 refine⟨fun h=>by simp at h,fun _=>⟨x,(st.get 0 rfl).all,fun b3 w3 hb3 hw3=> ?_⟩⟩
 have st3:=st.alloc hb3 hw3
 refine s_l (vs:=[x]) ⟨rfl,.inr ⟨rfl,(st3.get 0 rfl).all⟩⟩ (by show 1≤_; omega) fun w4 e4=> ?_
 have st:St w0 ([(b,verC x)]++fr) w4:=(st3.keep e4).drop1
 rw [zho]
 cases hm:mayV x with
 | false=>exact bad (by rw [hok,hm]; rfl) _ st
 | true =>
 have hr:=(zHe.1 hok).1
 have hu:=zmn x.Number vs
 have e0:(((if(true:Bool)=true then 0 else 1:Int)) != 0)=false:=rfl
 rw [e0]
 unfold F_jb
 refine⟨fun h=>(by cases h),fun _=>⟨x.Number,st.cell 0 rfl rfl,s_Vb (hs st) O_ hr fun w5 e5=> ?_⟩⟩
 have st:=st.keep e5
 have fin0:(∀ y∈vs,y.Number≠x.Number)→∀ w',St w0 ([(b,verC x)]++fr) w'→F_ib l R b (upF x.Number vs:Int) false w':=fun hno w' st=>by
  unfold F_ib
  refine⟨fun h=>(by cases h),fun _ w6 e6=> ?_⟩
  have st:=st.drew e6
  refine⟨x,(st.get 0 rfl).all,?_,fun b2 w10 hb2 hw10=> ?_⟩
  ·refine s_k st (hs st) O_ fun s rb w7 rs st7 e7 hs7=>⟨(st7.drop.get 0 rfl).all,fun b1 w8 hb1 hw8=> ?_⟩
   have st8:St w0 (rb++([(b1,verC x)]++([(b,verC x)]++fr))) w8:=(st7.alloc hb1 hw8).mid
   exact s_x (x:=x) rs st8 (Plain.new hb1 hw8) O_ O_ fun s' rb' w9 r9 st9 hl9=>k2 hok hm hno s' rb' w9 r9 st9.skip2 hl9
  ·have st10:St w0 ([(b2,verC x)]++([(b,verC x)]++fr)) w10:=st.alloc hb2 hw10
   refine s_k st10 (hs (l':=[(b2,verC x)]++[(b,verC x)]) st10) O_ fun s rb w11 rs st11 e11 hs11=> ?_
   exact s_x (x:=x) rs st11 ((Plain.new hb2 hw10).ext e11 (st10.lt 0 rfl)) O_ O_ fun s' rb' w9 r9 st9 hl9=>k2 hok hm hno s' rb' w9 r9 st9.skip2 hl9
 refine⟨fun h=> ?_,fun h w14 e14=> ?_⟩
 ·have h:=of_decide_eq_true h
  have wm:IntKind.i64.wrap (((upF x.Number vs:Nat):Int) - 1)=((upF x.Number vs - 1:Nat):Int):=by rw [i64_in _ O_ O_]; omega
  obtain⟨a,u,hv,hc⟩:=zIe (hs st) (i:=upF x.Number vs - 1) O_
  rw [wm]
  refine⟨a,O_,O_,u.Number,by rw [Int.toNat_natCast]; exact zJm hc,x.Number,st.cell 0 rfl rfl,fun w13 e13=> ?_⟩
  have st:=st.keep e13
  have hiff:=zgo hr O_ hv
  by_cases he:u.Number=x.Number
  ·rw [show(u.Number==x.Number)=true from by simpa using he]
   unfold F_ib
   refine⟨fun _=>s_k st (hs st) O_ fun s rb w7 rs st7 e7 hs7=>k1 hok hm (hiff.2 he) s rb w7 rs st7.skip2 hs7,fun h=>(by cases h)⟩
  ·rw [show(u.Number==x.Number)=false from by simpa using he]
   exact fin0 (fun y hy hye=>he (hiff.1 ⟨y,hy,hye⟩)) _ st
 ·have h:=of_decide_eq_false h
  exact fin0 (zKm hr O_) _ (st.keep e14)
end
theorem RowC.srcM {sz:Nat} {s:Slc} {xs:List Value} {rb L:List zg} {w0:Base} {w:World} (h:RowC sz s xs rb) (hm:∀ c∈rb,c∈L) (st:St w0 L w):zr w s sz xs:=by
 rcases h with ⟨h1,h2,h3,rfl,_⟩ | ⟨b,pre,rest,suf,hp,rfl,h1,h2,h3⟩
 ·exact⟨by simp [h2],.inl rfl⟩
 ·refine⟨h1,.inr ?_⟩
  rw [hp]
  refine⟨rfl,(st.blk _ (hm _ (List.mem_cons_self ..))).cells fun i v hi=> ?_⟩
  have hl:=(List.getElem?_eq_some_iff.1 hi).1
  show(pre++(xs++(rest++suf)))[pre.length+i]? =some v
  rw [List.getElem?_append_right O_,List.getElem?_append_left O_]
  rw [show pre.length+i - pre.length=i from by omega]
  exact hi
def InC (vb:List zg) (s:Slc) (vs:List Ver):Prop:=∃ rb,RowC 3 s (vs.flatMap verC) rb∧∀ c∈rb,c∈vb
theorem InC.mono {vb vb':List zg} {s:Slc} {vs:List Ver} (h:InC vb s vs) (hm:∀ c∈vb,c∈vb'):InC vb' s vs:=by
 obtain⟨rb,a,b⟩:=h
 exact⟨rb,a,fun c hc=>hm c (b c hc)⟩
theorem InC.src {vb L:List zg} {s:Slc} {vs:List Ver} {w0:Base} {w:World} (h:InC vb s vs) (hm:∀ c∈vb,c∈L) (st:St w0 L w):zr w s 3 (vs.flatMap verC):=by
 obtain⟨rb,a,b⟩:=h
 exact a.srcM (fun c hc=>hm c (b c hc)) st
abbrev mayK (k:ByteArray):Prop:=1≤k.size∧k.size≤64
abbrev SM:=ByteArray→List Ver
def KeyV (es:Array MapEntry) (vb:List zg) (k:ByteArray) (vs:List Ver):Prop :=
 (zK es (.string k)=none∧vs=[])∨∃ s,zK es (.string k)=some (Vs s)∧vs≠[]∧InC vb s vs
def zde (s:OA) (M:SM) (sm:List (Nat×Obj)) (bs:List zg):Prop :=
 ∃ b m es c vb,s=some ⟨b,0,none⟩∧bs=(b,[Value.map (some m)])::vb∧sm=[(m,.map es c)]∧MOk isKS es c∧∀ k,KeyV es vb k (M k)
def SM.put (M:SM) (k:ByteArray) (x:Ver):SM:=fun j=>if j=k then zKh x (M k) else M j
section
variable {W:World} {m0 sm:List (Nat×Obj)} {w:World} {fr bs:List zg} {s:OA} {M:SM}
theorem s_0 {R:OA→WP} (st:St ⟨W,m0⟩ fr w) (k:∀ s sm bs w',zde s (fun _=>[]) sm bs→St ⟨W,sm++m0⟩ (bs++fr) w'→R s w'):C_6b w R:=by
 apply S_Yb
 unfold F_Ed
 intro b1 w1 hb1 hw1 b2 w2 hb2 hw2
 have st:=(st.mnew hb1 hw1).alloc hb2 hw2
 exact k _ _ _ _ ⟨b2,b1,_,_,[],rfl,rfl,rfl,MOk.empty,fun k=> .inl ⟨zuc fun e he=>(by cases he),rfl⟩⟩ st
theorem s_i {R:Bool→WP} (o:zde s M sm bs) (st:St ⟨W,sm++m0⟩ (bs++fr) w) (k:R false w):C_B s w R:=by
 apply S_2
 unfold F_Bc
 obtain⟨b,m,es,c,vb,rfl,rfl,rfl,_⟩:=o
 exact⟨fun h=>(by cases h),fun _=>⟨rfl,some m,st.cell 0 rfl rfl,k⟩⟩
theorem s_1 {key:ByteArray} {R:Bool→WP} (h:mayK key) (k1:R true w):C_Ob key w R:=by
 apply S_Zb
 unfold F_Fd
 rw [zhc,decide_eq_false O_,decide_eq_true O_]
 exact k1
theorem s_n {R:OA→Int→WP} {p:OA} {cap:Nat} (st:St ⟨W,m0⟩ fr w) (k:∀ s sm bs w',zde s (fun _=>[]) sm bs→St ⟨W,sm++m0⟩ (bs++fr) w'→R s 0 w'):C_Fb ⟨p,0,cap⟩ w R:=by
 apply S_Sb
 unfold F_xd
 refine s_0 st fun s sm bs w1 o st=>⟨fun i w'=>i=0∧St ⟨W,sm++m0⟩ (bs++fr) w',fun _ _=>0,⟨rfl,st⟩,?_⟩
 rintro i w2 ⟨rfl,st⟩
 unfold F_yc
 exact⟨fun h=>by have:=of_decide_eq_true h; simp at this,fun _=>k s sm bs _ o st⟩
theorem KeyV.lk {es:Array MapEntry} {vb:List zg} {k:ByteArray} {vs:List Ver} (h:KeyV es vb k vs):∃ sl ok,LkIs es (.string k) (Value.slice none 0 0) (Vs sl) ok∧InC vb sl vs:=by
 rcases h with ⟨h,rfl⟩ | ⟨sl,h,_,hc⟩
 ·exact⟨⟨none,0,0⟩,false,MOk.lkIs' (by rw [h]; rfl) (by rw [h]; rfl),[],RowC.nil,fun c hc=>(by cases hc)⟩
 ·exact⟨sl,true,MOk.lkIs' (by rw [h]; rfl) (by rw [h]; rfl),hc⟩
theorem s_v {n:Int} {x:Wr} {R:Bool→Int→WP} (o:zde s M sm bs) (st:St ⟨W,sm++m0⟩ (bs++fr) w) (hk:mayK x.Key) (hx:mayV ⟨n,x.Val,x.Drop⟩=true) (hc:okC 0 (M x.Key)=true) (hl:(M x.Key).length≤1099511627776) (hn:∀ y∈M x.Key,y.Number≠n)
    (k:∀ sm' bs' w',zde s (M.put x.Key ⟨n,x.Val,x.Drop⟩) sm' bs'→St ⟨W,sm'++m0⟩ (bs'++fr) w'→R true 0 w'):C_F s n x w R:=by
 apply S_J
 unfold F_4b
 intro b_ w1 hb hw
 have st:St ⟨W,sm++m0⟩ (bs++((b_,[Value.string x.Key,Value.string x.Val,Vo x.Drop])::fr)) w1:=(st.alloc hb hw).mid
 refine s_i o st ⟨fun h=>(by cases h),fun _=> ?_⟩
 obtain⟨b,m,es,c,vb,rfl,rfl,rfl,ok,hM⟩:=o
 have cellx:∀ {w':World} {mp:List (Nat×Obj)} {pre:List zg} {o:Nat} {v:Value},St ⟨W,mp⟩ (pre++(((b,[Value.map (some m)])::vb)++((b_,[Value.string x.Key,Value.string x.Val,Vo x.Drop])::fr))) w'→[Value.string x.Key,Value.string x.Val,Vo x.Drop][o]? =some v→w'.cell? ⟨b_,o,none⟩=some v:=fun {w' mp pre o v} st hv=>(st.blk (b_,_) (by simp)).cell hv
 refine⟨x.Key,cellx (pre:=[]) st rfl,s_1 hk ⟨fun h=>(by cases h),fun _=>fun w2 e2=> ?_⟩⟩
 have st:=st.drew e2
 obtain⟨sl,lok,hlk,hin⟩:=(hM x.Key).lk
 refine⟨rfl,some m,st.cell 0 rfl rfl,x.Key,cellx (pre:=[]) st rfl,es,sl,lok,.inr ⟨m,c,rfl,st.objAt 0 rfl⟩,ok.all,ok.nodup,⟨_,rfl⟩,hlk,x.Val,cellx (pre:=[]) st rfl,x.Drop,cellx (pre:=[]) st rfl,?_⟩
 have hsl:∀ {l':List zg} {w':World},St ⟨W,[(m,.map es c)]++m0⟩ (l'++(((b,[Value.map (some m)])::vb)++((b_,[Value.string x.Key,Value.string x.Val,Vo x.Drop])::fr))) w'→zr w' sl 3 ((M x.Key).flatMap verC):=fun {l' w'} st=>hin.src (fun q hq=>by simp [hq]) st
 have hlen:=zrd (hsl (l':=[]) st)
 refine s_Z st hsl O_ (fun h=>(by rw [hc,hx] at h; cases h)) (fun _ _ ⟨y,hy,he⟩=>absurd he (hn y hy)) fun _ _ _ s' rb w3 r' st hl'=>⟨fun _=>fun w4 e4=> ?_,fun h=>(by cases h)⟩
 have st:=st.drew e4
 refine⟨rfl,some m,(St.drop (a:=rb) st).cell 0 rfl rfl,x.Key,cellx (pre:=rb) st rfl,m,es,c,rfl,st.objAt 0 rfl,ok.all,ok.nodup,⟨_,rfl⟩,fun es2 c2 w5 hset hw5=> ?_⟩
 have st:=st.mset0 hw5
 obtain⟨ok2,va,vb2⟩:=ok.set ⟨_,rfl⟩ hset
 unfold F_H
 refine k [(m,.map es2 c2)] ((b,[Value.map (some m)])::(vb++rb)) w5 ⟨b,m,es2,c2,vb++rb,rfl,rfl,rfl,ok2,fun j=> ?_⟩ (st.weak [(b_,[Value.string x.Key,Value.string x.Val,Vo x.Drop])] (za fun f_=>by simp <;> omega))
 unfold SM.put
 by_cases hj:j=x.Key
 ·subst hj
  rw [if_pos rfl]
  refine .inr ⟨s',va,fun e=> ?_,rb,r',fun q hq=>List.mem_append_right _ hq⟩
  unfold zKh at e
  simp at e
 ·rw [if_neg hj]
  have e:=vb2 (.string j) (fun e=>hj (by injection e))
  rcases hM j with ⟨h1,h2⟩ | ⟨sj,h1,h2,h3⟩
  ·exact .inl ⟨e.trans h1,h2⟩
  ·exact .inr ⟨sj,e.trans h1,h2,h3.mono fun q hq=>List.mem_append_left _ hq⟩
end
abbrev Rq:=T_c
theorem z5c (x:Rq):(reqV x).length=9:=rfl
theorem z0i {α:Type} {f:α→List Value} {sz:Nat} (hf:∀ x,(f x).length=sz) {l:List α} {j:Nat} (x:α) (hj:j<l.length):putL (j*sz) (f x) (l.flatMap f)=(l.set j x).flatMap f:=by
 have e:l.flatMap f=(l.take j).flatMap f++f l[j]++(l.drop (j+1)).flatMap f:=by
  conv=>lhs; rw [←List.take_append_drop j l,List.drop_eq_getElem_cons hj,List.flatMap_append,List.flatMap_cons]
  rw [List.append_assoc]
 have e2:((l.take j).flatMap f).length=j*sz:=by rw [zl hf,List.length_take,Nat.min_eq_left O_]
 rw [e,←e2,zlb _ _ _ _ (by rw [hf,hf]),List.set_eq_take_append_cons_drop,if_pos hj,List.flatMap_append,List.flatMap_cons,List.append_assoc]
/-- What a queue holds. -/
def ReqO (r:OA) (cap:Nat) (q:List Rq) (bs:List zg):Prop :=
 ∃(b lb:Nat) (cells:List Rq) (first:Nat),r=some ⟨b,0,none⟩ ∧
  bs=[(b,[Value.slice (some ⟨lb,0,none⟩) cap cap,Vi (first:Int),Vi (q.length:Int),Vo false]),(lb,cells.flatMap reqV)] ∧
  cells.length=cap∧1≤cap∧cap≤65536∧first<cap∧q.length≤cap∧∀ i,i<q.length→cells[(first+i) % cap]? =q[i]?
theorem zHd {a c:Nat} (h:a<2*c):a % c=if a<c then a else a - c:=by
 split
 ·exact Nat.mod_eq_of_lt O_
 ·rw [Nat.mod_eq_sub_mod O_]; exact Nat.mod_eq_of_lt O_
section
variable {w0:Base} {w:World} {l bs:List zg} {r:OA} {cap:Nat} {q:List Rq}
theorem s_y {R:Bool→WP} (st:St w0 (bs++l) w) (o:ReqO r cap q bs) (k:R false w):C_q r w R:=by
 apply S_q
 unfold F_yb
 obtain⟨b,lb,cells,first,rfl,rfl,_⟩:=o
 exact⟨fun h=>(by cases h),fun _=>⟨rfl,⟨some ⟨lb,0,none⟩,cap,cap⟩,st.cell 0 rfl rfl,k⟩⟩
theorem s_M {R:Int→WP} (st:St w0 (bs++l) w) (o:ReqO r cap q bs) (k:R (q.length:Int) w):C_w r w R:=by
 apply S_u
 unfold F_Jb
 refine s_y st o ⟨fun h=>(by cases h),fun _=> ?_⟩
 obtain⟨b,lb,cells,first,rfl,rfl,_⟩:=o
 exact⟨rfl,_,st.cell 0 rfl rfl,k⟩
theorem s_z {R:Int→WP} (st:St w0 (bs++l) w) (o:ReqO r cap q bs) (k:∀ w',St w0 (bs++l) w'→R ((cap:Int) - q.length) w'):C_p r w R:=by
 apply S_p
 unfold F_xb
 refine s_y st o ⟨fun h=>(by cases h),fun _=> ?_⟩
 obtain⟨b,lb,cells,first,rfl,rfl,hc,h1,h2,hf,hq,hall⟩:=o
 refine⟨rfl,false,st.cell 0 rfl rfl,?_⟩
 unfold F_q
 refine⟨fun h=>(by cases h),fun _=>⟨rfl,⟨some ⟨lb,0,none⟩,cap,cap⟩,st.cell 0 rfl rfl,rfl,_,st.cell 0 rfl rfl,fun w2 e2=> ?_⟩⟩
 show R (IntKind.i64.wrap ((cap:Int) - (q.length:Int))) w2
 rw [i64_in _ O_ O_]
 exact k _ (st.keep e2)
theorem s_Db {x:Rq} {R:Bool→WP} (st:St w0 (bs++l) w) (o:ReqO r cap q bs) (hlt:q.length<cap)
    (k1:∀ bs' w',ReqO r cap (q++[x]) bs'→St w0 (bs'++l) w'→R true w'):C_R r x w R:=by
 apply S_t
 unfold F_Ib
 intro b_ w1 hb hw
 have st:St w0 (bs++((b_,reqV x)::l)) w1:=(st.alloc hb hw).mid
 refine s_z st o fun w1 st=>⟨fun h=> ?_,fun h=> ?_⟩
 ·have:(cap:Int) - q.length=0:=by simpa using h
  omega
 intro w2 e2
 have st:=st.drew e2
 obtain⟨b,lb,cells,first,rfl,rfl,hc,h1,h2,hf,hq,hall⟩:=o
 have hidx:Int.tmod (IntKind.i64.wrap ((first:Int)+(q.length:Int))) (cap:Int)=(((first+q.length) % cap:Nat):Int):=by
  rw [i64_in _ O_ O_]
  exact z5f (first+q.length) cap
 have hm:=Nat.mod_lt (first+q.length) (show cap>0 by omega)
 obtain⟨J,hJ⟩:∃ J,(first+q.length) % cap=J:=⟨_,rfl⟩
 rw [hJ] at hidx hm
 refine⟨rfl,⟨some ⟨lb,0,none⟩,cap,cap⟩,st.cell 0 rfl rfl,rfl,_,st.cell 0 rfl rfl,rfl,_,st.cell 0 rfl rfl,rfl,⟨some ⟨lb,0,none⟩,cap,cap⟩,st.cell 0 rfl rfl,by show((cap:Nat):Int)≠0; omega,x,(st.get 2 rfl).all,rfl,?_⟩
 simp only [hidx]
 refine⟨O_,Int.ofNat_lt.2 hm,st.writable 1 rfl (by rw [zl z5c,hc]; show 0+(J:Int).toNat*9+9≤_; rw [Int.toNat_natCast]; omega),fun w3 hw3=> ?_⟩
 have st:=st.put1 hw3
 have e1:poff (some ⟨lb,0,none⟩:OA)+(J:Int).toNat*9=J*9:=by show 0+_=_; rw [Nat.zero_add,Int.toNat_natCast]
 rw [e1] at st
 have e9:putL (J*9) [Value.int .u8 x.Kind,Vi x.From,Vi x.Number,Value.string x.Write.Key,Value.string x.Write.Val,Vo x.Write.Drop,Value.string x.Key,Value.string x.End,Vs x.Beyond] (cells.flatMap reqV)=(cells.set J x).flatMap reqV:=z0i z5c x O_
 rw [e9] at st
 refine⟨rfl,_,st.cell 0 rfl rfl,st.writable 0 rfl (by simp [poff]),fun w4 hw4=> ?_⟩
 have st:=st.put0 hw4
 have e2:IntKind.i64.wrap ((q.length:Int)+1)=((q++[x]).length:Int):=by rw [i64_in _ O_ O_]; simp
 rw [e2] at st
 have st:St w0 ([(b,[Value.slice (some ⟨lb,0,none⟩) cap cap,Vi (first:Int),Vi ((q++[x]).length:Int),Vo false]),(lb,(cells.set J x).flatMap reqV)]++([(b_,reqV x)]++l)) w4:=st
 refine k1 _ _ ⟨b,lb,cells.set J x,first,rfl,rfl,by simpa using hc,h1,h2,hf,by simp; omega,fun i hi=> ?_⟩ st.skip2
 simp only [List.length_append,List.length_cons,List.length_nil,Nat.zero_add] at hi
 by_cases hil:i<q.length
 ·rw [List.getElem?_append_left hil,←hall i hil,List.getElem?_set_ne]
  have e1:=zHd (a:=first+i) (c:=cap) O_
  have e2:=zHd (a:=first+q.length) (c:=cap) O_
  rw [hJ] at e2
  show J≠(first+i) % cap
  obtain⟨I,hI⟩:∃ I,(first+i) % cap=I:=⟨_,rfl⟩
  rw [hI] at e1 ⊢
  split at e1 <;> split at e2 <;> omega
 ·obtain rfl:i=q.length:=O_
  rw [List.getElem?_append_right (Nat.le_refl _),Nat.sub_self]
  show(cells.set J x)[(first+q.length) % cap]? =some x
  rw [hJ,List.getElem?_set_self O_]
theorem s_xb {x:Rq} {R:Rq→Bool→WP} (st:St w0 (bs++l) w) (o:ReqO r cap (x::q) bs)
    (k1:∀ bs' w',ReqO r cap q bs'→St w0 (bs'++l) w'→R x true w'):C_Q r w R:=by
 apply S_r
 unfold F_Ab
 intro b1 w1 hb1 hw1
 have st:St w0 (bs++((b1,reqV zeroReq)::l)) w1:=(st.alloc (cs:=reqV zeroReq) hb1 hw1).mid
 apply S_m
 unfold F_qb
 intro b2 w2 hb2 hw2
 have st:St w0 (bs++((b2,reqV zeroReq)::(b1,reqV zeroReq)::l)) w2:=(st.alloc (cs:=reqV zeroReq) hb2 hw2).mid
 refine s_M st o ⟨fun h=> ?_,fun h=>fun w3 e3=> ?_⟩
 ·have:(((x::q).length:Nat):Int)=0:=by simpa using h
  rw [List.length_cons] at this
  omega
 have st:=st.drew e3
 obtain⟨b,lb,cells,first,rfl,rfl,hc,h1,h2,hf,hq,hall⟩:=o
 rw [List.length_cons] at hq hall
 have hx:=hall 0 O_
 rw [Nat.add_zero,Nat.mod_eq_of_lt hf] at hx
 have hx:cells[first]? =some x:=hx
 have src:zr w3 ⟨some ⟨lb,0,none⟩,cap,cap⟩ 9 (cells.flatMap reqV):=⟨by rw [zl z5c,hc],.inr ⟨rfl,(st.get 1 rfl).all⟩⟩
 obtain⟨_,y,hy,hcell⟩:=src.getN z5c O_ (i:=(first:Int)) O_ (by show(first:Int)<(cap:Int); omega)
 rw [Int.toNat_natCast,hx] at hy
 obtain rfl:=Option.some.inj hy
 refine⟨rfl,⟨some ⟨lb,0,none⟩,cap,cap⟩,st.cell 0 rfl rfl,rfl,_,st.cell 0 rfl rfl,rfl,O_,by show(first:Int)<(cap:Int); omega,x,hcell,st.writable 2 rfl (by show 0+9≤9; omega),fun w4 hw4=> ?_⟩
 have st:St w0 ([(b,_),(lb,cells.flatMap reqV),(b2,reqV x),(b1,reqV zeroReq)]++l) w4:=st.put 2 rfl hw4
 refine⟨x,(st.get 2 rfl).all,st.writable 3 rfl (by show 0+9≤9; omega),fun w5 hw5=> ?_⟩
 have st:St w0 ([(b,_),(lb,cells.flatMap reqV),(b2,reqV x),(b1,reqV x)]++l) w5:=st.put 3 rfl hw5
 refine⟨fun _=>fun b3 w6 hb3 hw6 w7 e7=> ?_,fun h=>(by cases h)⟩
 have st:St w0 ([(b3,reqV zeroReq),(b,_),(lb,cells.flatMap reqV),(b2,reqV x),(b1,reqV x)]++l) w7:=(st.alloc (cs:=reqV zeroReq) hb3 hw6).drew e7
 refine⟨rfl,⟨some ⟨lb,0,none⟩,cap,cap⟩,st.cell 1 rfl rfl,rfl,_,st.cell 1 rfl rfl,zeroReq,(st.get 0 rfl).all,rfl,O_,by show(first:Int)<(cap:Int); omega,st.writable 2 rfl (by rw [zl z5c,hc]; show 0+(first:Int).toNat*9+9≤_; rw [Int.toNat_natCast]; omega),fun w8 hw8 w9 e9=> ?_⟩
 have st:=(st.put 2 rfl hw8).drew e9
 have e1:poff (some ⟨lb,0,none⟩:OA)+(first:Int).toNat*9=first*9:=by show 0+_=_; rw [Nat.zero_add,Int.toNat_natCast]
 rw [e1] at st
 have e9:putL (first*9) (reqV zeroReq) (cells.flatMap reqV)=(cells.set first zeroReq).flatMap reqV:=z0i z5c zeroReq O_
 have st:St w0 ([(b3,reqV zeroReq),(b,[Value.slice (some ⟨lb,0,none⟩) cap cap,Vi (first:Int),Vi ((x::q).length:Int),Vo false]),(lb,(cells.set first zeroReq).flatMap reqV),(b2,reqV x),(b1,reqV x)]++l) w9:=by rw [←e9]; exact st
 have hidx:Int.tmod (IntKind.i64.wrap ((first:Int)+1)) (cap:Int)=(((first+1) % cap:Nat):Int):=by
  rw [i64_in _ O_ O_]
  exact z5f (first+1) cap
 refine⟨rfl,_,st.cell 1 rfl rfl,rfl,⟨some ⟨lb,0,none⟩,cap,cap⟩,st.cell 1 rfl rfl,by show((cap:Nat):Int)≠0; omega,rfl,st.writable 1 rfl (by show 0+1+1≤4; omega),fun w10 hw10=> ?_⟩
 have st:=st.put 1 rfl hw10
 rw [hidx] at st
 have st:St w0 ([(b3,reqV zeroReq),(b,[Value.slice (some ⟨lb,0,none⟩) cap cap,Vi (((first+1) % cap:Nat):Int),Vi ((x::q).length:Int),Vo false]),(lb,(cells.set first zeroReq).flatMap reqV),(b2,reqV x),(b1,reqV x)]++l) w10:=st
 refine⟨rfl,_,st.cell 1 rfl rfl,st.writable 1 rfl (by show 0+2+1≤4; omega),fun w11 hw11=> ?_⟩
 have st:=st.put 1 rfl hw11
 have e2:IntKind.i64.wrap ((((x::q).length:Nat):Int) - 1)=(q.length:Int):=by rw [List.length_cons,i64_in _ O_ O_]; omega
 rw [e2] at st
 have st:St w0 ([(b3,reqV zeroReq),(b,[Value.slice (some ⟨lb,0,none⟩) cap cap,Vi (((first+1) % cap:Nat):Int),Vi (q.length:Int),Vo false]),(lb,(cells.set first zeroReq).flatMap reqV),(b2,reqV x),(b1,reqV x)]++l) w11:=st
 unfold F_s
 refine⟨x,(st.get 4 rfl).all,st.writable 4 rfl (by show 0+9≤9; omega),fun w12 hw12=> ?_⟩
 have st:St w0 ([(b3,reqV zeroReq)]++([(b,[Value.slice (some ⟨lb,0,none⟩) cap cap,Vi (((first+1) % cap:Nat):Int),Vi (q.length:Int),Vo false]),(lb,(cells.set first zeroReq).flatMap reqV)]++([(b2,reqV x),(b1,reqV x)]++l))) w12:=st.put 4 rfl hw12
 have st':=st.drop.drop
 refine⟨x,(st'.get 1 rfl).all,?_⟩
 have hmlt:=Nat.mod_lt (first+1) (show cap>0 by omega)
 refine k1 _ _ ⟨b,lb,cells.set first zeroReq,(first+1) % cap,rfl,rfl,by simpa using hc,h1,h2,hmlt,O_,fun i hi=> ?_⟩ st.drop.skip2
 have hx:=hall (i+1) O_
 rw [List.getElem?_cons_succ] at hx
 rw [←hx]
 have e1:=zHd (a:=first+1) (c:=cap) O_
 have e2:=zHd (a:=(first+1) % cap+i) (c:=cap) O_
 have e3:=zHd (a:=first+(i+1)) (c:=cap) O_
 have e4:((first+1) % cap+i) % cap=(first+(i+1)) % cap:=by
  split at e1 <;> split at e2 <;> split at e3 <;> omega
 rw [e4,List.getElem?_set_ne]
 split at e3 <;> omega
theorem s_Eb {c:Nat} {R:OA→Int→WP} (st:St w0 l w) (h1:1≤c) (h2:c≤65536)
    (k1:∀ r' bs' w',ReqO r' c [] bs'→St w0 (bs'++l) w'→R r' 0 w'):C_eb (c:Int) w R:=by
 apply S_3
 unfold F_Ac
 refine⟨fun h=>(by simp only [Bool.or_eq_true,decide_eq_true_eq] at h; omega),fun h=> ?_⟩
 refine⟨O_,O_,O_,fun b w1 hb hw b1 w2 hb1 hw1=> ?_⟩
 rw [Int.toNat_natCast] at hw hw1
 have e:(zu c [Value.int .u8 0,Vi 0,Vi 0,Value.string ByteArray.empty,Value.string ByteArray.empty,Vo false,Value.string ByteArray.empty,Value.string ByteArray.empty,Value.slice none 0 0])=((List.replicate c zeroReq).flatMap reqV).toArray:=by
  have key:∀ n:Nat,(List.replicate n (reqV zeroReq)).flatten=(List.replicate n zeroReq).flatMap reqV:=fun n=>by
   induction n with
   | zero=>rfl
   | succ n ih=>rw [List.replicate_succ,List.flatten_cons,ih,List.replicate_succ,List.flatMap_cons]
  unfold zu
  exact congrArg List.toArray (key c)
 rw [e] at hw
 have st:=(st.alloc hb hw).alloc hb1 hw1
 exact k1 _ _ _ ⟨b1,b,_,0,rfl,rfl,by simp,O_,O_,O_,by simp,fun i hi=>by simp at hi⟩ st
end
def z6b (o_:OA) (M:SM) (cap:Nat) (q:List Rq) (sm:List (Nat×Obj)) (bs:List zg):Prop :=
 ∃ b sp rp sbs rbs,o_=some ⟨b,0,none⟩∧bs=(b,[Vp sp,Vp rp])::(sbs++rbs)∧zde sp M sm sbs∧ReqO rp cap q rbs
section
variable {W:World} {m0 sm:List (Nat×Obj)} {w:World} {fr bs:List zg} {o_:OA} {M:SM} {cap:Nat} {q:List Rq}
theorem s_2 {i c:Nat} {p:OA} {pc:Nat} {R:OA→Int→WP} (st:St ⟨W,m0⟩ fr w) (hi:i<16) (h1:1≤c) (h2:c≤16)
    (k:∀ o_ sm bs w',z6b o_ (fun _=>[]) c [] sm bs→St ⟨W,sm++m0⟩ (bs++fr) w'→R o_ 0 w'):C_5b (i:Int) (c:Int) ⟨p,0,pc⟩ w R:=by
 apply S_0b
 unfold F_Dd
 refine⟨fun h=>(by simp only [Bool.or_eq_true,decide_eq_true_eq] at h; omega),fun _=>s_n st fun s sm sbs w1 so st=>⟨fun h=>(by cases h),fun _=>s_Eb st h1 O_ fun r rbs w2 ro st=>⟨fun h=>(by cases h),fun _=>fun b w3 hb hw=> ?_⟩⟩⟩
 have st:=st.alloc hb hw
 exact k _ sm _ w3 ⟨b,s,r,sbs,rbs,rfl,rfl,so,ro⟩ (st.pq)
theorem s_d {R:Bool→WP} (o:z6b o_ M cap q sm bs) (st:St ⟨W,sm++m0⟩ (bs++fr) w) (k:R true w):C_i o_ w R:=by
 apply S_X
 unfold F_nc
 obtain⟨b,sp,rp,sbs,rbs,rfl,rfl,⟨b1,m,es,c,vb,rfl,_⟩,ro⟩:=o
 exact⟨fun _=>⟨rfl,_,st.cell 0 rfl rfl,k⟩,fun h=>(by cases h)⟩
theorem s_R {R:Int→WP} (o:z6b o_ M cap q sm bs) (st:St ⟨W,sm++m0⟩ (bs++fr) w) (k:∀ w',St ⟨W,sm++m0⟩ (bs++fr) w'→R ((cap:Int) - q.length) w'):C_gb o_ w R:=by
 apply S_4
 unfold F_Dc
 refine s_d o st ⟨fun h=>(by cases h),fun _=> ?_⟩
 obtain⟨b,sp,rp,sbs,rbs,rfl,rfl,so,ro⟩:=o
 have st':St ⟨W,sm++m0⟩ (rbs++((b,[Vp sp,Vp rp])::(sbs++fr))) w:=st.pq
 exact⟨rfl,rp,st.cell 0 rfl rfl,s_z st' ro fun w1 st=>k w1 (st.pq)⟩
theorem s_3 {R:Int→WP} (o:z6b o_ M cap q sm bs) (st:St ⟨W,sm++m0⟩ (bs++fr) w) (k:R (q.length:Int) w):C_mb o_ w R:=by
 apply S_ib
 unfold F_Nc
 refine s_d o st ⟨fun h=>(by cases h),fun _=> ?_⟩
 obtain⟨b,sp,rp,sbs,rbs,rfl,rfl,so,ro⟩:=o
 have st':St ⟨W,sm++m0⟩ (rbs++((b,[Vp sp,Vp rp])::(sbs++fr))) w:=st.pq
 exact⟨rfl,rp,st.cell 0 rfl rfl,s_M st' ro k⟩
theorem zId:(ByteArray.empty.toList==ByteArray.empty.toList)=true:=by rw [zhc]; rfl
theorem s_4 {w0:Base} {num n:Int} {x:Wr} {R:Bool→WP} (st:St w0 fr w) (h1:1≤num) (h2:1≤n∧n≤65536) (hx:zPc x) (k:∀ w',St w0 fr w'→R true w'):C_8b (z0 num n x) w R:=by
 apply S_1b
 unfold F_Gd
 intro b w1 hb hw
 have st:St w0 ((b,reqV (z0 num n x))::fr) w1:=st.alloc (cs:=reqV (z0 num n x)) hb hw
 obtain⟨x1,x2,x3,x4⟩:=hx
 refine⟨n,st.cell 0 rfl rfl,fun _=>⟨n,st.cell 0 rfl rfl,?_⟩,fun h=>(by have:=of_decide_eq_false h; omega)⟩
 unfold F_2b
 refine⟨ByteArray.empty,st.cell 0 rfl rfl,fun h=>(by rw [zId] at h; cases h),fun _=>⟨ByteArray.empty,st.cell 0 rfl rfl,fun _=>⟨ByteArray.empty,st.cell 0 rfl rfl,fun w2 e2=> ?_⟩,fun h=>(by rw [zId] at h; cases h)⟩⟩
 have st:=st.keep e2
 rw [zId,decide_eq_true (show n≤65536 by omega)]
 unfold F_hb
 have hnum:(num != 0)=true:=by simp; omega
 have go:∀ rd:Bool,F_sb R b true false true rd w2:=fun rd=>by
  unfold F_sb
  refine⟨1,st.cell 0 rfl rfl,fun _=>⟨⟨none,0,0⟩,st.cell 0 rfl rfl,?_⟩,fun h=>(by cases h)⟩
  unfold F_1b
  refine⟨fun h=>(by cases h),fun _=>⟨x,⟨st.cell 0 rfl rfl,st.cell 0 rfl rfl,st.cell 0 rfl rfl,trivial⟩,fun b1 w3 hb1 hw3=> ?_⟩⟩
  have st:=st.alloc hb1 hw3
  refine⟨st.writable 0 rfl (by simp),fun w4 hw4=> ?_⟩
  have st:St w0 ((b1,wV x)::(b,reqV (z0 num n x))::fr) w4:=st.put0 hw4
  refine⟨1,st.cell 1 rfl rfl,fun _=>⟨num,st.cell 1 rfl rfl,fun _=>⟨n,st.cell 1 rfl rfl,fun _=>⟨x.Key,st.cell 0 rfl rfl,fun _=>⟨x.Key,st.cell 0 rfl rfl,fun _=>⟨x.Val,st.cell 0 rfl rfl,fun _=>⟨x.Drop,st.cell 0 rfl rfl,fun _=>k w4 st.drop1.drop1,fun hd=>⟨x.Val,st.cell 0 rfl rfl,?_⟩⟩,fun h=> ?_⟩,fun h=> ?_⟩,fun h=> ?_⟩,fun h=> ?_⟩,fun h=> ?_⟩,fun h=>(by cases h)⟩
  ·have hd:x.Drop=true:=by simpa using hd
   rw [zhc,decide_eq_true (x4 hd)]
   exact k w4 st.drop1.drop1
  ·have:=of_decide_eq_false h; omega
  ·have:=of_decide_eq_false h; omega
  ·rw [zhc,decide_eq_false O_] at h; cases h
  ·rw [decide_eq_true (show n>0 by omega)] at h; cases h
  ·rw [decide_eq_true (show num>0 by omega)] at h; cases h
 refine⟨num,st.cell 0 rfl rfl,fun _=>⟨x,⟨st.cell 0 rfl rfl,st.cell 0 rfl rfl,st.cell 0 rfl rfl,trivial⟩,go _⟩,fun h=>(by rw [hnum] at h; cases h)⟩
theorem s_5 {num n:Int} {x:Wr} {R:Bool→Int→WP} (o:z6b o_ M cap q sm bs) (st:St ⟨W,sm++m0⟩ (bs++fr) w) (h1:1≤num) (h2:1≤n∧n≤65536) (hx:zPc x) (hq:q.length<cap)
    (k:∀ bs' w',z6b o_ M cap (q++[z0 num n x]) sm bs'→St ⟨W,sm++m0⟩ (bs'++fr) w'→R true 0 w'):C_lb o_ (z0 num n x) w R:=by
 apply S_hb
 unfold F_Mc
 intro b_ w1 hb hw
 have st:St ⟨W,sm++m0⟩ (bs++((b_,reqV (z0 num n x))::fr)) w1:=(st.alloc (cs:=reqV (z0 num n x)) hb hw).mid
 refine s_d o st ⟨fun h=>(by cases h),fun _=> ?_⟩
 obtain⟨b,sp,rp,sbs,rbs,rfl,rfl,so,ro⟩:=o
 have st:St ⟨W,sm++m0⟩ ((b_,reqV (z0 num n x))::(b,[Vp sp,Vp rp])::(rbs++(sbs++fr))) w1:=st.pq
 refine⟨z0 num n x,(st.get 0 rfl).all,s_4 st h1 h2 hx fun w2 st=>⟨fun h=>(by cases h),fun _=>⟨⟨none,0,0⟩,st.cell 0 rfl rfl,?_⟩⟩⟩
 apply S_y
 unfold F_Vb
 refine⟨fun _=>⟨st.writable 0 rfl (by show 0+8+1≤9; omega),fun w3 hw3 w4 e4=> ?_⟩,fun h=>(by cases h)⟩
 have st:St ⟨W,sm++m0⟩ ((b_,reqV (z0 num n x))::(b,[Vp sp,Vp rp])::(rbs++(sbs++fr))) w4:=(st.put0 hw3).drew e4
 refine⟨rfl,rp,st.cell 1 rfl rfl,z0 num n x,(st.get 0 rfl).all,?_⟩
 have st:St ⟨W,sm++m0⟩ (rbs++((b_,reqV (z0 num n x))::(b,[Vp sp,Vp rp])::(sbs++fr))) w4:=st.pq
 refine s_Db st ro hq fun rbs' w5 ro' st=>k ((b,[Vp sp,Vp rp])::(sbs++rbs')) w5 ⟨b,sp,rp,sbs,rbs',rfl,rfl,so,ro'⟩ (st.wq [(b_,reqV (z0 num n x))])
def zub (r:T_h):List Value:=[Vi r.To,Vo r.OK,Vs r.Entries,Vs r.Held,Vi r.Count]
def zDb (to:Int):T_h:=⟨to,true,⟨none,0,0⟩,⟨none,0,0⟩,0⟩
theorem s_H {num n:Int} {x:Wr} {R:T_h→Int→WP} (o:z6b o_ M cap (z0 num n x::q) sm bs) (st:St ⟨W,sm++m0⟩ (bs++fr) w) (hk:mayK x.Key) (hx:mayV ⟨n,x.Val,x.Drop⟩=true) (hc:okC 0 (M x.Key)=true) (hl:(M x.Key).length≤1099511627776) (hn:∀ y∈M x.Key,y.Number≠n)
    (k:∀ sm' bs' w',z6b o_ (M.put x.Key ⟨n,x.Val,x.Drop⟩) cap q sm' bs'→St ⟨W,sm'++m0⟩ (bs'++fr) w'→R (zDb num) 0 w'):C_bb o_ w R:=by
 apply S_Y
 unfold F_sc
 intro b_ w1 hb hw
 have st:St ⟨W,sm++m0⟩ (bs++((b_,zub ⟨0,false,⟨none,0,0⟩,⟨none,0,0⟩,0⟩)::fr)) w1:=(st.alloc (cs:=zub ⟨0,false,⟨none,0,0⟩,⟨none,0,0⟩,0⟩) hb hw).mid
 refine s_d o st ⟨fun h=>(by cases h),fun _=> ?_⟩
 obtain⟨b,sp,rp,sbs,rbs,rfl,rfl,so,ro⟩:=o
 refine⟨rfl,rp,st.cell 0 rfl rfl,?_⟩
 have st:St ⟨W,sm++m0⟩ (rbs++((b,[Vp sp,Vp rp])::(b_,zub ⟨0,false,⟨none,0,0⟩,⟨none,0,0⟩,0⟩)::(sbs++fr))) w1:=st.pq
 refine s_xb st ro fun rbs' w2 ro' st b1 w3 hb1 hw3=> ?_
 have st:St ⟨W,sm++m0⟩ ((b1,reqV zeroReq)::(b,[Vp sp,Vp rp])::(b_,zub ⟨0,false,⟨none,0,0⟩,⟨none,0,0⟩,0⟩)::(rbs'++(sbs++fr))) w3:=(st.alloc (cs:=reqV zeroReq) hb1 hw3).pq
 refine⟨st.writable 0 rfl (by show 0+9≤9; omega),fun w4 hw4=>⟨fun h=>(by cases h),fun _=> ?_⟩⟩
 have st:St ⟨W,sm++m0⟩ ((b1,reqV (z0 num n x))::(b,[Vp sp,Vp rp])::(b_,zub ⟨0,false,⟨none,0,0⟩,⟨none,0,0⟩,0⟩)::(rbs'++(sbs++fr))) w4:=st.put0 hw4
 refine⟨num,st.cell 0 rfl rfl,fun b2 w5 hb2 hw5=> ?_⟩
 have st:=st.alloc (cs:=zub ⟨0,false,⟨none,0,0⟩,⟨none,0,0⟩,0⟩) hb2 hw5
 refine⟨st.writable 0 rfl (by show 0+5≤5; omega),fun w6 hw6 w7 e7=> ?_⟩
 have st:St ⟨W,sm++m0⟩ ((b2,zub (zDb num))::(b1,reqV (z0 num n x))::(b,[Vp sp,Vp rp])::(b_,zub ⟨0,false,⟨none,0,0⟩,⟨none,0,0⟩,0⟩)::(rbs'++(sbs++fr))) w7:=(st.put0 hw6).drew e7
 refine⟨1,st.cell 1 rfl rfl,z0 num n x,(st.get 1 rfl).all,?_⟩
 apply S_O
 unfold F_jc
 intro b3 w8 hb3 hw8 b4 w9 hb4 hw9
 have st:=(st.alloc hb3 hw8).alloc hb4 hw9
 refine⟨st.writable 0 rfl (by show 0+6≤6; omega),fun w10 hw10=> ?_⟩
 have st:=st.put0 hw10
 refine⟨⟨_,_,_,_,_,_⟩,(st.get 0 rfl).all,(st.get 3 rfl).all,st.cell 3 rfl rfl,O_,O_,?_⟩
 have st:St ⟨W,sm++m0⟩ (sbs++((b3,[Vp (some ⟨b,0,none⟩)])::(b2,zub (zDb num))::(b,[Vp sp,Vp rp])::(b_,zub ⟨0,false,⟨none,0,0⟩,⟨none,0,0⟩,0⟩)::(rbs'++fr))) w10:=st.drop1.wq [(b1,reqV (z0 num n x))]
 refine zbb.mk (all:=#[Value.agg (reqV (z0 num n x)).toArray,Vp (some ⟨b2,0,none⟩),Vp (some ⟨b3,0,none⟩)]) K_ rfl ?_
 have key:C_qb (z0 num n x) (some ⟨b2,0,none⟩) (some ⟨b3,0,none⟩) w10 (fun w'=>∃ sm' sbs',zde sp (M.put x.Key ⟨n,x.Val,x.Drop⟩) sm' sbs'∧St ⟨W,sm'++m0⟩ (sbs'++((b2,zub (zDb num))::(b,[Vp sp,Vp rp])::(b_,zub ⟨0,false,⟨none,0,0⟩,⟨none,0,0⟩,0⟩)::(rbs'++fr))) w'):=by
  apply S_z
  unfold F_Wb
  intro b5 w11 hb5 hw11 w12 e12
  have st:St ⟨W,sm++m0⟩ ((b5,reqV (z0 num n x))::_) w12:=(st.alloc (cs:=reqV (z0 num n x)) hb5 hw11).drew e12
  have st:St ⟨W,sm++m0⟩ ((b5,reqV (z0 num n x))::(b3,[Vp (some ⟨b,0,none⟩)])::(b2,zub (zDb num))::(b,[Vp sp,Vp rp])::(b_,zub ⟨0,false,⟨none,0,0⟩,⟨none,0,0⟩,0⟩)::(rbs'++(sbs++fr))) w12:=st.pq
  refine⟨rfl,_,st.cell 1 rfl rfl,rfl,sp,st.cell 3 rfl rfl,n,st.cell 0 rfl rfl,x,⟨st.cell 0 rfl rfl,st.cell 0 rfl rfl,st.cell 0 rfl rfl,trivial⟩,?_⟩
  have st:St ⟨W,sm++m0⟩ (sbs++((b5,reqV (z0 num n x))::(b3,[Vp (some ⟨b,0,none⟩)])::(b2,zub (zDb num))::(b,[Vp sp,Vp rp])::(b_,zub ⟨0,false,⟨none,0,0⟩,⟨none,0,0⟩,0⟩)::(rbs'++fr))) w12:=st.pq
  refine s_v so st hk hx hc hl hn fun sm' sbs' w13 so' st=> ?_
  have st:St ⟨W,sm'++m0⟩ ((b2,zub (zDb num))::(sbs'++((b5,reqV (z0 num n x))::(b3,[Vp (some ⟨b,0,none⟩)])::(b,[Vp sp,Vp rp])::(b_,zub ⟨0,false,⟨none,0,0⟩,⟨none,0,0⟩,0⟩)::(rbs'++fr)))) w13:=st.pq
  refine⟨rfl,st.writable 0 rfl (by show 0+1+1≤5; omega),fun w14 hw14=> ?_⟩
  have st:St ⟨W,sm'++m0⟩ ((b2,zub (zDb num))::(sbs'++((b5,reqV (z0 num n x))::(b3,[Vp (some ⟨b,0,none⟩)])::(b,[Vp sp,Vp rp])::(b_,zub ⟨0,false,⟨none,0,0⟩,⟨none,0,0⟩,0⟩)::(rbs'++fr)))) w14:=st.put0 hw14
  exact⟨sm',sbs',so',st.weak [(b5,reqV (z0 num n x)),(b3,[Vp (some ⟨b,0,none⟩)])] (za fun f_=>by simp <;> omega)⟩
 refine Calls.mono key ?_
 rintro e' w11 ⟨rfl,sm',sbs',so',st⟩
 have st:St ⟨W,sm'++m0⟩ ((b2,zub (zDb num))::(b_,zub ⟨0,false,⟨none,0,0⟩,⟨none,0,0⟩,0⟩)::(b,[Vp sp,Vp rp])::(sbs'++(rbs'++fr))) w11:=st.pq
 refine⟨(),rfl,zDb num,(st.get 0 rfl).all,st.writable 1 rfl (by show 0+5≤5; omega),fun w12 hw12=> ?_⟩
 have st:St ⟨W,sm'++m0⟩ ((b2,zub (zDb num))::(b_,zub (zDb num))::(b,[Vp sp,Vp rp])::(sbs'++(rbs'++fr))) w12:=st.put 1 rfl hw12
 exact⟨zDb num,(st.get 1 rfl).all,k sm' ((b,[Vp sp,Vp rp])::(sbs'++rbs')) w12 ⟨b,sp,rp,sbs',rbs',rfl,rfl,so',ro'⟩ (st.wq [(b2,zub (zDb num)),(b_,zub (zDb num))])⟩
end
/-! ### Lists of lists of chunks -/
def fl {α:Type} (L:List (List α)):List α:=L.flatten
section
variable {α:Type} {L:List (List α)} {i:Nat} {x y:List α}
theorem zR (f:α→Nat) (h:L[i]? =some x):((fl L).map f).sum=(x.map f).sum+((fl (L.eraseIdx i)).map f).sum:=by
 unfold fl
 induction L generalizing i with
 | nil=>simp at h
 | cons z L ih =>
  cases i with
  | zero =>
   have:z=x:=by simpa using h
   subst this
   simp
  | succ i =>
   have:=ih (i:=i) (by simpa using h)
   rw [List.eraseIdx_cons_succ,List.flatten_cons,List.flatten_cons,List.map_append,List.sum_append_nat,this,List.map_append,List.sum_append_nat]
   omega
theorem zJe (f:α→Nat) (h:L[i]? =some x):((fl (L.set i y)).map f).sum=(y.map f).sum+((fl (L.eraseIdx i)).map f).sum:=by
 have h1:(L.set i y)[i]? =some y:=List.getElem?_set_self (List.getElem?_eq_some_iff.1 h).1
 rw [zR f h1]
 congr 4
 have:∀(L:List (List α)) (i:Nat),(L.set i y).eraseIdx i=L.eraseIdx i:=fun L=>by
  induction L with
  | nil=>intro i; rfl
  | cons z L ih =>
   intro i
   cases i with
   | zero=>rfl
   | succ i=>rw [List.set_cons_succ,List.eraseIdx_cons_succ,List.eraseIdx_cons_succ,ih]
 exact this L i
end
theorem zr.at1 {w:World} {s:Slc} {src:List Value} {i:Nat} {v:Value} (h:zr w s 1 src) (hv:src[i]? =some v):IsAt s.ptr∧i<s.len∧w.cell? ⟨pblk s.ptr,poff s.ptr+i,none⟩=some v:=by
 have hl:=(List.getElem?_eq_some_iff.1 hv).1
 obtain⟨h1,h2 | ⟨a,c⟩⟩:=h
 ·rw [h2] at hl; simp at hl
 ·exact⟨a,O_,zz.1 c i v hv⟩
/-! ### What stays -/
def InW (PB:List zg) (s:Slc) (ws:List Wr):Prop:=∃ rb,RowC 3 s (ws.flatMap wV) rb∧∀ c∈rb,c∈PB
theorem InW.mono {PB PB':List zg} {s:Slc} {ws:List Wr} (h:InW PB s ws) (hm:∀ c∈PB,c∈PB'):InW PB' s ws:=by
 obtain⟨rb,a,b⟩:=h
 exact⟨rb,a,fun c hc=>hm c (b c hc)⟩
theorem InW.src {PB L:List zg} {s:Slc} {ws:List Wr} {w0:Base} {w:World} (h:InW PB s ws) (hm:∀ c∈PB,c∈L) (st:St w0 L w):zr w s 3 (ws.flatMap wV):=by
 obtain⟨rb,a,b⟩:=h
 exact a.srcM (fun c hc=>hm c (b c hc)) st
theorem InW.len {PB:List zg} {s:Slc} {ws:List Wr} (h:InW PB s ws):s.len=ws.length:=by
 obtain⟨rb,a,_⟩:=h
 have:=a.len
 rw [zl zfe] at this
 omega
theorem InW.cap {PB:List zg} {s:Slc} {ws:List Wr} (h:InW PB s ws):s.len≤s.cap:=by
 obtain⟨rb,a,_⟩:=h
 exact a.cap_le
abbrev pP (p:OA):Value:=Vp p
abbrev aP (b:Nat):Value:=Vp (some ⟨b,0,none⟩)
structure RS where
 rb:Nat
 cfg:Cfg
 disk:Addr
 f:OA
 sp:OA
 dp:OA
 gt:OA
 lp:List (OA)
 op:List (OA)
 tv:List Value
 lsl:Slc
 osl:Slc
 tsl:Slc
 wm:Nat
 fv:Base
 fx:List zg
structure RSok (σ:RS):Prop where
 lrow:∃ b,RowC 1 σ.lsl (σ.lp.map pP) b∧∀ c∈b,c∈σ.fx
 orow:∃ b,RowC 1 σ.osl (σ.op.map pP) b∧∀ c∈b,c∈σ.fx
 trow:∃ b,RowC 1 σ.tsl σ.tv b∧∀ c∈b,c∈σ.fx
 tl:σ.tv.length=σ.lp.length+σ.op.length+2
 td:∃ b,σ.tv[0]? =some (Value.iface 130 (aP b))∧(b,[aP σ.rb])∈σ.fx
 tw:∀(i:Nat) p,σ.lp[i]? =some p→∃ b,σ.tv[1+i]? =some (Value.iface 136 (aP b))∧(b,[aP σ.rb,pP p])∈σ.fx
 tk:∀(i:Nat) p,σ.op[i]? =some p→∃ b,σ.tv[1+σ.lp.length+i]? =some (Value.iface 141 (aP b))∧(b,[aP σ.rb,pP p,Vi (i:Int)])∈σ.fx
 tg:∃ b,σ.tv[1+σ.lp.length+σ.op.length]? =some (Value.iface 144 (aP b))∧(b,[aP σ.rb])∈σ.fx
 cfg:z8 σ.cfg=0
 ln:(σ.lp.length:Int)=σ.cfg.Lanes
 on:(σ.op.length:Int)=σ.cfg.Shards
/-! ### What turns -/
structure RD where
 fcs:List zg
 dcs:List zg
 gcs:List zg
 LB:List (List zg)
 OB:List (List zg)
 lb:List zg
 gb:List zg
 PB:List zg
 dm:List (Nat×Obj)
 we:Array MapEntry
 wc:Nat
 SB:List (List (Nat×Obj))
 line:Slc
 gone:Slc
 ll:List (Tx×Slc)
 top:Int
def repV (σ:RS) (line gone:Slc):List Value :=
 [Vi σ.cfg.Lanes,Vi σ.cfg.Shards,Vi σ.cfg.Window,Vi σ.cfg.Queue,Vp (some σ.disk),pP σ.f,pP σ.dp,pP σ.gt,Vs σ.lsl,Vs σ.osl,Vs σ.tsl,Vs ⟨none,0,0⟩,Vs line,mV σ.wm,Vs gone,Vo false,Vo false,Vo false]
def RD.cs (σ:RS) (d:RD):List zg:=(σ.rb,repV σ d.line d.gone)::(d.fcs++(d.dcs++(d.gcs++(fl d.LB++(fl d.OB++(d.lb++(d.gb++(d.PB++σ.fx))))))))
def RD.mp (σ:RS) (d:RD):List (Nat×Obj):=σ.fv.mp++(d.dm++((σ.wm,.map d.we d.wc)::fl d.SB))
def txC (p:Tx×Slc):List Value:=txW p.1.1 p.2
theorem zKe (p:Tx×Slc):(txC p).length=2:=rfl
def LRel (o:Option LJ) (h:Option LHd):Prop:=match o,h with
 | none,none=>True
 | some j,some h=>j.n=h.n∧j.left=h.ws.drop h.sent∧j.out=h.sent - h.acked∧(∀ x∈h.ws,zPc x)∧h.n≤65536∧OkH h
 | _,_=>False
def rqs (q:List (Nat×IW)):List Rq:=q.map fun z=>z0 ((z.1:Int)+1) z.2.1 z.2.2
def zJd (z:IW):Ver:=⟨z.1,z.2.Val,z.2.Drop⟩
def zKd (l:List IW):SM:=l.foldl (fun M z=>M.put z.2.Key (zJd z)) (fun _=>[])
structure RepI (σ:RS) (d:RD) (log:List Tx) (fed:Nat) (s:TS):Prop where
 ok:RSok σ
 feed:FdO σ.fv σ.sp (some ⟨log,0,s.at_,fed,σ.cfg.Window.toNat,[],s.held,false⟩) σ.f d.fcs
 deps:DepO σ.dp d.top s.opn s.W d.dm d.dcs
 top:d.top+(if s.held.isSome=true then 1 else 0)=(s.at_:Int)
 gate:ztd σ.gt s.g d.gcs
 ll:s.lanes.length=σ.lp.length
 lB:d.LB.length=σ.lp.length
 lane:∀(i:Nat) o,s.lanes[i]? =some o→∃ p bs h,σ.lp[i]? =some p∧d.LB[i]? =some bs∧LnO p (some ⟨(i:Int)+1,σ.cfg,h⟩) bs∧LRel o h
 ol:s.qs.length=σ.op.length
 il:s.inst.length=s.qs.length
 oB:d.OB.length=σ.op.length
 sB:d.SB.length=σ.op.length
 own:∀(i:Nat) q l,s.qs[i]? =some q→s.inst[i]? =some l→∃ p bs sm,σ.op[i]? =some p∧d.OB[i]? =some bs∧d.SB[i]? =some sm∧z6b p (zKd l) σ.cfg.Queue.toNat (rqs q) sm bs
 qgood:∀ q∈s.qs,∀ z∈q,zPc z.2.2∧1≤z.2.1∧z.2.1≤65536
 igood:∀ l∈s.inst,∀ z∈l,zPc z.2∧1≤z.1∧z.1≤65536
 line:RowC 2 d.line (d.ll.flatMap txC) d.lb
 lines:s.line=d.ll.map (·.1)
 lin:∀ p∈d.ll,InW d.PB p.2 p.1.2
 wok:MOk isKI d.we d.wc
 pend:∀ t∈s.pend,∃ sl,zK d.we (Vi t.1)=some (.agg #[Vi t.1,Vs sl])∧InW d.PB sl t.2
 gone:RowC 1 d.gone (s.gone.map Vi) d.gb
theorem RD.fxm {σ:RS} {d:RD} {fr:List zg} {c:zg} (h:c∈σ.fx):c∈d.cs σ++fr:=by unfold RD.cs; simp [h]
theorem RD.pbm {σ:RS} {d:RD} {fr:List zg} {c:zg} (h:c∈d.PB):c∈d.cs σ++fr:=by unfold RD.cs; simp [h]
abbrev shN (c:Cfg) (k:ByteArray):Nat:=(zvb c k).1.toNat
def canD (σ:RS) (fed:Nat) (s:TS):Int:=match s.held with
 | none=>if s.at_<fed then 1 else 0
 | some t=>if t.1 - (σ.cfg.Window.toNat:Int)≤(s.g.mark:Int) then 3 else 0
def zLh (σ:RS) (s:TS) (k:ByteArray):Bool:=match s.qs[shN σ.cfg k]? with
 | some q=>decide (q.length<σ.cfg.Queue.toNat)
 | none=>false
def canW (σ:RS) (s:TS) (i:Nat):Int:=match s.lanes[i]? with
 | some (some j)=>match j.left with
  | x::_=>if zLh σ s x.Key then 5 else 0
  | []=>if j.out=0 then 6 else 0
 | _=>if s.line.length>0 then 4 else 0
def canO (s:TS) (i:Nat):Int:=match s.qs[i]? with
 | some (_::_)=>7
 | _=>0
def canG (s:TS):Int:=if s.gone.length>0 then 8 else 0
section
variable {W:World} {m0:List (Nat×Obj)} {w:World} {fr:List zg} {σ:RS} {d:RD} {log:List Tx} {fed:Nat} {s:TS}
theorem s_q {R:Int→WP} (I:RepI σ d log fed s) (st:St ⟨W,d.mp σ++m0⟩ (d.cs σ++fr) w) (k:∀ w',Ext w w'→R (s.g.mark:Int) w'):C_m ⟨some ⟨σ.rb,0,none⟩⟩ w R:=by
 apply S_0
 unfold F_rc
 intro b w1 hb hw
 have e1:=Ext.new hw
 have st1:=st.alloc hb hw
 refine⟨_,st1.cell 0 rfl rfl,rfl,σ.gt,st1.cell 1 rfl rfl,?_⟩
 have st2:St ⟨W,d.mp σ++m0⟩ (d.gcs++((σ.rb,repV σ d.line d.gone)::(d.fcs++(d.dcs++(fl d.LB++(fl d.OB++(d.lb++(d.gb++(d.PB++(σ.fx++fr)))))))))) w1:=(st.keep e1).perm (za fun f_=>by simp [RD.cs,RD.mp] <;> omega)
 exact s_j st2 I.gate (k w1 e1)
theorem fvm {q:Nat×Obj} (h:q∈σ.fv.mp):q∈(⟨W,d.mp σ++m0⟩:Base).mp:=by
 show q∈d.mp σ++m0
 unfold RD.mp; simp [h]
theorem s_6 {b:Nat} {R:Int→WP} (I:RepI σ d log fed s) (st:St ⟨W,d.mp σ++m0⟩ (d.cs σ++fr) w) (hb:(b,[aP σ.rb])∈σ.fx) (k:∀ w',St ⟨W,d.mp σ++m0⟩ (d.cs σ++fr) w'→R (canD σ fed s) w'):C_r (some ⟨b,0,none⟩) w R:=by
 apply S_s
 unfold F_zb
 intro w1 e1
 have st:=st.drew e1
 have cb:∀ {w':World},St ⟨W,d.mp σ++m0⟩ (d.cs σ++fr) w'→w'.cell? ⟨b,0,none⟩=some (aP σ.rb):=fun st=>(st.blk _ (RD.fxm hb)).cell rfl
 refine⟨rfl,_,cb st,rfl,σ.f,st.cell 0 rfl rfl,rfl,⟨_⟩,⟨cb st,trivial⟩,s_q I st fun w2 e2=> ?_⟩
 have st:=st.keep e2
 refine⟨st.cell 0 rfl rfl,cb st,?_⟩
 have st2:St ⟨W,d.mp σ++m0⟩ (d.fcs++((σ.rb,repV σ d.line d.gone)::(d.gcs++(d.dcs++(fl d.LB++(fl d.OB++(d.lb++(d.gb++(d.PB++(σ.fx++fr)))))))))) w2:=st.perm (za fun f_=>by simp [RD.cs,RD.mp] <;> omega)
 refine s_Ob (fun q hq=>fvm hq) I.feed st2 fun w3 st=> ?_
 have e:canM (some ⟨log,0,s.at_,fed,σ.cfg.Window.toNat,[],s.held,false⟩) (s.g.mark:Int)=canD σ fed s:=by
  unfold canM canD zYf
  cases s.held with
  | none=>rfl
  | some t=>simp
 rw [e]
 exact k w3 (st.perm (za fun f_=>by simp [RD.cs,RD.mp] <;> omega))
theorem s_7 {i:Nat} {q:List (Nat×IW)} {R:Bool→WP} (I:RepI σ d log fed s) (st:St ⟨W,d.mp σ++m0⟩ (d.cs σ++fr) w) (hq:s.qs[i]? =some q) (k:∀ w',St ⟨W,d.mp σ++m0⟩ (d.cs σ++fr) w'→R (decide (q.length<σ.cfg.Queue.toNat)) w'):C_ab ⟨some ⟨σ.rb,0,none⟩⟩ (i:Int) w R:=by
 apply S_Z
 unfold F_oc
 intro b w1 hb hw
 have e1:=Ext.new hw
 have st1:=st.alloc hb hw
 have st:=st.keep e1
 obtain⟨ob,hor,hof⟩:=I.ok.orow
 have hil:=(List.getElem?_eq_some_iff.1 hq).1
 obtain⟨l,hl⟩:∃ l,s.inst[i]? =some l:=by
  obtain⟨l,hl⟩:∃ l,s.inst[i]? =l:=⟨_,rfl⟩
  cases l with
  | some l=>exact⟨l,hl⟩
  | none=>rw [List.getElem?_eq_none_iff] at hl; have:=I.il; omega
 obtain⟨p,bs,sm,hp,hbs,hsm,oo⟩:=I.own i q l hq hl
 obtain⟨a1,a2,a3⟩:=(hor.srcM (fun c hc=>RD.fxm (hof c hc)) st).at1 (i:=i) (v:=pP p) (by rw [List.getElem?_map,hp]; rfl)
 refine⟨_,st1.cell 0 rfl rfl,rfl,σ.osl,st1.cell 1 rfl rfl,a1,O_,O_,p,by rw [Int.toNat_natCast]; exact a3,?_⟩
 have st2:St ⟨W,sm++(σ.fv.mp++(d.dm++((σ.wm,.map d.we d.wc)::(fl (d.SB.eraseIdx i)++m0))))⟩ (d.cs σ++fr) w1:=st.mperm (za fun f_=>by have h1_:=zR f_ hsm; simp [RD.cs,RD.mp] <;> omega)
 have st3:St _ (bs++((σ.rb,repV σ d.line d.gone)::(d.fcs++(d.dcs++(d.gcs++(fl d.LB++(fl (d.OB.eraseIdx i)++(d.lb++(d.gb++(d.PB++(σ.fx++fr))))))))))) w1:=st2.perm (za fun f_=>by have h1_:=zR f_ hbs; simp [RD.cs,RD.mp] <;> omega)
 refine s_R oo st3 fun w2 st=> ?_
 have st:St _ (d.cs σ++fr) w2:=st.perm (List.Perm.symm (za fun f_=>by have h1_:=zR f_ hbs; simp [RD.cs,RD.mp] <;> omega))
 have hd:decide ((σ.cfg.Queue.toNat:Int) - ((rqs q).length:Int)>0)=decide (q.length<σ.cfg.Queue.toNat):=by
  unfold rqs
  rw [List.length_map,decide_eq_decide]
  omega
 rw [hd]
 exact k w2 (st.mperm (List.Perm.symm (za fun f_=>by have h1_:=zR f_ hsm; simp [RD.cs,RD.mp] <;> omega)))
theorem s_8 {b i:Nat} {p:OA} {R:Int→WP} (I:RepI σ d log fed s) (st:St ⟨W,d.mp σ++m0⟩ (d.cs σ++fr) w) (hb:(b,[aP σ.rb,pP p,Vi (i:Int)])∈σ.fx) (hp:σ.op[i]? =some p) (k:∀ w',St ⟨W,d.mp σ++m0⟩ (d.cs σ++fr) w'→R (canO s i) w'):C_M (some ⟨b,0,none⟩) w R:=by
 apply S_R
 unfold F_ic
 have hil:=(List.getElem?_eq_some_iff.1 hp).1
 obtain⟨q,hq⟩:∃ q,s.qs[i]? =some q:=⟨_,List.getElem?_eq_getElem (by have:=I.ol; omega)⟩
 obtain⟨l,hl⟩:∃ l,s.inst[i]? =some l:=⟨_,List.getElem?_eq_getElem (by have:=I.ol; have:=I.il; omega)⟩
 obtain⟨p',bs,sm,hp',hbs,hsm,oo⟩:=I.own i q l hq hl
 obtain rfl:=Option.some.inj (hp.symm.trans hp')
 refine⟨rfl,p,(st.blk _ (RD.fxm hb)).cell rfl,?_⟩
 have st2:St ⟨W,sm++(σ.fv.mp++(d.dm++((σ.wm,.map d.we d.wc)::(fl (d.SB.eraseIdx i)++m0))))⟩ (d.cs σ++fr) w:=st.mperm (za fun f_=>by have h1_:=zR f_ hsm; simp [RD.cs,RD.mp] <;> omega)
 have st3:St _ (bs++((σ.rb,repV σ d.line d.gone)::(d.fcs++(d.dcs++(d.gcs++(fl d.LB++(fl (d.OB.eraseIdx i)++(d.lb++(d.gb++(d.PB++(σ.fx++fr))))))))))) w:=st2.perm (za fun f_=>by have h1_:=zR f_ hbs; simp [RD.cs,RD.mp] <;> omega)
 have k:=k w st
 unfold canO at k
 rw [hq] at k
 refine s_3 oo st3 ⟨fun h=> ?_,fun h=> ?_⟩
 ·have h:=of_decide_eq_true h
  cases q with
  | nil=>exact absurd h D_
  | cons z q=>exact k
 ·have h:=of_decide_eq_false h
  cases q with
  | nil=>exact k
  | cons z q=>exact absurd (show((rqs (z::q)).length:Int)>0 by unfold rqs; rw [List.length_map,List.length_cons]; omega) h
theorem s_9 {b:Nat} {R:Int→WP} (I:RepI σ d log fed s) (st:St ⟨W,d.mp σ++m0⟩ (d.cs σ++fr) w) (hb:(b,[aP σ.rb])∈σ.fx) (k:∀ w',St ⟨W,d.mp σ++m0⟩ (d.cs σ++fr) w'→R (canG s) w'):C_N (some ⟨b,0,none⟩) w R:=by
 apply S_S
 unfold F_lc
 have hl:=I.gone.len
 rw [List.length_map,Nat.mul_one] at hl
 have k:=k w st
 unfold canG at k
 refine⟨rfl,_,(st.blk _ (RD.fxm hb)).cell rfl,rfl,d.gone,st.cell 0 rfl rfl,fun h=> ?_,fun h=> ?_⟩
 ·have h:=of_decide_eq_true h
  rw [if_pos O_] at k; exact k
 ·have h:=of_decide_eq_false h
  rw [if_neg O_] at k; exact k
theorem z7g {c:Cfg} {x:Wr} (hc:z8 c=0) (hx:zPc x):0≤(zvb c x.Key).1∧(zvb c x.Key).1<c.Shards:=by
 have hck:=z1 hc
 obtain⟨x1,x2,_⟩:=hx
 unfold zvb
 rw [if_neg (by simpa using hc),if_neg O_]
 have h1:=zRh x.Key.data.toList 2166136261 O_
 have hs:=hck.2.1
 exact⟨Int.tmod_nonneg _ h1.1,Int.tmod_lt_of_pos _ O_⟩
theorem zwe (I:RepI σ d log fed s):d.line.len=s.line.length:=by
 have:=I.line.len
 rw [zl zKe] at this
 rw [I.lines,List.length_map]; omega
theorem s_ab {b i:Nat} {p:OA} {R:Int→WP} (I:RepI σ d log fed s) (st:St ⟨W,d.mp σ++m0⟩ (d.cs σ++fr) w) (hb:(b,[aP σ.rb,pP p])∈σ.fx) (hp:σ.lp[i]? =some p) (k:∀ w',St ⟨W,d.mp σ++m0⟩ (d.cs σ++fr) w'→R (canW σ s i) w'):C_L (some ⟨b,0,none⟩) w R:=by
 apply S_Q
 unfold F_gc
 have hil:=(List.getElem?_eq_some_iff.1 hp).1
 obtain⟨o,ho⟩:∃ o,s.lanes[i]? =some o:=⟨_,List.getElem?_eq_getElem (by have:=I.ll; omega)⟩
 obtain⟨p',bs,h,hp',hbs,lo,lr⟩:=I.lane i o ho
 obtain rfl:=Option.some.inj (hp.symm.trans hp')
 have cb:∀ {w':World} {L:List zg} {v:Value} {o:Nat},St ⟨W,d.mp σ++m0⟩ (L++(d.cs σ++fr)) w'→[aP σ.rb,pP p][o]? =some v→w'.cell? ⟨b,o,none⟩=some v:=fun st hv=>(st.blk _ (List.mem_append_right _ (RD.fxm hb))).cell hv
 have lf:∀ {w':World} {L:List zg},St ⟨W,d.mp σ++m0⟩ (L++(d.cs σ++fr)) w'→St ⟨W,d.mp σ++m0⟩ (bs++(L++((σ.rb,repV σ d.line d.gone)::(d.fcs++(d.dcs++(d.gcs++(fl (d.LB.eraseIdx i)++(fl d.OB++(d.lb++(d.gb++(d.PB++(σ.fx++fr)))))))))))) w':=fun st=>st.perm (za fun f_=>by have h1_:=zR f_ hbs; simp [RD.cs,RD.mp] <;> omega)
 have lb:∀ {w':World} {L:List zg},St ⟨W,d.mp σ++m0⟩ (bs++(L++((σ.rb,repV σ d.line d.gone)::(d.fcs++(d.dcs++(d.gcs++(fl (d.LB.eraseIdx i)++(fl d.OB++(d.lb++(d.gb++(d.PB++(σ.fx++fr)))))))))))) w'→St ⟨W,d.mp σ++m0⟩ (L++(d.cs σ++fr)) w':=fun st=>st.perm (List.Perm.symm (za fun f_=>by have h1_:=zR f_ hbs; simp [RD.cs,RD.mp] <;> omega))
 refine⟨rfl,p,cb (L:=[]) st rfl,s_f lo (lf (L:=[]) st) ?_⟩
 cases h with
 | none =>
  have hno:o=none:=by
   cases o with
   | none=>rfl
   | some j=>cases lr
  subst hno
  have k:=k w st
  unfold canW at k
  rw [ho] at k
  have hl:=zwe I
  refine⟨fun _=>⟨rfl,_,cb (L:=[]) st rfl,rfl,d.line,st.cell 0 rfl rfl,fun h=> ?_,fun h=> ?_⟩,fun h=>(by cases h)⟩
  ·have h:=of_decide_eq_true h
   rw [if_pos O_] at k; exact k
  ·have h:=of_decide_eq_false h
   rw [if_neg O_] at k; exact k
 | some h =>
  cases o with
  | none=>cases lr
  | some j =>
  obtain⟨j1,j2,j3,jg,jn,ok⟩:=lr
  have hn:=ok.n
  have hne:(zqn (some ⟨(i:Int)+1,σ.cfg,some h⟩)==0)=false:=by
   show(h.n==0)=false
   simp; omega
  refine⟨fun hh=>(by rw [hne] at hh; cases hh),fun _=>⟨rfl,p,cb (L:=[]) st rfl,s_r lo (lf (L:=[]) st) fun w1 st=> ?_⟩⟩
  have st:St ⟨W,d.mp σ++m0⟩ ([]++(d.cs σ++fr)) w1:=lb st
  intro b1 w2 hb1 hw2
  have st:St ⟨W,d.mp σ++m0⟩ ([(b1,reqV zeroReq)]++(d.cs σ++fr)) w2:=st.alloc (cs:=reqV zeroReq) hb1 hw2
  refine⟨st.writable 0 rfl (by show 0+9≤9; omega),fun w3 hw3=> ?_⟩
  have st:St ⟨W,d.mp σ++m0⟩ ([(b1,reqV (zCc (some ⟨(i:Int)+1,σ.cfg,some h⟩)).2.1)]++(d.cs σ++fr)) w3:=st.put0 hw3
  have k0:∀ w',St ⟨W,d.mp σ++m0⟩ ([(b1,reqV (zCc (some ⟨(i:Int)+1,σ.cfg,some h⟩)).2.1)]++(d.cs σ++fr)) w'→(j.left=[]∨∃ x r,j.left=x::r∧zLh σ s x.Key=false)→F_i (some ⟨b,0,none⟩) R false w':=fun w' st hj=>by
   unfold F_i
   refine⟨fun h=>(by cases h),fun _=>⟨rfl,p,cb st rfl,s_o lo (lf st) ?_⟩⟩
   have k:=k w' st.drop
   unfold canW at k
   rw [ho] at k
   simp only at k
   show(decide (h.acked=h.ws.length)=true→R 6 w')∧(decide (h.acked=h.ws.length)=false→R 0 w')
   have oks:=ok.s
   have oka:=ok.a
   rcases hj with hj | ⟨x,r,hj,hr⟩
   ·rw [hj] at k
    have hs:h.sent=h.ws.length:=by
     rw [hj] at j2
     have:=congrArg List.length j2
     rw [List.length_nil,List.length_drop] at this
     omega
    refine⟨fun h1=> ?_,fun h1=> ?_⟩
    ·have h1:=of_decide_eq_true h1
     rw [if_pos O_] at k; exact k
    ·have h1:=of_decide_eq_false h1
     rw [if_neg O_] at k; exact k
   ·rw [hj] at k
    simp only at k
    rw [hr] at k
    have hs:h.sent<h.ws.length:=by
     rw [hj] at j2
     have:=congrArg List.length j2
     rw [List.length_cons,List.length_drop] at this
     omega
    exact⟨fun h1=>(by have h1:=of_decide_eq_true h1; omega),fun _=>k⟩
  cases hl:j.left with
  | nil =>
   have hx:h.ws[h.sent]? =none:=by
    rw [hl] at j2
    rw [List.getElem?_eq_none_iff]
    exact List.drop_eq_nil_iff.1 j2.symm
   have hm:(zCc (some ⟨(i:Int)+1,σ.cfg,some h⟩)).2.2=false:=by unfold zCc; simp only [hx]
   rw [hm]
   exact⟨fun h=>(by cases h),fun _=>k0 _ st (.inl hl)⟩
  | cons x r =>
   have hx:h.ws[h.sent]? =some x:=by
    rw [hl] at j2
    have:=congrArg (fun l=>l[0]?) j2
    simp only [List.getElem?_cons_zero,List.getElem?_drop,Nat.add_zero] at this
    exact this.symm
   have hm:(zCc (some ⟨(i:Int)+1,σ.cfg,some h⟩)).2.2=true∧(zCc (some ⟨(i:Int)+1,σ.cfg,some h⟩)).1=(zvb σ.cfg x.Key).1:=by unfold zCc; simp only [hx]; exact⟨trivial,trivial⟩
   rw [hm.1,hm.2]
   have hgx:=jg x (List.mem_of_getElem? hx)
   obtain⟨r1,r2⟩:=z7g I.ok.cfg hgx
   have hon:=I.ok.on
   have hol:=I.ol
   obtain⟨q,hq⟩:∃ q,s.qs[shN σ.cfg x.Key]? =some q:=⟨_,List.getElem?_eq_getElem (by unfold shN; omega)⟩
   have hrk:zLh σ s x.Key=decide (q.length<σ.cfg.Queue.toNat):=by unfold zLh; rw [hq]
   have hcast:(zvb σ.cfg x.Key).1=((shN σ.cfg x.Key:Nat):Int):=by unfold shN; omega
   rw [hcast]
   have st':St ⟨W,d.mp σ++m0⟩ (d.cs σ++([(b1,reqV (zCc (some ⟨(i:Int)+1,σ.cfg,some h⟩)).2.1)]++fr)) w3:=st.perm (za fun f_=>by simp [RD.cs,RD.mp] <;> omega)
   refine⟨fun _=>⟨rfl,⟨_⟩,⟨cb st rfl,trivial⟩,s_7 I st' hq fun w4 st=> ?_⟩,fun h=>(by cases h)⟩
   have st:St ⟨W,d.mp σ++m0⟩ ([(b1,reqV (zCc (some ⟨(i:Int)+1,σ.cfg,some h⟩)).2.1)]++(d.cs σ++fr)) w4:=st.perm (za fun f_=>by simp [RD.cs,RD.mp] <;> omega)
   cases hr:decide (q.length<σ.cfg.Queue.toNat) with
   | false=>exact k0 w4 st (.inr ⟨x,r,hl,hrk.trans hr⟩)
   | true =>
    have k:=k w4 st.drop
    unfold canW at k
    rw [ho] at k
    simp only [hl,hrk.trans hr,if_true] at k
    unfold F_i
    exact⟨fun _=>k,fun h=>(by cases h)⟩
end
structure SO (W:World) (m0:List (Nat×Obj)) (fr:List zg) (σ:RS) (log:List Tx) (fed:Nat) (d:RD) (s:TS) (w:World):Prop where
 I:RepI σ d log fed s
 h:TInv log fed σ.cfg.Queue.toNat (shN σ.cfg) s
 st:St ⟨W,d.mp σ++m0⟩ (d.cs σ++fr) w
 L:zcc log
 b:phi log fed s≤4521984
def evV (e:T_a):List Value:=[Vi e.Task,Value.int .u8 e.Kind,Vi e.Number,Vi e.Shard,Vi e.Count,Vi e.Mark]
def ev0:T_a:=⟨0,0,0,0,0,0⟩
theorem zio {log:List Tx} {fed cap:Nat} {sh:ByteArray→Nat} {s:TS} (h:TInv log fed cap sh s) {x:Int} (hx:(∃ t∈s.pend,t.1=x)∨(∃ t∈s.line,t.1=x)∨(∃ j,some j∈s.lanes∧j.n=x)∨x∈s.gone):x∈s.opn:=by
 have ho:=h.opn (one1 x)
 have e1:one1 x x=1:=if_pos rfl
 have hpos:sm (one1 x) s.opn≠0:=by
  rcases hx with ⟨t,ht,e⟩ | ⟨t,ht,e⟩ | ⟨j,hj,e⟩ | hx
  ·have:=zpb (f:=fun t:Tx=>one1 x t.1) ht
   simp only [e,e1] at this; omega
  ·have:=zpb (f:=fun t:Tx=>one1 x t.1) ht
   simp only [e,e1] at this; omega
  ·have:=zpb (f:=zgd (one1 x)) hj
   have e2:zgd (one1 x) (some j)=1:=by show one1 x j.n=1; rw [e]; exact e1
   omega
  ·have:=zpb (f:=one1 x) hx
   omega
 obtain⟨y,hy,hne⟩:=zAf hpos
 unfold one1 at hne
 split at hne
 ·rename_i e; exact e ▸ hy
 ·exact absurd rfl hne
section
variable {W:World} {m0:List (Nat×Obj)} {w:World} {fr:List zg} {σ:RS} {d:RD} {log:List Tx} {fed:Nat} {s:TS}
theorem s_Fb {b:Nat} {R:T_a→WP} (S:SO W m0 fr σ log fed d s w) (hb:(b,[aP σ.rb])∈σ.fx) (h1:s.held=none) (h2:s.at_<fed)
    (k:∀ ev d' s' w',SO W m0 fr σ log fed d' s' w'→phi log fed s'+1=phi log fed s→R ev w'):C_o (some ⟨b,0,none⟩) 1 w R:=by
 obtain⟨I,h,st,L,hb2⟩:=S
 apply S_h
 unfold F_6
 intro b_ w1 hb_ hw1
 have st:St ⟨W,d.mp σ++m0⟩ ([(b_,evV ev0)]++(d.cs σ++fr)) w1:=st.alloc (cs:=evV ev0) hb_ hw1
 refine⟨fun _=>⟨rfl,_,(st.blk _ (List.mem_append_right _ (RD.fxm hb))).cell rfl,rfl,σ.f,st.cell 1 rfl rfl,?_⟩,fun h=>(by cases h)⟩
 have st:St ⟨W,d.mp σ++m0⟩ (d.fcs++([(b_,evV ev0)]++(({d with fcs:=[]}:RD).cs σ++fr))) w1:=st.perm (za fun f_=>by simp [RD.cs,RD.mp] <;> omega)
 refine s_Cb (fun q hq=>fvm hq) I.feed st fun fcs' w2 fo st=> ?_
 have hr:zZf (some ⟨log,0,s.at_,fed,σ.cfg.Window.toNat,[],s.held,false⟩)=(((s.at_+1:Nat):Int),0,some ⟨log,0,s.at_+1,fed,σ.cfg.Window.toNat,[],log[s.at_]?,false⟩):=by
  unfold zZf
  simp only [h1,h2,if_true,Bool.false_eq_true,if_false]
 rw [hr] at fo
 have st:St ⟨W,d.mp σ++m0⟩ ([(b_,evV ev0)]++(({d with fcs:=fcs'}:RD).cs σ++fr)) w2:=st.perm (za fun f_=>by simp [RD.cs,RD.mp] <;> omega)
 refine⟨st.writable 0 rfl (by show 0+6≤6; omega),fun w3 hw3=> ?_⟩
 rw [hr] at hw3
 have st:=st.put0 hw3
 obtain⟨hi,hp⟩:=zWm L h h1 h2
 have hls:(log[s.at_]?).isSome=true:=by
  have:=h.fl
  rw [List.getElem?_eq_getElem O_]; rfl
 refine⟨⟨0,0,((s.at_+1:Nat):Int),0,0,0⟩,(st.get 0 rfl).all,k _ {d with fcs:=fcs'} (rdS log s) w3 ⟨{ I with feed:=fo,top:= ?_ },hi,st.drop1,L,O_⟩ hp⟩
 have ht:=I.top
 rw [h1] at ht
 show d.top+(if(log[s.at_]?).isSome=true then 1 else 0)=((s.at_+1:Nat):Int)
 rw [if_pos hls]
 have ht:d.top+0=(s.at_:Int):=ht
 omega
theorem D_k0 {b b_ bt:Nat} {t:Tx} {sl:Slc} {rw_ fcs':List zg} {R:T_a→WP} (I:RepI σ d log fed s) (h:TInv log fed σ.cfg.Queue.toNat (shN σ.cfg) s) (L:zcc log) (hb2:phi log fed s≤4521984)
    (hb:(b,[aP σ.rb])∈σ.fx) (h1:s.held=some t) (fo:FdO σ.fv σ.sp (some ⟨log,0,s.at_,fed,σ.cfg.Window.toNat,[],none,false⟩) σ.f fcs') (ro:RowC 3 sl (t.2.flatMap wV) rw_)
    (st:St ⟨W,d.mp σ++m0⟩ ((bt,txW t.1 sl)::(b_,evV ev0)::(rw_++(({d with fcs:=fcs'}:RD).cs σ++fr))) w)
    (k:∀ ev d' s' w',SO W m0 fr σ log fed d' s' w'→phi log fed s'+1=phi log fed s→R ev w'):F_e (some ⟨b,0,none⟩) R b_ (some ⟨bt,0,none⟩) w:=by
 unfold F_e
 intro w1 e1
 have st:=st.drew e1
 have cb:∀ {w':World} {mp:List (Nat×Obj)} {A:List zg} {d':RD},St ⟨W,mp⟩ (A++(d'.cs σ++fr)) w'→w'.cell? ⟨b,0,none⟩=some (aP σ.rb):=fun st=>(st.blk _ (List.mem_append_right _ (RD.fxm hb))).cell rfl
 have cr:∀ {w':World} {mp:List (Nat×Obj)} {A:List zg} {d':RD} {o:Nat} {v:Value},St ⟨W,mp⟩ (A++(d'.cs σ++fr)) w'→(repV σ d'.line d'.gone)[o]? =some v→w'.cell? ⟨σ.rb,o,none⟩=some v:=fun st hv=>(st.blk (σ.rb,_) (List.mem_append_right _ (List.mem_append_left _ (List.mem_cons_self ..)))).cell hv
 have hA:∀ {w':World} {mp:List (Nat×Obj)} {d':RD},St ⟨W,mp⟩ ((bt,txW t.1 sl)::(b_,evV ev0)::(rw_++(d'.cs σ++fr))) w'→St ⟨W,mp⟩ (([(bt,txW t.1 sl),(b_,evV ev0)]++rw_)++(d'.cs σ++fr)) w':=fun st=>st.pq
 obtain⟨ha,htl⟩:=h.held t h1
 have htn:t.1=(s.at_:Int):=by have:=L.num _ _ htl; omega
 have hok:=L.ok t (List.mem_of_getElem? htl)
 have htop:d.top<t.1:=by
  have:=I.top
  rw [h1] at this
  have this:d.top+1=(s.at_:Int):=this
  omega
 obtain⟨hno,hng⟩:=h.heldN t h1
 refine⟨rfl,_,cb (hA st),rfl,σ.dp,cr (hA st) rfl,rfl,⟨t.1,sl⟩,(st.get 0 rfl).all,?_⟩
 have st:St ⟨W,d.dm++(({d with dm:=[]}:RD).mp σ++m0)⟩ (d.dcs++((bt,txW t.1 sl)::(b_,evV ev0)::(rw_++(({d with fcs:=fcs',dcs:=[]}:RD).cs σ++fr)))) w1:=(st.perm (za fun f_=>by simp [RD.cs,RD.mp] <;> omega)).mperm (za fun f_=>by simp [RD.cs,RD.mp] <;> omega)
 refine s_mb (x:=⟨t.1,sl⟩) I.deps st (fun mp l' w' st=>ro.srcM (fun c hc=>by simp [hc]) st) hok htop fun U dm' dcs' w2 hUn hUo dpo st=> ?_
 obtain⟨d1,hd1⟩:∃ d1:RD,d1={d with fcs:=fcs',dcs:=dcs',dm:=dm',top:=t.1,PB:=rw_++d.PB}:=⟨_,rfl⟩
 have st:St ⟨W,d1.mp σ++m0⟩ ([(bt,txW t.1 sl),(b_,evV ev0)]++(d1.cs σ++fr)) w2:=by
  subst hd1
  exact(st.perm (za fun f_=>by simp [RD.cs,RD.mp] <;> omega)).mperm (za fun f_=>by simp [RD.cs,RD.mp] <;> omega)
 obtain⟨hi,hp⟩:=zXm L h h1 hUo hUn
 have hPB:∀ c∈d.PB,c∈rw_++d.PB:=fun c hc=>List.mem_append_right _ hc
 have hin:InW (rw_++d.PB) sl t.2:=⟨rw_,ro,fun c hc=>List.mem_append_left _ hc⟩
 have htop':t.1+(if(none:Option Tx).isSome=true then 1 else 0)=(s.at_:Int):=by show t.1+0=_; omega
 have k1:∀ d' w',RepI σ d' log fed (dsS t U s)→St ⟨W,d'.mp σ++m0⟩ ([(bt,txW t.1 sl),(b_,evV ev0)]++(d'.cs σ++fr)) w'→F_g R b_ (some ⟨bt,0,none⟩) (U.length:Nat) w':=fun d' w' I' st=>by
  unfold F_g
  refine⟨rfl,t.1,st.cell 0 rfl rfl,st.writable 1 rfl (by show 0+6≤6; omega),fun w3 hw3=> ?_⟩
  have st:=st.put1 hw3
  exact⟨⟨0,0,t.1,0,(U.length:Nat),0⟩,(st.get 1 rfl).all,k _ d' _ w3 ⟨I',hi,st.drop1.drop1,L,O_⟩ hp⟩
 refine⟨fun hu=> ?_,fun hu=> ?_⟩
 ·have hu:U=[]:=by
    have:((U.length:Nat):Int)=0:=by simpa using hu
    exact List.eq_nil_of_length_eq_zero O_
  intro w3 e3
  have st:=st.drew e3
  have hl1:d1.line=d.line:=by rw [hd1]
  refine⟨rfl,_,cb st,rfl,_,cb st,rfl,d1.line,cr st rfl,rfl,⟨t.1,sl⟩,(st.get 0 rfl).all,fun b1 w4 hb1 hw4=> ?_⟩
  have st4:St ⟨W,d1.mp σ++m0⟩ ([(b1,txW t.1 sl),(bt,txW t.1 sl),(b_,evV ev0)]++(d1.cs σ++fr)) w4:=st.alloc (cs:=txW t.1 sl) hb1 hw4
  refine⟨cr st4 rfl,cb st4,cb st4,txW t.1 sl,zob hb1 hw4 rfl,?_⟩
  have hll:=zwe I
  have hbn:s.line.length*3≤4521984:=by
   have h3:sm (fun t=>3+2*cw t) s.line≥s.line.length*3:=by
    have:∀ l:List Tx,l.length*3≤sm (fun t=>3+2*cw t) l:=fun l=>by
     induction l with
     | nil=>exact Nat.zero_le _
     | cons x l ih=>rw [sm_cons,List.length_cons]; omega
    exact this _
   unfold phi at hb2
   omega
  have st5:St ⟨W,d1.mp σ++m0⟩ (d.lb++([(bt,txW t.1 sl),(b_,evV ev0)]++(({d1 with lb:=[]}:RD).cs σ++fr))) w4:=by
   have:=st4.drop1
   subst hd1
   exact this.perm (za fun f_=>by simp [RD.cs,RD.mp] <;> omega)
  have I':=I.line
  rw [hl1]
  refine I'.append st5 rfl rfl rfl (by show(d.line.len+1)*32≤_; omega) fun ln lb' w6 ro' st hlen=> ?_
  have st:St ⟨W,d1.mp σ++m0⟩ ([(bt,txW t.1 sl),(b_,evV ev0)]++(({d1 with lb:=lb'}:RD).cs σ++fr)) w6:=st.perm (za fun f_=>by simp [RD.cs,RD.mp] <;> omega)
  have st':St ⟨W,d1.mp σ++m0⟩ ((σ.rb,repV σ d1.line d1.gone)::(([(bt,txW t.1 sl),(b_,evV ev0)]++(d1.fcs++(d1.dcs++(d1.gcs++(fl d1.LB++(fl d1.OB++(lb'++(d1.gb++(d1.PB++σ.fx)))))))))++fr)) w6:=st.perm (za fun f_=>by simp [RD.cs,RD.mp] <;> omega)
  refine⟨cb st,rfl,st'.writable 0 rfl (by show 0+12+1≤18; omega),fun w7 hw7=> ?_⟩
  have st:=st'.put0 hw7
  have st:St ⟨W,d1.mp σ++m0⟩ ((σ.rb,repV σ ln d1.gone)::(([(bt,txW t.1 sl),(b_,evV ev0)]++(d1.fcs++(d1.dcs++(d1.gcs++(fl d1.LB++(fl d1.OB++(lb'++(d1.gb++(d1.PB++σ.fx)))))))))++fr)) w7:=st
  have st:St ⟨W,d1.mp σ++m0⟩ ([(bt,txW t.1 sl),(b_,evV ev0)]++(({d1 with lb:=lb',line:=ln,ll:=d.ll++[(t,sl)]}:RD).cs σ++fr)) w7:=st.perm (za fun f_=>by simp [RD.cs,RD.mp] <;> omega)
  refine k1 {d1 with lb:=lb',line:=ln,ll:=d.ll++[(t,sl)]} w7 ?_ st
  subst hd1
  refine { ok:=I.ok,feed:=fo,deps:=dpo,top:=htop',gate:=I.gate,ll:=I.ll,lB:=I.lB,lane:=I.lane,ol:=I.ol,il:=I.il,oB:=I.oB,sB:=I.sB,own:=I.own,qgood:=I.qgood,igood:=I.igood,line:= ?_,lines:= ?_,lin:=fun p hp=> ?_,wok:=I.wok,pend:=fun x hx=> ?_,gone:=I.gone }
  ·show RowC 2 ln ((d.ll++[(t,sl)]).flatMap txC) lb'
   rw [List.flatMap_append]; exact ro'
  ·show(if U=[] then s.line++[t] else s.line)=(d.ll++[(t,sl)]).map (·.1)
   rw [if_pos hu,List.map_append,I.lines]; rfl
  ·rcases List.mem_append.1 hp with hp | hp
   ·exact(I.lin p hp).mono hPB
   ·have:p=(t,sl):=by simpa using hp
    rw [this]; exact hin
  ·have hx:x∈(if U=[] then s.pend else s.pend++[t]):=hx
   rw [if_pos hu] at hx
   obtain⟨z,hz1,hz2⟩:=I.pend x hx
   exact⟨z,hz1,hz2.mono hPB⟩
 ·have hu:U≠[]:=fun e=>by rw [e] at hu; exact absurd hu D_
  intro w3 e3
  have st:=st.drew e3
  have hw1:d1.we=d.we∧d1.wc=d.wc:=by rw [hd1]; exact⟨rfl,rfl⟩
  have stm:St ⟨W,(σ.wm,.map d.we d.wc)::(σ.fv.mp++(d1.dm++(fl d1.SB++m0)))⟩ ([(bt,txW t.1 sl),(b_,evV ev0)]++(d1.cs σ++fr)) w3:=by
   have:=st
   subst hd1
   exact this.mperm (za fun f_=>by simp [RD.cs,RD.mp] <;> omega)
  refine⟨rfl,_,cb st,rfl,some σ.wm,cr st rfl,rfl,t.1,st.cell 0 rfl rfl,⟨t.1,sl⟩,(st.get 0 rfl).all,σ.wm,d.we,d.wc,rfl,stm.objAt 0 rfl,I.wok.all,I.wok.nodup,⟨_,rfl⟩,fun es1 c1 w4 hset hw4=> ?_⟩
  have st:=stm.mset0 hw4
  have st:St ⟨W,({d1 with we:=es1,wc:=c1}:RD).mp σ++m0⟩ ([(bt,txW t.1 sl),(b_,evV ev0)]++(({d1 with we:=es1,wc:=c1}:RD).cs σ++fr)) w4:=(st.mperm (za fun f_=>by simp [RD.cs,RD.mp] <;> omega))
  obtain⟨ok1,va,vb⟩:=I.wok.set ⟨_,rfl⟩ hset
  refine k1 _ w4 ?_ st
  subst hd1
  refine { ok:=I.ok,feed:=fo,deps:=dpo,top:=htop',gate:=I.gate,ll:=I.ll,lB:=I.lB,lane:=I.lane,ol:=I.ol,il:=I.il,oB:=I.oB,sB:=I.sB,own:=I.own,qgood:=I.qgood,igood:=I.igood,line:=I.line,lines:= ?_,lin:=fun p hp=>(I.lin p hp).mono hPB,wok:=ok1,pend:=fun x hx=> ?_,gone:=I.gone }
  ·show(if U=[] then s.line++[t] else s.line)=_
   rw [if_neg hu]; exact I.lines
  ·have hx:x∈(if U=[] then s.pend else s.pend++[t]):=hx
   rw [if_neg hu] at hx
   rcases List.mem_append.1 hx with hx | hx
   ·obtain⟨z,hz1,hz2⟩:=I.pend x hx
    refine⟨z,(vb _ fun e=> ?_).trans hz1,hz2.mono hPB⟩
    have e:x.1=t.1:=by
     have e:Vi x.1=Vi t.1:=e
     simpa using e
    have:=zio h (.inl ⟨x,hx,e⟩)
    rw [htn] at this
    exact hno this
   ·have:x=t:=by simpa using hx
    subst this
    exact⟨sl,va,hin⟩
theorem s_Gb {b:Nat} {t:Tx} {R:T_a→WP} (S:SO W m0 fr σ log fed d s w) (hb:(b,[aP σ.rb])∈σ.fx) (h1:s.held=some t) (h2:t.1 - (σ.cfg.Window.toNat:Int)≤(s.g.mark:Int))
    (k:∀ ev d' s' w',SO W m0 fr σ log fed d' s' w'→phi log fed s'+1=phi log fed s→R ev w'):C_o (some ⟨b,0,none⟩) 3 w R:=by
 obtain⟨I,h,st,L,hb2⟩:=S
 apply S_h
 unfold F_6
 intro b_ w1 hb_ hw1
 have st:St ⟨W,d.mp σ++m0⟩ ([(b_,evV ev0)]++(d.cs σ++fr)) w1:=st.alloc (cs:=evV ev0) hb_ hw1
 have cb:∀ {w':World} {A:List zg},St ⟨W,d.mp σ++m0⟩ (A++(d.cs σ++fr)) w'→w'.cell? ⟨b,0,none⟩=some (aP σ.rb):=fun st=>(st.blk _ (List.mem_append_right _ (RD.fxm hb))).cell rfl
 have cr:∀ {w':World} {A:List zg} {o:Nat} {v:Value},St ⟨W,d.mp σ++m0⟩ (A++(d.cs σ++fr)) w'→(repV σ d.line d.gone)[o]? =some v→w'.cell? ⟨σ.rb,o,none⟩=some v:=fun st hv=>(st.blk (σ.rb,_) (List.mem_append_right _ (List.mem_append_left _ (List.mem_cons_self ..)))).cell hv
 have hr:zoe (some ⟨log,0,s.at_,fed,σ.cfg.Window.toNat,[],s.held,false⟩) (s.g.mark:Int)=(t,0,some ⟨log,0,s.at_,fed,σ.cfg.Window.toNat,[],none,false⟩):=by
  unfold zoe zYf
  simp only [h1]
  rw [if_neg (by rintro(hh | hh); · cases hh
                 ·exact hh h2)]
 have mk:∀ {w':World} {A:List zg} {R:Int→WP},St ⟨W,d.mp σ++m0⟩ (A++(d.cs σ++fr)) w'→(∀ w2,St ⟨W,d.mp σ++m0⟩ (A++(d.cs σ++fr)) w2→R (s.g.mark:Int) w2)→C_m ⟨some ⟨σ.rb,0,none⟩⟩ w' R:=fun {w' A R} st kk =>
  s_q (fr:=A++fr) I (st.perm (za fun f_=>by simp [RD.cs,RD.mp] <;> omega)) fun w2 e2=>kk w2 (st.keep e2)
 have dsp:∀ {w':World} {A:List zg} {R:T_b→Int→WP},St ⟨W,d.mp σ++m0⟩ (A++(d.cs σ++fr)) w'→(∀ sl rw_ fcs' w2,RowC 3 sl (t.2.flatMap wV) rw_→FdO σ.fv σ.sp (some ⟨log,0,s.at_,fed,σ.cfg.Window.toNat,[],none,false⟩) σ.f fcs'→St ⟨W,d.mp σ++m0⟩ (A++(rw_++(({d with fcs:=fcs'}:RD).cs σ++fr))) w2→R ⟨t.1,sl⟩ 0 w2)→C_k σ.f (s.g.mark:Int) w' R:=fun {w' A R} st kk=>by
  have st:St ⟨W,d.mp σ++m0⟩ (d.fcs++(A++(({d with fcs:=[]}:RD).cs σ++fr))) w':=st.perm (za fun f_=>by simp [RD.cs,RD.mp] <;> omega)
  refine s_K (fun q hq=>fvm hq) I.feed st fun sl rw_ fcs' w2 ro _ fo st=> ?_
  rw [hr] at ro fo ⊢
  exact kk sl rw_ fcs' w2 ro fo (st.perm (za fun f_=>by simp [RD.cs,RD.mp] <;> omega))
 refine⟨fun h=>(by cases h),fun _=>⟨fun h=>(by cases h),fun _=>fun w2 e2=> ?_⟩⟩
 have st:=st.drew e2
 refine⟨rfl,_,cb st,rfl,σ.f,cr st rfl,rfl,⟨_⟩,⟨cb st,trivial⟩,mk st fun w3 st=>⟨cr st rfl,cb st,dsp st fun sl rw_ fcs' w4 ro fo st=>fun b2 w5 hb3 hw5=> ?_,fun b3 w4 hb3 hw4=> ?_⟩,fun b4 w3 hb4 hw3=> ?_⟩
 ·have st:=st.alloc (cs:=txW 0 ⟨none,0,0⟩) hb3 hw5
  exact⟨st.writable 0 rfl (by show 0+2≤2; omega),fun w6 hw6=>D_k0 I h L hb2 hb h1 fo ro (st.put0 hw6) k⟩
 ·have st:St ⟨W,d.mp σ++m0⟩ ([(b3,txW 0 ⟨none,0,0⟩),(b_,evV ev0)]++(d.cs σ++fr)) w4:=st.alloc (cs:=txW 0 ⟨none,0,0⟩) hb3 hw4
  refine⟨cr st rfl,cb st,dsp st fun sl rw_ fcs' w5 ro fo st=> ?_⟩
  exact⟨st.writable 0 rfl (by show 0+2≤2; omega),fun w6 hw6=>D_k0 I h L hb2 hb h1 fo ro (st.put0 hw6) k⟩
 ·have st:St ⟨W,d.mp σ++m0⟩ ([(b4,txW 0 ⟨none,0,0⟩),(b_,evV ev0)]++(d.cs σ++fr)) w3:=st.alloc (cs:=txW 0 ⟨none,0,0⟩) hb4 hw3
  refine⟨⟨cb st,trivial⟩,cr st rfl,cb st,mk st fun w4 st=>⟨cr st rfl,cb st,dsp st fun sl rw_ fcs' w5 ro fo st=> ?_⟩⟩
  exact⟨st.writable 0 rfl (by show 0+2≤2; omega),fun w6 hw6=>D_k0 I h L hb2 hb h1 fo ro (st.put0 hw6) k⟩
end
set_option maxHeartbeats 4000000
section
variable {W:World} {m0:List (Nat×Obj)} {w:World} {fr:List zg} {σ:RS} {d:RD} {log:List Tx} {fed:Nat} {s:TS}
def zxs (σ:RS) (LB:List (List zg)) (lanes:List (Option LJ)):Prop:=∀(i:Nat) o,lanes[i]? =some o→∃ p bs h,σ.lp[i]? =some p∧LB[i]? =some bs∧LnO p (some ⟨(i:Int)+1,σ.cfg,h⟩) bs∧LRel o h
theorem zxe {LB:List (List zg)} {lanes:List (Option LJ)} {i:Nat} {p:OA} {bs bs':List zg} {o':Option LJ} {h':Option LHd} (H:zxs σ LB lanes) (hbs:LB[i]? =some bs) (hp:σ.lp[i]? =some p) (lo:LnO p (some ⟨(i:Int)+1,σ.cfg,h'⟩) bs') (lr:LRel o' h'):zxs σ (LB.set i bs') (lanes.set i o'):=fun j o ho=>by
 by_cases hij:i=j
 ·subst hij
  have hil:i<lanes.length:=by
   have:=(List.getElem?_eq_some_iff.1 ho).1
   rwa [List.length_set] at this
  rw [List.getElem?_set_self hil] at ho
  obtain rfl:=Option.some.inj ho
  exact⟨p,bs',h',hp,List.getElem?_set_self (List.getElem?_eq_some_iff.1 hbs).1,lo,lr⟩
 ·rw [List.getElem?_set_ne hij] at ho
  obtain⟨p,bs,h,a,b,c,e⟩:=H j o ho
  exact⟨p,bs,h,a,by rw [List.getElem?_set_ne hij]; exact b,c,e⟩
def OwnP (σ:RS) (OB:List (List zg)) (SB:List (List (Nat×Obj))) (qs:List (List (Nat×IW))) (inst:List (List IW)):Prop :=
 ∀(i:Nat) q l,qs[i]? =some q→inst[i]? =some l→∃ p bs sm,σ.op[i]? =some p∧OB[i]? =some bs∧SB[i]? =some sm∧z6b p (zKd l) σ.cfg.Queue.toNat (rqs q) sm bs
theorem zkk {OB:List (List zg)} {SB:List (List (Nat×Obj))} {qs:List (List (Nat×IW))} {inst:List (List IW)} {i:Nat} {p:OA} {bs bs':List zg} {sm sm':List (Nat×Obj)} {q':List (Nat×IW)} {l':List IW} (H:OwnP σ OB SB qs inst) (hbs:OB[i]? =some bs) (hsm:SB[i]? =some sm) (hp:σ.op[i]? =some p)
    (oo:z6b p (zKd l') σ.cfg.Queue.toNat (rqs q') sm' bs'):OwnP σ (OB.set i bs') (SB.set i sm') (qs.set i q') (inst.set i l'):=fun j q l hq hl=>by
 by_cases hij:i=j
 ·subst hij
  have h1:i<qs.length:=by
   have:=(List.getElem?_eq_some_iff.1 hq).1
   rwa [List.length_set] at this
  have h2:i<inst.length:=by
   have:=(List.getElem?_eq_some_iff.1 hl).1
   rwa [List.length_set] at this
  rw [List.getElem?_set_self h1] at hq
  rw [List.getElem?_set_self h2] at hl
  obtain rfl:=Option.some.inj hq
  obtain rfl:=Option.some.inj hl
  exact⟨p,bs',sm',hp,List.getElem?_set_self (List.getElem?_eq_some_iff.1 hbs).1,List.getElem?_set_self (List.getElem?_eq_some_iff.1 hsm).1,oo⟩
 ·rw [List.getElem?_set_ne hij] at hq hl
  obtain⟨p,bs,sm,a,b,c,e⟩:=H j q l hq hl
  exact⟨p,bs,sm,a,by rw [List.getElem?_set_ne hij]; exact b,by rw [List.getElem?_set_ne hij]; exact c,e⟩
theorem z1i {α:Type} {l:List α} {i:Nat} {x:α} (h:l[i]? =some x):l.set i x=l:=by
 obtain⟨h1,rfl⟩:=List.getElem?_eq_some_iff.1 h
 exact List.set_getElem_self h1
theorem zLm (h:phi log fed s≤4521984):s.line.length*3≤4521984∧s.gone.length≤4521984:=by
 have h3:sm (fun t=>3+2*cw t) s.line≥s.line.length*3:=by
  have:∀ l:List Tx,l.length*3≤sm (fun t=>3+2*cw t) l:=fun l=>by
   induction l with
   | nil=>exact Nat.zero_le _
   | cons x l ih=>rw [sm_cons,List.length_cons]; omega
  exact this _
 unfold phi at h
 omega
/-- The parts that a walk looks at. -/
theorem crb {mp:List (Nat×Obj)} {A:List zg} {o:Nat} {v:Value} (st:St ⟨W,mp⟩ (A++(d.cs σ++fr)) w) (hv:(repV σ d.line d.gone)[o]? =some v):w.cell? ⟨σ.rb,o,none⟩=some v :=
 (st.blk (σ.rb,_) (List.mem_append_right _ (List.mem_append_left _ (List.mem_cons_self ..)))).cell hv
theorem cfx {mp:List (Nat×Obj)} {A:List zg} {b o:Nat} {cs:List Value} {v:Value} (st:St ⟨W,mp⟩ (A++(d.cs σ++fr)) w) (hb:(b,cs)∈σ.fx) (hv:cs[o]? =some v):w.cell? ⟨b,o,none⟩=some v :=
 (st.blk (b,cs) (List.mem_append_right _ (RD.fxm hb))).cell hv
theorem s_Hb {b i:Nat} {p:OA} {R:T_a→WP} (S:SO W m0 fr σ log fed d s w) (hb:(b,[aP σ.rb,pP p])∈σ.fx) (hp:σ.lp[i]? =some p) (h1:s.lanes[i]? =some none) (h2:0<s.line.length)
    (k:∀ ev d' s' w',SO W m0 fr σ log fed d' s' w'→phi log fed s'+1=phi log fed s→R ev w'):C_n (some ⟨b,0,none⟩) 4 w R:=by
 obtain⟨I,h,st,L,hb2⟩:=S
 apply S_e
 unfold F_4
 intro b_ w1 hb_ hw1
 have st:St ⟨W,d.mp σ++m0⟩ ([(b_,evV ev0)]++(d.cs σ++fr)) w1:=st.alloc (cs:=evV ev0) hb_ hw1
 obtain⟨p',bs,hh,hp',hbs,lo,lr⟩:=I.lane i none h1
 obtain rfl:=Option.some.inj (hp.symm.trans hp')
 have hh0:hh=none:=by cases hh with
  | none=>rfl
  | some x=>cases lr
 subst hh0
 have hll:=zwe I
 obtain⟨⟨t,sl⟩,r,hdl⟩:∃ z r,d.ll=z::r:=by
  cases hd:d.ll with
  | nil=>have:=I.lines; rw [hd] at this; rw [this] at h2; cases h2
  | cons z r=>exact⟨z,r,rfl⟩
 have hsl:s.line=t::r.map (·.1):=by rw [I.lines,hdl]; rfl
 have hin:=I.lin (t,sl) (by rw [hdl]; exact List.mem_cons_self ..)
 have hinl:sl.len=t.2.length:=hin.len
 have htm:t∈log:=List.mem_of_mem_take (h.txs t (List.mem_append_right _ (by rw [hsl]; exact List.mem_cons_self ..)))
 have hok:=L.ok t htm
 have hrow:=I.line
 rw [hdl] at hrow
 have hcap:=hrow.cap_le
 have hlen1:1≤d.line.len:=by rw [hll]; exact h2
 have src:zr w1 d.line 2 (((t,sl)::r).flatMap txC):=hrow.src (l:=[(b_,evV ev0)]++(({d with lb:=[]}:RD).cs σ++fr)) (w0:=⟨W,d.mp σ++m0⟩) (st.perm (za fun f_=>by simp [RD.cs,RD.mp] <;> omega))
 obtain⟨ia,z,hz,hc⟩:=src.getN zKe O_ (i:=0) O_ O_
 obtain rfl:(t,sl)=z:=Option.some.inj hz
 have hc:zc w1 (pblk d.line.ptr) (poff d.line.ptr) (txW t.1 sl):=hc
 refine⟨fun _=>⟨rfl,_,cfx st hb rfl,rfl,d.line,crb st rfl,ia,O_,O_,⟨t.1,sl⟩,hc,fun b1 w2 hb1 hw2=> ?_⟩,fun h=>(by cases h)⟩
 have st:St ⟨W,d.mp σ++m0⟩ ([(b1,txW 0 ⟨none,0,0⟩),(b_,evV ev0)]++(d.cs σ++fr)) w2:=st.alloc (cs:=txW 0 ⟨none,0,0⟩) hb1 hw2
 refine⟨st.writable 0 rfl (by show 0+2≤2; omega),fun w3 hw3 w4 e4=> ?_⟩
 have st:St ⟨W,d.mp σ++m0⟩ ([(b1,txW t.1 sl),(b_,evV ev0)]++(d.cs σ++fr)) w4:=(st.put0 hw3).drew e4
 refine⟨rfl,_,cfx st hb rfl,rfl,_,cfx st hb rfl,rfl,d.line,crb st rfl,⟨O_,O_,O_,O_⟩,fun ln hln=> ?_⟩
 have hcut:=hrow.cut (lo:=1) (hi:=((d.line.len:Nat):Int)) (mx:=((d.line.cap:Nat):Int)) O_ O_ O_ O_ O_
 rw [←hln] at hcut
 have hrl:=hrow.len
 rw [zl zKe,List.length_cons] at hrl
 have ecut:(((((t,sl)::r).flatMap txC).drop ((1:Int).toNat*2)).take ((((d.line.len:Nat):Int).toNat - (1:Int).toNat)*2))=r.flatMap txC:=by
  rw [List.flatMap_cons,List.drop_left' (by rfl),List.take_of_length_le (by rw [zl zKe,Int.toNat_natCast]; show r.length*2≤(d.line.len - 1)*2; omega)]
 rw [ecut] at hcut
 obtain⟨d1,hd1⟩:∃ d1:RD,d1={d with line:=ln,ll:=r}:=⟨_,rfl⟩
 have st':St ⟨W,d.mp σ++m0⟩ ((σ.rb,repV σ d.line d.gone)::(([(b1,txW t.1 sl),(b_,evV ev0)]++(d.fcs++(d.dcs++(d.gcs++(fl d.LB++(fl d.OB++(d.lb++(d.gb++(d.PB++σ.fx)))))))))++fr)) w4:=st.perm (za fun f_=>by simp [RD.cs,RD.mp] <;> omega)
 refine⟨rfl,st'.writable 0 rfl (by show 0+12+1≤18; omega),fun w5 hw5 w6 e6=> ?_⟩
 have st:St ⟨W,d.mp σ++m0⟩ ((σ.rb,repV σ ln d.gone)::(([(b1,txW t.1 sl),(b_,evV ev0)]++(d.fcs++(d.dcs++(d.gcs++(fl d.LB++(fl d.OB++(d.lb++(d.gb++(d.PB++σ.fx)))))))))++fr)) w6:=(st'.put0 hw5).drew e6
 have st:St ⟨W,d1.mp σ++m0⟩ ([(b1,txW t.1 sl),(b_,evV ev0)]++(d1.cs σ++fr)) w6:=by
  subst hd1
  exact st.perm (za fun f_=>by simp [RD.cs,RD.mp] <;> omega)
 have hbs1:d1.LB[i]? =some bs:=by rw [hd1]; exact hbs
 have hPB1:d1.PB=d.PB:=by rw [hd1]
 have stl:St ⟨W,d1.mp σ++m0⟩ (bs++([(b1,txW t.1 sl),(b_,evV ev0)]++(({d1 with LB:=d1.LB.eraseIdx i}:RD).cs σ++fr))) w6:=st.perm (za fun f_=>by have h1_:=zR f_ hbs1; simp [RD.cs,RD.mp] <;> omega)
 have hsr:∀ {l':List zg} {w':World},St ⟨W,d1.mp σ++m0⟩ (l'++([(b1,txW t.1 sl),(b_,evV ev0)]++(({d1 with LB:=d1.LB.eraseIdx i}:RD).cs σ++fr))) w'→zr w' sl 3 (t.2.flatMap wV):=fun {l' w'} st=>by
  refine hin.src (fun c hc=> ?_) st
  have hc:c∈({d1 with LB:=d1.LB.eraseIdx i}:RD).PB:=by rw [hd1]; exact hc
  exact List.mem_append_right _ (List.mem_append_right _ (RD.pbm hc))
 have hsll:sl.len≤140737488351232:=by have:=hok.2.2.1; omega
 refine⟨rfl,p,cfx st hb rfl,⟨t.1,sl⟩,(st.get 0 rfl).all,?_⟩
 refine s_gb (t:=⟨t.1,sl⟩) (ws:=t.2) lo stl hsr hsll hin.cap fun bs' w7 lo' st=> ?_
 have htk:zbh (some ⟨(i:Int)+1,σ.cfg,none⟩) t.1 t.2=(some ⟨(i:Int)+1,σ.cfg,some ⟨t.1,z9 t.2,0,0⟩⟩,0):=by
  unfold zbh
  simp only [if_pos hok]
 rw [htk] at lo'
 obtain⟨hi,hph⟩:=zYm h hsl h1
 have st:St ⟨W,({d1 with LB:=d1.LB.set i bs'}:RD).mp σ++m0⟩ ([(b1,txW t.1 sl),(b_,evV ev0)]++(({d1 with LB:=d1.LB.set i bs'}:RD).cs σ++fr)) w7:=st.perm (za fun f_=>by have h1_:=zJe (y:=bs') f_ hbs1; simp [RD.cs,RD.mp] <;> omega)
 refine⟨t.1,st.cell 0 rfl rfl,st.writable 1 rfl (by show 0+6≤6; omega),fun w8 hw8=> ?_⟩
 have st:=st.put1 hw8
 refine⟨⟨0,0,t.1,0,0,0⟩,(st.get 1 rfl).all,k _ {d1 with LB:=d1.LB.set i bs'} (tkS i t (r.map (·.1)) s) w8 ⟨?_,hi,st.drop1.drop1,L,O_⟩ hph⟩
 subst hd1
 refine { ok:=I.ok,feed:=I.feed,deps:=I.deps,top:=I.top,gate:=I.gate,ll:= ?_,lB:= ?_,lane:=zxe (σ:=σ) I.lane hbs hp lo' ?_,ol:=I.ol,il:=I.il,oB:=I.oB,sB:=I.sB,own:=I.own,qgood:=I.qgood,igood:=I.igood,line:=hcut,lines:=rfl,lin:=fun z hz=>I.lin z (by rw [hdl]; exact List.mem_cons_of_mem _ hz),wok:=I.wok,pend:=I.pend,gone:=I.gone }
 ·show(s.lanes.set i _).length=_
  rw [List.length_set]; exact I.ll
 ·show(d.LB.set i bs').length=_
  rw [List.length_set]; exact I.lB
 ·exact⟨rfl,rfl,rfl,fun x hx=>hok.2.2.2 x (zLd hx),hok.2.1,zqk hok⟩
theorem s_Ib {b i:Nat} {p:OA} {n:Int} {R:T_a→WP} (S:SO W m0 fr σ log fed d s w) (hb:(b,[aP σ.rb,pP p])∈σ.fx) (hp:σ.lp[i]? =some p) (h1:s.lanes[i]? =some (some ⟨n,[],0⟩))
    (k:∀ ev d' s' w',SO W m0 fr σ log fed d' s' w'→phi log fed s'+1=phi log fed s→R ev w'):C_n (some ⟨b,0,none⟩) 6 w R:=by
 obtain⟨I,h,st,L,hb2⟩:=S
 apply S_e
 unfold F_4
 intro b_ w1 hb_ hw1
 have st:St ⟨W,d.mp σ++m0⟩ ([(b_,evV ev0)]++(d.cs σ++fr)) w1:=st.alloc (cs:=evV ev0) hb_ hw1
 obtain⟨p',bs,hh,hp',hbs,lo,lr⟩:=I.lane i _ h1
 obtain rfl:=Option.some.inj (hp.symm.trans hp')
 cases hh with
 | none=>cases lr
 | some hh =>
 obtain⟨j1,j2,j3,jg,jn,ok⟩:=lr
 have j1:n=hh.n:=j1
 have j2:([]:List Wr)=hh.ws.drop hh.sent:=j2
 have j3:0=hh.sent - hh.acked:=j3
 have hs:hh.acked=hh.ws.length:=by
  have:=congrArg List.length j2
  rw [List.length_nil,List.length_drop] at this
  have:=ok.s
  have:=ok.a
  omega
 have hdn:z2f (some ⟨(i:Int)+1,σ.cfg,some hh⟩)=(some ⟨(i:Int)+1,σ.cfg,none⟩,n,0):=by
  unfold z2f
  simp only [if_pos hs,j1]
 have stl:St ⟨W,d.mp σ++m0⟩ (bs++([(b_,evV ev0)]++(({d with LB:=d.LB.eraseIdx i}:RD).cs σ++fr))) w1:=st.perm (za fun f_=>by have h1_:=zR f_ hbs; simp [RD.cs,RD.mp] <;> omega)
 refine⟨fun h=>(by cases h),fun _=>⟨fun h=>(by cases h),fun _=>⟨rfl,p,cfx st hb rfl,s_fb lo stl fun bs' w2 lo' st=> ?_⟩⟩⟩
 rw [hdn] at lo' ⊢
 intro w3 e3
 obtain⟨d1,hd1⟩:∃ d1:RD,d1={d with LB:=d.LB.set i bs'}:=⟨_,rfl⟩
 have st:St ⟨W,d1.mp σ++m0⟩ ([(b_,evV ev0)]++(d1.cs σ++fr)) w3:=by
  subst hd1
  exact(st.perm (za fun f_=>by have h1_:=zJe (y:=bs') f_ hbs; simp [RD.cs,RD.mp] <;> omega)).drew e3
 refine⟨rfl,_,cfx st hb rfl,rfl,_,cfx st hb rfl,rfl,d1.gone,crb st rfl,fun b3 w4 hb3 hw4=> ?_⟩
 have st4:St ⟨W,d1.mp σ++m0⟩ ([(b3,[Vi n]),(b_,evV ev0)]++(d1.cs σ++fr)) w4:=st.alloc (cs:=[Vi n]) hb3 hw4
 refine⟨crb st4 rfl,cfx st4 hb rfl,cfx st4 hb rfl,[Vi n],zwb hb3 hw4 rfl,?_⟩
 have hgl:d1.gone=d.gone:=by rw [hd1]
 have hgn:=I.gone
 have hgl2:=hgn.len
 rw [List.length_map,Nat.mul_one] at hgl2
 have hbn:=(zLm hb2).2
 rw [hgl]
 have st5:St ⟨W,d1.mp σ++m0⟩ (d.gb++([(b_,evV ev0)]++(({d1 with gb:=[]}:RD).cs σ++fr))) w4:=by
  have:=st4.drop1
  subst hd1
  exact this.perm (za fun f_=>by simp [RD.cs,RD.mp] <;> omega)
 refine hgn.append st5 rfl rfl rfl (by show(d.gone.len+1)*8≤_; omega) fun gn gb' w5 ro' st hlen=> ?_
 have st':St ⟨W,d1.mp σ++m0⟩ ((σ.rb,repV σ d1.line d1.gone)::(([(b_,evV ev0)]++(d1.fcs++(d1.dcs++(d1.gcs++(fl d1.LB++(fl d1.OB++(d1.lb++(gb'++(d1.PB++σ.fx)))))))))++fr)) w5:=st.perm (za fun f_=>by simp [RD.cs,RD.mp] <;> omega)
 refine⟨(st'.blk (b,[aP σ.rb,pP p]) (by simp [hb])).cell rfl,rfl,st'.writable 0 rfl (by show 0+14+1≤18; omega),fun w6 hw6=> ?_⟩
 have st:St ⟨W,d1.mp σ++m0⟩ ((σ.rb,repV σ d1.line gn)::(([(b_,evV ev0)]++(d1.fcs++(d1.dcs++(d1.gcs++(fl d1.LB++(fl d1.OB++(d1.lb++(gb'++(d1.PB++σ.fx)))))))))++fr)) w6:=st'.put0 hw6
 have st:St ⟨W,({d1 with gone:=gn,gb:=gb'}:RD).mp σ++m0⟩ ([(b_,evV ev0)]++(({d1 with gone:=gn,gb:=gb'}:RD).cs σ++fr)) w6:=st.perm (za fun f_=>by simp [RD.cs,RD.mp] <;> omega)
 obtain⟨hi,hph⟩:=z0m h h1
 refine⟨st.writable 0 rfl (by show 0+6≤6; omega),fun w7 hw7=> ?_⟩
 have st:=st.put0 hw7
 refine⟨⟨0,0,n,0,0,0⟩,(st.get 0 rfl).all,k _ {d1 with gone:=gn,gb:=gb'} (dnS i n s) w7 ⟨?_,hi,st.drop1,L,O_⟩ hph⟩
 subst hd1
 refine { ok:=I.ok,feed:=I.feed,deps:=I.deps,top:=I.top,gate:=I.gate,ll:= ?_,lB:= ?_,lane:=zxe (σ:=σ) (h':=none) I.lane hbs hp lo' trivial,ol:=I.ol,il:=I.il,oB:=I.oB,sB:=I.sB,own:=I.own,qgood:=I.qgood,igood:=I.igood,line:=I.line,lines:=I.lines,lin:=I.lin,wok:=I.wok,pend:=I.pend,gone:= ?_ }
 ·show(s.lanes.set i _).length=_
  rw [List.length_set]; exact I.ll
 ·show(d.LB.set i bs').length=_
  rw [List.length_set]; exact I.lB
 ·show RowC 1 gn ((s.gone++[n]).map Vi) gb'
  rw [List.map_append]; exact ro'
theorem s_Jb {b i:Nat} {p:OA} {n:Int} {x:Wr} {r:List Wr} {o:Nat} {q:List (Nat×IW)} {R:T_a→WP} (S:SO W m0 fr σ log fed d s w) (hb:(b,[aP σ.rb,pP p])∈σ.fx) (hp:σ.lp[i]? =some p) (h1:s.lanes[i]? =some (some ⟨n,x::r,o⟩)) (h2:s.qs[shN σ.cfg x.Key]? =some q) (h3:q.length<σ.cfg.Queue.toNat)
    (k:∀ ev d' s' w',SO W m0 fr σ log fed d' s' w'→phi log fed s'+1=phi log fed s→R ev w'):C_n (some ⟨b,0,none⟩) 5 w R:=by
 obtain⟨I,h,st,L,hb2⟩:=S
 apply S_e
 unfold F_4
 intro b_ w1 hb_ hw1
 have st:St ⟨W,d.mp σ++m0⟩ ([(b_,evV ev0)]++(d.cs σ++fr)) w1:=st.alloc (cs:=evV ev0) hb_ hw1
 obtain⟨p',bs,hh,hp',hbs,lo,lr⟩:=I.lane i _ h1
 obtain rfl:=Option.some.inj (hp.symm.trans hp')
 cases hh with
 | none=>cases lr
 | some hh =>
 obtain⟨j1,j2,j3,jg,jn,ok⟩:=lr
 have j1:n=hh.n:=j1
 have j2:x::r=hh.ws.drop hh.sent:=j2
 have j3:o=hh.sent - hh.acked:=j3
 have hx:hh.ws[hh.sent]? =some x:=by
  have:=congrArg (fun l=>l[0]?) j2
  simp only [List.getElem?_cons_zero,List.getElem?_drop,Nat.add_zero] at this
  exact this.symm
 have hsl:=(List.getElem?_eq_some_iff.1 hx).1
 have hgx:=jg x (List.mem_of_getElem? hx)
 have hnx:zCc (some ⟨(i:Int)+1,σ.cfg,some hh⟩)=((zvb σ.cfg x.Key).1,z0 ((i:Int)+1) n x,true):=by
  unfold zCc; simp only [hx,j1]
 have hst:zch (some ⟨(i:Int)+1,σ.cfg,some hh⟩)=(some ⟨(i:Int)+1,σ.cfg,some ⟨hh.n,hh.ws,hh.sent+1,hh.acked⟩⟩,0):=by
  unfold zch; simp only [if_pos hsl]
 obtain⟨r1,r2⟩:=z7g I.ok.cfg hgx
 have hcast:(zvb σ.cfg x.Key).1=((shN σ.cfg x.Key:Nat):Int):=by unfold shN; omega
 have stl:St ⟨W,d.mp σ++m0⟩ (bs++([(b_,evV ev0)]++(({d with LB:=d.LB.eraseIdx i}:RD).cs σ++fr))) w1:=st.perm (za fun f_=>by have h1_:=zR f_ hbs; simp [RD.cs,RD.mp] <;> omega)
 refine⟨fun h=>(by cases h),fun _=>⟨fun _=>⟨rfl,p,cfx st hb rfl,s_r lo stl fun w2 st=> ?_⟩,fun h=>(by cases h)⟩⟩
 rw [hnx,hcast]
 intro b2 w3 hb3 hw3
 have st:St ⟨W,d.mp σ++m0⟩ ([(b2,reqV zeroReq),(b_,evV ev0)]++(d.cs σ++fr)) w3:=(st.alloc (cs:=reqV zeroReq) hb3 hw3).perm (List.Perm.symm (za fun f_=>by have h1_:=zR f_ hbs; simp [RD.cs,RD.mp] <;> omega))
 refine⟨st.writable 0 rfl (by show 0+9≤9; omega),fun w4 hw4 w5 e5=> ?_⟩
 have st:St ⟨W,d.mp σ++m0⟩ ([(b2,reqV (z0 ((i:Int)+1) n x)),(b_,evV ev0)]++(d.cs σ++fr)) w5:=(st.put0 hw4).drew e5
 obtain⟨ob,hor,hof⟩:=I.ok.orow
 have hkl:=(List.getElem?_eq_some_iff.1 h2).1
 obtain⟨l,hl⟩:∃ l,s.inst[shN σ.cfg x.Key]? =some l:=⟨_,List.getElem?_eq_getElem (by have:=I.il; omega)⟩
 obtain⟨po,obs,sm,hpo,hobs,hsm,oo⟩:=I.own _ q l h2 hl
 obtain⟨a1,a2,a3⟩:=(hor.srcM (fun c hc=>List.mem_append_right _ (RD.fxm (hof c hc))) st).at1 (i:=shN σ.cfg x.Key) (v:=pP po) (by rw [List.getElem?_map,hpo]; rfl)
 refine⟨rfl,_,cfx st hb rfl,rfl,σ.osl,crb st rfl,a1,O_,O_,po,by rw [Int.toNat_natCast]; exact a3,z0 ((i:Int)+1) n x,(st.get 0 rfl).all,?_⟩
 have stm:St ⟨W,sm++(({d with SB:=d.SB.eraseIdx (shN σ.cfg x.Key)}:RD).mp σ++m0)⟩ ([(b2,reqV (z0 ((i:Int)+1) n x)),(b_,evV ev0)]++(d.cs σ++fr)) w5:=st.mperm (za fun f_=>by have h1_:=zR f_ hsm; simp [RD.cs,RD.mp] <;> omega)
 have sto:St _ (obs++([(b2,reqV (z0 ((i:Int)+1) n x)),(b_,evV ev0)]++(({d with OB:=d.OB.eraseIdx (shN σ.cfg x.Key)}:RD).cs σ++fr))) w5:=stm.perm (za fun f_=>by have h1_:=zR f_ hobs; simp [RD.cs,RD.mp] <;> omega)
 refine s_5 oo sto O_ (by have:=ok.n; omega) hgx (by unfold rqs; rw [List.length_map]; exact h3) fun obs' w6 oo' st=> ?_
 obtain⟨d1,hd1⟩:∃ d1:RD,d1={d with OB:=d.OB.set (shN σ.cfg x.Key) obs'}:=⟨_,rfl⟩
 have st:St ⟨W,d1.mp σ++m0⟩ ([(b2,reqV (z0 ((i:Int)+1) n x)),(b_,evV ev0)]++(d1.cs σ++fr)) w6:=by
  have st1:=st.mperm (mp':=d.mp σ++m0) (List.Perm.symm (za fun f_=>by have h1_:=zR f_ hsm; simp [RD.cs,RD.mp] <;> omega))
  subst hd1
  exact st1.perm (za fun f_=>by have h1_:=zJe (y:=obs') f_ hobs; simp [RD.cs,RD.mp] <;> omega)
 have hbs1:d1.LB[i]? =some bs:=by rw [hd1]; exact hbs
 have stl:St ⟨W,d1.mp σ++m0⟩ (bs++([(b2,reqV (z0 ((i:Int)+1) n x)),(b_,evV ev0)]++(({d1 with LB:=d1.LB.eraseIdx i}:RD).cs σ++fr))) w6:=st.perm (za fun f_=>by have h1_:=zR f_ hbs1; simp [RD.cs,RD.mp] <;> omega)
 refine⟨rfl,p,cfx st hb rfl,s_eb lo stl fun bs' w7 lo' st=> ?_⟩
 rw [hst] at lo'
 have st7:St ⟨W,({d1 with LB:=d1.LB.set i bs'}:RD).mp σ++m0⟩ ([(b2,reqV (z0 ((i:Int)+1) n x)),(b_,evV ev0)]++(({d1 with LB:=d1.LB.set i bs'}:RD).cs σ++fr)) w7:=st.perm (za fun f_=>by have h1_:=zJe (y:=bs') f_ hbs1; simp [RD.cs,RD.mp] <;> omega)
 refine⟨rfl,p,cfx st7 hb rfl,s_f lo' st ?_⟩
 obtain⟨hi,hph⟩:=zZm h h1 h2 rfl h3
 refine⟨st7.writable 1 rfl (by show 0+6≤6; omega),fun w8 hw8=> ?_⟩
 have st:=st7.put1 hw8
 refine⟨⟨0,0,hh.n,((shN σ.cfg x.Key:Nat):Int),0,0⟩,(st.get 1 rfl).all,k _ {d1 with LB:=d1.LB.set i bs'} (sdS i (shN σ.cfg x.Key) n x r o q s) w8 ⟨?_,hi,st.drop1.drop1,L,O_⟩ hph⟩
 subst hd1
 have hown:=zkk (σ:=σ) (q':=q++[(i,n,x)]) (l':=l) (sm':=sm) I.own hobs hsm hpo (by
  have e:rqs (q++[(i,n,x)])=rqs q++[z0 ((i:Int)+1) n x]:=by unfold rqs; rw [List.map_append]; rfl
  rw [e]; exact oo')
 rw [z1i hl,z1i hsm] at hown
 refine { ok:=I.ok,feed:=I.feed,deps:=I.deps,top:=I.top,gate:=I.gate,ll:= ?_,lB:= ?_,lane:=zxe (σ:=σ) I.lane hbs hp lo' ?_,ol:= ?_,il:= ?_,oB:= ?_,sB:=I.sB,own:=hown,qgood:=fun q' hq' z hz=> ?_,igood:=I.igood,line:=I.line,lines:=I.lines,lin:=I.lin,wok:=I.wok,pend:=I.pend,gone:=I.gone }
 ·show(s.lanes.set i _).length=_
  rw [List.length_set]; exact I.ll
 ·show(d.LB.set i bs').length=_
  rw [List.length_set]; exact I.lB
 ·refine⟨j1,?_,?_,jg,jn,⟨by show hh.sent+1≤hh.ws.length; omega,by show hh.acked≤hh.sent+1; have:=ok.a; omega,ok.n,ok.l,ok.k⟩⟩
  ·show r=hh.ws.drop (hh.sent+1)
   have:=congrArg (fun l=>l.drop 1) j2
   simpa [List.drop_drop] using this
  ·show o+1=hh.sent+1 - hh.acked
   have:=ok.a; omega
 ·show(s.qs.set _ _).length=_
  rw [List.length_set]; exact I.ol
 ·show s.inst.length=(s.qs.set _ _).length
  rw [List.length_set]; exact I.il
 ·show(d.OB.set _ obs').length=_
  rw [List.length_set]; exact I.oB
 ·rcases mem_set hq' with rfl | hq'
  ·rcases List.mem_append.1 hz with hz | hz
   ·exact I.qgood q (List.mem_of_getElem? h2) z hz
   ·have:z=(i,n,x):=by simpa using hz
    rw [this]
    exact⟨hgx,by have:=ok.n; show 1≤n; omega,by show n≤65536; omega⟩
  ·exact I.qgood q' hq' z hz
end
set_option maxHeartbeats 4000000
/-! ### What a shard has of what was installed -/
theorem zLe (l:List IW) (z:IW):zKd (l++[z])=(zKd l).put z.2.Key (zJd z):=by unfold zKd; rw [List.foldl_append]; rfl
theorem zVf {α:Type} {P:List α→Prop} (h0:P []) (h1:∀ l x,P l→P (l++[x])) (l:List α):P l:=by
 have:∀ r:List α,P r.reverse:=fun r=>by
  induction r with
  | nil=>exact h0
  | cons x r ih=>rw [List.reverse_cons]; exact h1 _ _ ih
 have:=this l.reverse
 rwa [List.reverse_reverse] at this
theorem mem_put {M:SM} {k j:ByteArray} {x y:Ver}:y∈(M.put k x) j↔(j=k∧y=x)∨y∈M j:=by
 unfold SM.put
 by_cases h:j=k
 ·subst h
  rw [if_pos rfl]
  unfold zKh
  rw [List.mem_append,List.mem_cons]
  constructor
  ·rintro(h | h | h)
   ·exact .inr (List.mem_of_mem_take h)
   ·exact .inl ⟨rfl,h⟩
   ·exact .inr (List.mem_of_mem_drop h)
  ·rintro(⟨_,h⟩ | h)
   ·exact .inr (.inl h)
   ·rw [←List.take_append_drop (upF x.Number (M j)) (M j)] at h
    rcases List.mem_append.1 h with h | h
    ·exact .inl h
    ·exact .inr (.inr h)
 ·rw [if_neg h]
  exact⟨.inr,fun hh=>hh.resolve_left fun e=>h e.1⟩
theorem zMj {x:Ver} {vs:List Ver} (hr:z1d vs) (hn:∀ y∈vs,y.Number≠x.Number):z1d (zKh x vs):=by
 have hd:∀ y∈vs.drop (upF x.Number vs),x.Number<y.Number:=fun y hy=>by
  obtain⟨j,hj⟩:=List.mem_iff_getElem?.1 hy
  rw [List.getElem?_drop] at hj
  have:=(zqd (at_:=x.Number) hr hj)
  omega
 have ht:∀ y∈vs.take (upF x.Number vs),y.Number<x.Number:=fun y hy=>by
  obtain⟨j,hj⟩:=List.mem_iff_getElem?.1 hy
  have hm:=List.mem_of_mem_take hy
  rw [List.getElem?_take] at hj
  split at hj
  ·rename_i hlt
   have:=(zqd (at_:=x.Number) hr hj).2 hlt
   have:=hn y hm
   omega
  ·cases hj
 unfold zKh z1d
 refine List.pairwise_append.2 ⟨hr.sublist (List.take_sublist _ _),List.pairwise_cons.2 ⟨hd,hr.sublist (List.drop_sublist _ _)⟩,fun a ha b hb=> ?_⟩
 rcases List.mem_cons.1 hb with rfl | hb
 ·exact ht a ha
 ·have:=ht a ha
  have:=hd b hb
  omega
theorem zic {k:ByteArray} {y:Ver}:∀ l:List IW,y∈zKd l k↔∃ z∈l,z.2.Key=k∧y=zJd z:=by
 refine zVf ⟨fun h=>(by cases h),fun⟨z,hz,_⟩=>(by cases hz)⟩ fun l x ih=> ?_
 rw [zLe,mem_put,ih]
 constructor
 ·rintro(⟨h1,h2⟩ | ⟨z,hz,h⟩)
  ·exact⟨x,by simp,h1.symm,h2⟩
  ·exact⟨z,List.mem_append_left _ hz,h⟩
 ·rintro⟨z,hz,h1,h2⟩
  rcases List.mem_append.1 hz with hz | hz
  ·exact .inr ⟨z,hz,h1,h2⟩
  ·have:z=x:=by simpa using hz
   subst this
   exact .inl ⟨h1.symm,h2⟩
abbrev zys (l:List IW):Prop:=l.Pairwise fun x y=>x.2.Key=y.2.Key→x.1≠y.1
abbrev zjo (z:IW):Prop:=zPc z.2∧1≤z.1∧z.1≤65536
theorem znn {z:IW} (h:zjo z):mayV (zJd z)=true:=by
 obtain⟨⟨_,_,h3,h4⟩,h1,h2⟩:=h
 have h3:(zJd z).Val.size≤1024:=h3
 have h1:1≤(zJd z).Number:=h1
 have h2:(zJd z).Number≤65536:=h2
 have h4:(zJd z).Drop=true→(zJd z).Val.size=0:=h4
 unfold mayV
 rw [decide_eq_true h1,decide_eq_true h2,decide_eq_true h3]
 cases hd:(zJd z).Drop with
 | false=>rfl
 | true=>rw [decide_eq_true (h4 hd)]; rfl
theorem zWf {k:ByteArray}:∀ l:List IW,zys l→(∀ z∈l,zjo z)→okC 0 (zKd l k)=true∧(zKd l k).length≤l.length:=by
 refine zVf (fun _ _=>⟨rfl,Nat.zero_le _⟩) fun l x ih ha hg=> ?_
 obtain⟨a1,_,a3⟩:=List.pairwise_append.1 ha
 obtain⟨ok,len⟩:=ih a1 fun z hz=>hg z (List.mem_append_left _ hz)
 have hx:=hg x (by simp)
 rw [zLe]
 unfold SM.put
 by_cases h:k=x.2.Key
 ·subst h
  rw [if_pos rfl]
  obtain⟨hr,hm⟩:=zHe.1 ok
  refine⟨zHe.2 ⟨zMj hr fun y hy e=> ?_,fun v hv=> ?_⟩,?_⟩
  ·obtain⟨z,hz,h1,rfl⟩:=(zic l).1 hy
   exact a3 z hz x (by simp) h1 e
  ·have hv:v∈(zKd l).put x.2.Key (zJd x) x.2.Key:=by unfold SM.put; rw [if_pos rfl]; exact hv
   rcases mem_put.1 hv with ⟨_,rfl⟩ | hv
   ·exact⟨by have:=hx.2.1; show 0<x.1; omega,znn hx⟩
   ·exact hm v hv
  ·unfold zKh
   rw [List.length_append,List.length_cons,List.length_take,List.length_drop,List.length_append]
   simp only [List.length_cons,List.length_nil]
   omega
 ·rw [if_neg h]
  exact⟨ok,by rw [List.length_append]; omega⟩
theorem z2d {log:List Tx} {fed cap:Nat} {sh:ByteArray→Nat} {s:TS} (L:zcc log) (h:TInv log fed cap sh s) {k:Nat} {l:List IW} (hl:s.inst[k]? =some l):zys l:=by
 refine List.pairwise_iff_getElem.2 fun i j hi hj hij hk he=> ?_
 obtain⟨f,hf⟩:∃ f:IW→Nat,f=fun y=>if y.1=l[i].1∧y.2.Key=l[i].2.Key then 1 else 0:=⟨_,rfl⟩
 have ht:=zgh (fed:=fed) L (z:=l[i])
 rw [←hf,←h.all] at ht
 have h1:=zpb (f:=fun l:List IW=>sm f l) (List.mem_of_getElem? hl)
 have h2:=zrn (f:=f) (List.getElem?_eq_getElem hi) (List.getElem?_eq_getElem hj) O_
 have f1:f l[i]=1:=by rw [hf]; exact if_pos ⟨rfl,rfl⟩
 have f2:f l[j]=1:=by rw [hf]; exact if_pos ⟨he.symm,hk.symm⟩
 omega
theorem zXf {log:List Tx} {fed cap:Nat} {sh:ByteArray→Nat} {s:TS} (L:zcc log) (h:TInv log fed cap sh s) {k:Nat} {l:List IW} (hl:s.inst[k]? =some l):l.length≤4521984:=by
 have h1:=zpb (f:=fun l:List IW=>sm (fun _=>1) l) (List.mem_of_getElem? hl)
 have ha:=h.all fun _=>1
 have one:∀ {α:Type} (l:List α),sm (fun _=>1) l=l.length:=fun l=>by
  induction l with
  | nil=>rfl
  | cons x l ih=>rw [sm_cons,ih,List.length_cons]; omega
 have ht:zQe log fed (fun _=>1)≤sm (fun t=>5+2*cw t) (log.take fed):=zVm fun t _=>by
  rw [one]
  unfold prs
  rw [List.length_map]
  show cw t≤_
  omega
 have hp:=zvk L fed
 have hlen:=L.len
 rw [one] at h1
 omega
section
variable {W:World} {m0:List (Nat×Obj)} {w:World} {fr:List zg} {σ:RS} {d:RD} {log:List Tx} {fed:Nat} {s:TS}
theorem s_yb {b i j:Nat} {p:OA} {z:IW} {r:List (Nat×IW)} {t1:Int} {R:T_a→WP} (S:SO W m0 fr σ log fed d s w) (hb:(b,[aP σ.rb,pP p,Vi (i:Int)])∈σ.fx) (hp:σ.op[i]? =some p) (h1:s.qs[i]? =some ((j,z)::r))
    (k:∀ ev d' s' w',SO W m0 fr σ log fed d' s' w'→phi log fed s'+1=phi log fed s→R ev w'):C_4 (some ⟨b,0,none⟩) t1 w R:=by
 obtain⟨I,h,st,L,hb2⟩:=S
 apply S_K
 unfold F_3b
 intro b_ w1 hb_ hw1
 have st:St ⟨W,d.mp σ++m0⟩ ([(b_,evV ev0)]++(d.cs σ++fr)) w1:=st.alloc (cs:=evV ev0) hb_ hw1
 obtain⟨left,out,l,hlane,hl,hne⟩:=zZh L h h1
 obtain⟨p',obs,sm,hp',hobs,hsm,oo⟩:=I.own i _ l h1 hl
 obtain rfl:=Option.some.inj (hp.symm.trans hp')
 have hgz:zjo z:=I.qgood _ (List.mem_of_getElem? h1) (j,z) (List.mem_cons_self ..)
 have hap:=z2d L h hl
 obtain⟨mok,mlen⟩:=zWf (k:=z.2.Key) l hap (I.igood l (List.mem_of_getElem? hl))
 have hll:=zXf L h hl
 refine⟨rfl,p,cfx st hb rfl,?_⟩
 have stm:St ⟨W,sm++(({d with SB:=d.SB.eraseIdx i}:RD).mp σ++m0)⟩ ([(b_,evV ev0)]++(d.cs σ++fr)) w1:=st.mperm (za fun f_=>by have h1_:=zR f_ hsm; simp [RD.cs,RD.mp] <;> omega)
 have sto:St _ (obs++([(b_,evV ev0)]++(({d with OB:=d.OB.eraseIdx i}:RD).cs σ++fr))) w1:=stm.perm (za fun f_=>by have h1_:=zR f_ hobs; simp [RD.cs,RD.mp] <;> omega)
 refine s_H (num:=(j:Int)+1) (n:=z.1) (x:=z.2) (q:=rqs r) oo sto ⟨hgz.1.1,hgz.1.2.1⟩ (znn hgz) mok O_ (fun y hy e=> ?_) fun sm' obs' w2 oo' st=> ?_
 ·obtain⟨z',hz',h2,rfl⟩:=(zic l).1 hy
  exact hne z' hz' h2 e
 obtain⟨d1,hd1⟩:∃ d1:RD,d1={d with OB:=d.OB.set i obs',SB:=d.SB.set i sm'}:=⟨_,rfl⟩
 have st:St ⟨W,d1.mp σ++m0⟩ ([(b_,evV ev0)]++(d1.cs σ++fr)) w2:=by
  have st1:=st.mperm (mp':=({d with SB:=d.SB.set i sm'}:RD).mp σ++m0) (za fun f_=>by have h1_:=zJe (y:=sm') f_ hsm; simp [RD.cs,RD.mp] <;> omega)
  subst hd1
  exact st1.perm (za fun f_=>by have h1_:=zJe (y:=obs') f_ hobs; simp [RD.cs,RD.mp] <;> omega)
 intro b1 w3 hb1 hw3
 have st:=st.alloc (cs:=zub ⟨0,false,⟨none,0,0⟩,⟨none,0,0⟩,0⟩) hb1 hw3
 refine⟨st.writable 0 rfl (by show 0+5≤5; omega),fun w4 hw4=> ?_⟩
 have st:St ⟨W,d1.mp σ++m0⟩ ([(b1,zub (zDb ((j:Int)+1))),(b_,evV ev0)]++(d1.cs σ++fr)) w4:=st.put0 hw4
 obtain⟨lp,bs,hh,hlp,hbs,lo,lr⟩:=I.lane j _ hlane
 have hjl:=(List.getElem?_eq_some_iff.1 hlp).1
 obtain⟨lb,hlr,hlf⟩:=I.ok.lrow
 obtain⟨a1,a2,a3⟩:=(hlr.srcM (fun c hc=>List.mem_append_right _ (RD.fxm (hlf c hc))) st).at1 (i:=j) (v:=pP lp) (by rw [List.getElem?_map,hlp]; rfl)
 have hln:σ.lp.length≤16:=by have:=I.ok.ln; have:=(z1 I.ok.cfg).1; omega
 have wj:IntKind.i64.wrap (((j:Int)+1) - 1)=(j:Int):=by rw [i64_in _ O_ O_]; omega
 refine⟨(j:Int)+1,st.cell 0 rfl rfl,fun _=>⟨rfl,_,cfx st hb rfl,rfl,σ.lsl,crb st rfl,(j:Int)+1,st.cell 0 rfl rfl,a1,?_⟩,fun hh=>(by have:=of_decide_eq_false hh; omega)⟩
 rw [wj]
 refine⟨O_,O_,lp,by rw [Int.toNat_natCast]; exact a3,fun w5 e5=> ?_⟩
 have st:=st.keep e5
 cases hh with
 | none=>cases lr
 | some hh =>
 obtain⟨j1,j2,j3,jg,jn,ok⟩:=lr
 have j1:z.1=hh.n:=j1
 have j2:left=hh.ws.drop hh.sent:=j2
 have j3:out+1=hh.sent - hh.acked:=j3
 have hlt:hh.acked<hh.sent:=O_
 have hak:zge (some ⟨(j:Int)+1,σ.cfg,some hh⟩)=(some ⟨(j:Int)+1,σ.cfg,some ⟨hh.n,hh.ws,hh.sent,hh.acked+1⟩⟩,0):=by
  unfold zge; simp only [if_pos hlt]
 have hbs1:d1.LB[j]? =some bs:=by rw [hd1]; exact hbs
 have stl:St ⟨W,d1.mp σ++m0⟩ (bs++([(b1,zub (zDb ((j:Int)+1))),(b_,evV ev0)]++(({d1 with LB:=d1.LB.eraseIdx j}:RD).cs σ++fr))) w5:=st.perm (za fun f_=>by have h1_:=zR f_ hbs1; simp [RD.cs,RD.mp] <;> omega)
 refine s_T lo stl fun bs' w6 lo' st w7 e7=> ?_
 rw [hak] at lo'
 have st:=st.drew e7
 have st7:St ⟨W,({d1 with LB:=d1.LB.set j bs'}:RD).mp σ++m0⟩ ([(b1,zub (zDb ((j:Int)+1))),(b_,evV ev0)]++(({d1 with LB:=d1.LB.set j bs'}:RD).cs σ++fr)) w7:=st.perm (za fun f_=>by have h1_:=zJe (y:=bs') f_ hbs1; simp [RD.cs,RD.mp] <;> omega)
 refine⟨rfl,(i:Int),cfx st7 hb rfl,s_f lo' st ⟨cfx st7 hb rfl,st7.writable 1 rfl (by show 0+6≤6; omega),fun w8 hw8=> ?_⟩⟩
 have st:=st7.put1 hw8
 obtain⟨hi,hph⟩:=zuk h h1 hlane hl
 refine⟨⟨0,0,hh.n,(i:Int),0,0⟩,(st.get 1 rfl).all,k _ {d1 with LB:=d1.LB.set j bs'} (svS i j z r left out l s) w8 ⟨?_,hi,st.drop1.drop1,L,O_⟩ hph⟩
 subst hd1
 have hown:=zkk (σ:=σ) (q':=r) (l':=l++[z]) I.own hobs hsm hp (by rw [zLe]; exact oo')
 refine { ok:=I.ok,feed:=I.feed,deps:=I.deps,top:=I.top,gate:=I.gate,ll:= ?_,lB:= ?_,lane:=zxe (σ:=σ) I.lane hbs hlp lo' ?_,ol:= ?_,il:= ?_,oB:= ?_,sB:= ?_,own:=hown,qgood:=fun q' hq' y hy=> ?_,igood:=fun l' hl' y hy=> ?_,line:=I.line,lines:=I.lines,lin:=I.lin,wok:=I.wok,pend:=I.pend,gone:=I.gone }
 ·show(s.lanes.set j _).length=_
  rw [List.length_set]; exact I.ll
 ·show(d.LB.set j bs').length=_
  rw [List.length_set]; exact I.lB
 ·refine⟨j1,j2,?_,jg,jn,⟨ok.s,by show hh.acked+1≤hh.sent; omega,ok.n,ok.l,ok.k⟩⟩
  show out=hh.sent - (hh.acked+1)
  omega
 ·show(s.qs.set i r).length=_
  rw [List.length_set]; exact I.ol
 ·show(s.inst.set i _).length=(s.qs.set i _).length
  rw [List.length_set,List.length_set]; exact I.il
 ·show(d.OB.set i obs').length=_
  rw [List.length_set]; exact I.oB
 ·show(d.SB.set i sm').length=_
  rw [List.length_set]; exact I.sB
 ·rcases mem_set hq' with rfl | hq'
  ·exact I.qgood _ (List.mem_of_getElem? h1) y (List.mem_cons_of_mem _ hy)
  ·exact I.qgood q' hq' y hy
 ·rcases mem_set hl' with rfl | hl'
  ·rcases List.mem_append.1 hy with hy | hy
   ·exact I.igood l (List.mem_of_getElem? hl) y hy
   ·have:y=z:=by simpa using hy
    rw [this]; exact hgz
  ·exact I.igood l' hl' y hy
end
set_option maxHeartbeats 4000000
theorem zNj {log:List Tx} {fed cap:Nat} {sh:ByteArray→Nat} {s:TS} (h:TInv log fed cap sh s):s.pend.Pairwise fun x y=>x.1≠y.1 :=
 List.pairwise_iff_getElem.2 fun i j hi hj hij he=>by
  have ho:=h.opn (one1 s.pend[i].1)
  have h1:=z4f (x:=s.pend[i].1) h.nod
  have h2:=zrn (f:=fun t:Tx=>one1 s.pend[i].1 t.1) (List.getElem?_eq_getElem hi) (List.getElem?_eq_getElem hj) O_
  have e1:one1 s.pend[i].1 s.pend[i].1=1:=if_pos rfl
  have e2:one1 s.pend[i].1 s.pend[j].1=1:=if_pos he.symm
  simp only [e1,e2] at h2
  omega
theorem zOj {α:Type} {a b:List α} (ha:a.Nodup) (hb:b.Nodup) (h:∀ x,x∈a↔x∈b):a.Perm b:=by
 classical
 refine List.perm_iff_count.2 fun x=> ?_
 by_cases hx:x∈a
 ·rw [List.Nodup.count ha,List.Nodup.count hb,if_pos hx,if_pos ((h x).1 hx)]
 ·rw [List.count_eq_zero.2 hx,List.count_eq_zero.2 fun hb=>hx ((h x).2 hb)]
section
variable {W:World} {m0:List (Nat×Obj)} {w:World} {fr:List zg} {σ:RS} {d:RD} {log:List Tx} {fed:Nat} {s:TS}
theorem s_Kb {b:Nat} {x:Int} {r:List Int} {t1:Int} {R:T_a→WP} (S:SO W m0 fr σ log fed d s w) (hb:(b,[aP σ.rb])∈σ.fx) (h1:s.gone=x::r)
    (k:∀ ev d' s' w',SO W m0 fr σ log fed d' s' w'→phi log fed s'+1=phi log fed s→R ev w'):C_G (some ⟨b,0,none⟩) t1 w R:=by
 obtain⟨I,h,st,L,hb2⟩:=S
 apply S_L
 unfold F_5b
 intro b_ w1 hb_ hw1
 have st:St ⟨W,d.mp σ++m0⟩ ([(b_,evV ev0)]++(d.cs σ++fr)) w1:=st.alloc (cs:=evV ev0) hb_ hw1
 obtain⟨n,rfl,n1,n2,n3,n4,hno,hnW⟩:=zBf h L h1
 have hrow:=I.gone
 rw [h1] at hrow
 have hcap:=hrow.cap_le
 have hrl:=hrow.len
 rw [List.length_map,List.length_cons,Nat.mul_one] at hrl
 have src:zr w1 d.gone 1 (((n:Int)::r).map Vi):=hrow.src (l:=[(b_,evV ev0)]++(({d with gb:=[]}:RD).cs σ++fr)) (w0:=⟨W,d.mp σ++m0⟩) (st.perm (za fun f_=>by simp [RD.cs,RD.mp] <;> omega))
 obtain⟨ia,_,hc⟩:=src.at1 (i:=0) (v:=Vi (n:Int)) rfl
 refine⟨rfl,_,cfx st hb rfl,rfl,d.gone,crb st rfl,ia,O_,O_,(n:Int),hc,fun w2 e2=> ?_⟩
 have st:=st.drew e2
 refine⟨rfl,_,cfx st hb rfl,rfl,_,cfx st hb rfl,rfl,d.gone,crb st rfl,⟨O_,O_,O_,O_⟩,fun gn hgn=> ?_⟩
 have hcut:=hrow.cut (lo:=1) (hi:=((d.gone.len:Nat):Int)) (mx:=((d.gone.cap:Nat):Int)) O_ O_ O_ O_ O_
 rw [←hgn] at hcut
 have ecut:((((n:Int)::r).map Vi).drop ((1:Int).toNat*1)).take ((((d.gone.len:Nat):Int).toNat - (1:Int).toNat)*1)=r.map Vi:=by
  rw [List.map_cons]
  show(r.map Vi).take _=_
  rw [List.take_of_length_le (by rw [List.length_map,Int.toNat_natCast]; show r.length≤(d.gone.len - 1)*1; omega)]
 rw [ecut] at hcut
 have st':St ⟨W,d.mp σ++m0⟩ ((σ.rb,repV σ d.line d.gone)::(([(b_,evV ev0)]++(d.fcs++(d.dcs++(d.gcs++(fl d.LB++(fl d.OB++(d.lb++(d.gb++(d.PB++σ.fx)))))))))++fr)) w2:=st.perm (za fun f_=>by simp [RD.cs,RD.mp] <;> omega)
 refine⟨rfl,st'.writable 0 rfl (by show 0+14+1≤18; omega),fun w3 hw3=> ?_⟩
 have st:St ⟨W,d.mp σ++m0⟩ ((σ.rb,repV σ d.line gn)::(([(b_,evV ev0)]++(d.fcs++(d.dcs++(d.gcs++(fl d.LB++(fl d.OB++(d.lb++(d.gb++(d.PB++σ.fx)))))))))++fr)) w3:=st'.put0 hw3
 have st:St ⟨W,d.mp σ++m0⟩ ([(b_,evV ev0)]++(({d with gone:=gn}:RD).cs σ++fr)) w3:=st.perm (za fun f_=>by simp [RD.cs,RD.mp] <;> omega)
 refine⟨rfl,_,cfx st hb rfl,rfl,σ.dp,crb st rfl,?_⟩
 have std:St ⟨W,d.dm++(({d with dm:=[]}:RD).mp σ++m0)⟩ (d.dcs++([(b_,evV ev0)]++(({d with gone:=gn,dcs:=[]}:RD).cs σ++fr))) w3:=(st.perm (za fun f_=>by simp [RD.cs,RD.mp] <;> omega)).mperm (za fun f_=>by simp [RD.cs,RD.mp] <;> omega)
 refine s_Y I.deps std hno hnW h.nod fun F free frb dm' dcs' w4 hFn hF fro dpo st=> ?_
 obtain⟨Fs,hFs⟩:∃ Fs,Fs=F.mergeSort fun x y=>decide (x≤y):=⟨_,rfl⟩
 rw [←hFs] at fro
 have hFp:Fs.Perm F:=by rw [hFs]; exact List.mergeSort_perm _ _
 have hFsn:Fs.Nodup:=hFp.nodup_iff.2 hFn
 have hFsm:∀ y,y∈Fs↔(y,(n:Int))∈s.W∧∀ p∈s.W,p.1=y→p.2=(n:Int):=fun y=>hFp.mem_iff.trans (hF y)
 have hfl:=fro.len
 rw [List.length_map,Nat.mul_one] at hfl
 obtain⟨d1,hd1⟩:∃ d1:RD,d1={d with gone:=gn,dcs:=dcs',dm:=dm'}:=⟨_,rfl⟩
 have st:St ⟨W,d1.mp σ++m0⟩ (([(b_,evV ev0)]++frb)++(d1.cs σ++fr)) w4:=by
  subst hd1
  exact(st.perm (za fun f_=>by simp [RD.cs,RD.mp] <;> omega)).mperm (za fun f_=>by simp [RD.cs,RD.mp] <;> omega)
 have hPF:∀ y∈Fs,∃ t∈s.pend,t.1=y:=fun y hy=>by
  obtain⟨t,ht,e⟩:=List.mem_map.1 (h.wp _ ((hFsm y).1 hy).1)
  exact⟨t,ht,e⟩
 have hFl:Fs.length≤s.pend.length:=by
  have hs:Fs.length≤(s.pend.map (·.1)).length:=List.Nodup.length_le_of_subset hFsn fun y hy=>by
   obtain⟨t,ht,e⟩:=hPF y hy
   exact List.mem_map.2 ⟨t,ht,e⟩
  rwa [List.length_map] at hs
 have hbnd:s.pend.length*3+s.line.length*3≤4521984:=by
  have:∀ l:List Tx,l.length*3≤sm (fun t=>3+2*cw t) l:=fun l=>by
   induction l with
   | nil=>exact Nat.zero_le _
   | cons x l ih=>rw [sm_cons,List.length_cons]; omega
  have a1:=this s.pend
  have a2:=this s.line
  unfold phi at hb2
  omega
 have hll:=zwe I
 have hlll:d.ll.length=s.line.length:=by rw [I.lines,List.length_map]
 refine⟨fun i w'=>∃(p:Nat) (T:List (Tx×Slc)) (ln:Slc) (lb':List zg) (we':Array MapEntry) (wc':Nat),i=(p:Int)∧p≤free.len∧T.map (fun z=>z.1.1)=Fs.take p∧(∀ z∈T,z.1∈s.pend∧InW d.PB z.2 z.1.2)∧RowC 2 ln ((d.ll++T).flatMap txC) lb'∧MOk isKI we' wc'∧(∀ y,y∉Fs.take p→zK we' (Vi y)=zK d.we (Vi y)) ∧
  St ⟨W,({d1 with we:=we',wc:=wc'}:RD).mp σ++m0⟩ (([(b_,evV ev0)]++frb)++(({d1 with lb:=lb',line:=ln,we:=we',wc:=wc'}:RD).cs σ++fr)) w',fun i _=>free.len - i.toNat,
  ⟨0,[],d.line,d.lb,d.we,d.wc,rfl,O_,rfl,fun z hz=>(by cases hz),by simpa using I.line,I.wok,fun _ _=>rfl,by subst hd1; exact st⟩,?_⟩
 clear st st'
 rintro i w5 ⟨p,T,ln,lb',we',wc',rfl,hp,hT1,hT2,lro,wok,wlk,st⟩
 have hTl:T.length=p:=by
  have:=congrArg List.length hT1
  rw [List.length_map,List.length_take] at this
  omega
 have hlnl:=lro.len
 rw [zl zKe,List.length_append] at hlnl
 unfold F_9
 refine⟨fun hi=> ?_,fun hi=> ?_⟩
 ·have hi:=of_decide_eq_true hi
  have hpF:p<Fs.length:=O_
  obtain⟨y,hy⟩:∃ y,Fs[p]? =some y:=⟨_,List.getElem?_eq_getElem hpF⟩
  have hym:=List.mem_of_getElem? hy
  obtain⟨t,ht,hty⟩:=hPF y hym
  obtain⟨sl,hlk,hin⟩:=I.pend t ht
  rw [hty] at hlk
  have hyn:y∉Fs.take p:=fun hm=>by
   obtain⟨q,hq⟩:=List.mem_iff_getElem?.1 hm
   rw [List.getElem?_take] at hq
   split at hq
   ·have:=(List.getElem?_inj (List.getElem?_eq_some_iff.1 hq).1 hFsn).1 (hq.trans hy.symm)
    omega
   ·cases hq
  have hlk':zK we' (Vi y)=some (.agg #[Vi y,Vs sl]):=(wlk y hyn).trans hlk
  have src:zr w5 free 1 (Fs.map Vi):=fro.srcM (fun c hc=>by simp [hc]) st
  obtain⟨ia,_,hc⟩:=src.at1 (i:=p) (v:=Vi y) (by rw [List.getElem?_map,hy]; rfl)
  refine⟨ia,O_,hi,y,by rw [Int.toNat_natCast]; exact hc,fun w6 e6=> ?_⟩
  have st:=st.drew e6
  have stm:St ⟨W,(σ.wm,.map we' wc')::(σ.fv.mp++(d1.dm++(fl d1.SB++m0)))⟩ (([(b_,evV ev0)]++frb)++(({d1 with lb:=lb',line:=ln,we:=we',wc:=wc'}:RD).cs σ++fr)) w6:=st.mperm (za fun f_=>by simp [RD.cs,RD.mp] <;> omega)
  refine⟨rfl,_,cfx st hb rfl,rfl,_,cfx st hb rfl,rfl,ln,crb st rfl,rfl,_,cfx st hb rfl,rfl,some σ.wm,crb st rfl,we',⟨y,sl⟩,true,.inr ⟨σ.wm,wc',rfl,stm.objAt 0 rfl⟩,wok.all,wok.nodup,⟨_,rfl⟩,MOk.lkIs' (by rw [hlk']; rfl) (by rw [hlk']; rfl),fun b1 w7 hb1 hw7=> ?_⟩
  have st7:St ⟨W,({d1 with we:=we',wc:=wc'}:RD).mp σ++m0⟩ (([(b1,txW y sl),(b_,evV ev0)]++frb)++(({d1 with lb:=lb',line:=ln,we:=we',wc:=wc'}:RD).cs σ++fr)) w7:=st.alloc (cs:=txW y sl) hb1 hw7
  refine⟨crb st7 rfl,cfx st7 hb rfl,cfx st7 hb rfl,txW y sl,zob hb1 hw7 rfl,?_⟩
  have st8:St ⟨W,({d1 with we:=we',wc:=wc'}:RD).mp σ++m0⟩ (lb'++(([(b_,evV ev0)]++frb)++(({d1 with lb:=[],line:=ln,we:=we',wc:=wc'}:RD).cs σ++fr))) w7:=(St.drop1 st7).perm (za fun f_=>by simp [RD.cs,RD.mp] <;> omega)
  refine lro.append st8 rfl rfl rfl (by show(ln.len+1)*32≤_; omega) fun ln2 lb2 w8 lro2 st hlen=> ?_
  have st':St ⟨W,({d1 with we:=we',wc:=wc'}:RD).mp σ++m0⟩ ((σ.rb,repV σ ln d1.gone)::((([(b_,evV ev0)]++frb)++(d1.fcs++(d1.dcs++(d1.gcs++(fl d1.LB++(fl d1.OB++(lb2++(d1.gb++(d1.PB++σ.fx)))))))))++fr)) w8:=st.perm (za fun f_=>by simp [RD.cs,RD.mp] <;> omega)
  refine⟨(st'.blk (b,[aP σ.rb]) (by simp [hb])).cell rfl,rfl,st'.writable 0 rfl (by show 0+12+1≤18; omega),fun w9 hw9=> ?_⟩
  have st:St ⟨W,({d1 with we:=we',wc:=wc'}:RD).mp σ++m0⟩ ((σ.rb,repV σ ln2 d1.gone)::((([(b_,evV ev0)]++frb)++(d1.fcs++(d1.dcs++(d1.gcs++(fl d1.LB++(fl d1.OB++(lb2++(d1.gb++(d1.PB++σ.fx)))))))))++fr)) w9:=st'.put0 hw9
  have st:St ⟨W,({d1 with we:=we',wc:=wc'}:RD).mp σ++m0⟩ (([(b_,evV ev0)]++frb)++(({d1 with lb:=lb2,line:=ln2,we:=we',wc:=wc'}:RD).cs σ++fr)) w9:=st.perm (za fun f_=>by simp [RD.cs,RD.mp] <;> omega)
  have stm:St ⟨W,(σ.wm,.map we' wc')::(σ.fv.mp++(d1.dm++(fl d1.SB++m0)))⟩ (([(b_,evV ev0)]++frb)++(({d1 with lb:=lb2,line:=ln2,we:=we',wc:=wc'}:RD).cs σ++fr)) w9:=st.mperm (za fun f_=>by simp [RD.cs,RD.mp] <;> omega)
  refine⟨rfl,_,cfx st hb rfl,rfl,some σ.wm,crb st rfl,σ.wm,we',wc',rfl,stm.objAt 0 rfl,wok.all,⟨_,rfl⟩,fun es2 w10 hdel hw10=> ?_⟩
  have stm:=stm.mset0 hw10
  obtain⟨wok2,va,vb,_,_⟩:=wok.del hdel
  have wp:IntKind.i64.wrap ((p:Int)+1)=((p+1:Nat):Int):=by rw [i64_in _ O_ O_]; omega
  rw [wp]
  have htk:Fs.take (p+1)=Fs.take p++[y]:=by rw [List.take_add_one,hy]; rfl
  refine⟨⟨p+1,T++[(t,sl)],ln2,lb2,es2,wc',rfl,O_,by rw [List.map_append,hT1,htk,←hty]; rfl,fun z hz=> ?_,?_,wok2,fun y' hy'=> ?_,stm.mperm (za fun f_=>by simp [RD.cs,RD.mp] <;> omega)⟩,by show _ - _<_ - _; omega⟩
  ·rcases List.mem_append.1 hz with hz | hz
   ·exact hT2 z hz
   ·have:z=(t,sl):=by simpa using hz
    rw [this]; exact⟨ht,hin⟩
  ·rw [←List.append_assoc,List.flatMap_append]
   have e:[(t,sl)].flatMap txC=txW y sl:=by rw [List.flatMap_cons,List.flatMap_nil,List.append_nil]; show txW t.1 sl=_; rw [hty]
   rw [e]; exact lro2
  ·rw [htk] at hy'
   have h1:y'∉Fs.take p:=fun hh=>hy' (List.mem_append_left _ hh)
   have h2:y'≠y:=fun e=>hy' (List.mem_append_right _ (by rw [e]; exact List.mem_singleton.2 rfl))
   exact(vb _ fun e=>h2 (by have e:Vi y'=Vi y:=e; simpa using e)).trans (wlk y' h1)
 ·have hi:=of_decide_eq_false hi
  have hpe:p=Fs.length:=O_
  rw [hpe,List.take_length] at hT1 wlk
  have hg:d1.gcs=d.gcs:=by rw [hd1]
  have stg:St ⟨W,({d1 with we:=we',wc:=wc'}:RD).mp σ++m0⟩ (d.gcs++(([(b_,evV ev0)]++frb)++(({d1 with gcs:=[],lb:=lb',line:=ln,we:=we',wc:=wc'}:RD).cs σ++fr))) w5:=by
   rw [←hg]
   exact st.perm (za fun f_=>by simp [RD.cs,RD.mp] <;> omega)
  refine⟨rfl,_,cfx st hb rfl,rfl,σ.gt,crb st rfl,s_ib stg I.gate (fun hh=> ?_) fun n' hn' _ _ _ gcs' w6 go st=> ?_⟩
  ·rcases hh with hh | hh | hh
   ·omega
   ·omega
   ·unfold GM.has at hh
    rw [Int.toNat_natCast,n4,Bool.or_false] at hh
    simp only [Bool.and_eq_true,decide_eq_true_eq] at hh
    omega
  obtain rfl:n=n':=O_
  have st:St ⟨W,({d1 with we:=we',wc:=wc'}:RD).mp σ++m0⟩ (([(b_,evV ev0)]++frb)++(({d1 with gcs:=gcs',lb:=lb',line:=ln,we:=we',wc:=wc'}:RD).cs σ++fr)) w6:=st.perm (za fun f_=>by simp [RD.cs,RD.mp] <;> omega)
  refine⟨st.writable 0 rfl (by show 0+6≤6; omega),fun w7 hw7=> ?_⟩
  have st:=st.put0 hw7
  have hTm:∀ z∈T,z.1.1∈Fs:=fun z hz=>by rw [←hT1]; exact List.mem_map.2 ⟨z,hz,rfl⟩
  have hfr:∀ t∈s.pend,frT s n t=true↔t.1∈Fs:=fun t ht=>by
   rw [hFsm]
   unfold frT
   rw [List.all_eq_true]
   constructor
   ·intro hall
    have hall:∀ p∈s.W,p.1=t.1→p.2=(n:Int):=fun p hp=>of_decide_eq_true (hall p hp)
    obtain⟨u,hu⟩:=h.pw t ht
    have:=hall _ hu rfl
    have this:u=(n:Int):=this
    rw [this] at hu
    exact⟨hu,hall⟩
   ·exact fun hh p hp=>decide_eq_true (hh.2 p hp)
  have hpa:=zNj h
  have hpn:s.pend.Nodup:=hpa.imp fun {a b} hab e=>hab (by rw [e])
  have hperm:(T.map (·.1)).Perm (s.pend.filter (frT s n)):=by
   refine zOj ?_ (hpn.filter _) fun t=> ?_
   ·have:((T.map (·.1)).map (·.1)).Nodup:=by rw [List.map_map]; show(T.map fun z=>z.1.1).Nodup; rw [hT1]; exact hFsn
    exact List.Pairwise.imp (fun {a b} hab e=>hab (by rw [e])) (List.pairwise_map.1 this)
   ·rw [List.mem_filter]
    constructor
    ·intro ht
     obtain⟨z,hz,rfl⟩:=List.mem_map.1 ht
     exact⟨(hT2 z hz).1,(hfr _ (hT2 z hz).1).2 (hTm z hz)⟩
    ·rintro⟨ht,hf⟩
     have:=(hfr t ht).1 hf
     rw [←hT1] at this
     obtain⟨z,hz,e⟩:=List.mem_map.1 this
     refine List.mem_map.2 ⟨z,hz,?_⟩
     refine Classical.byContradiction fun hne=> ?_
     obtain⟨i,hi⟩:=List.mem_iff_getElem?.1 (hT2 z hz).1
     obtain⟨j,hj⟩:=List.mem_iff_getElem?.1 ht
     obtain⟨hi1,hi2⟩:=List.getElem?_eq_some_iff.1 hi
     obtain⟨hj1,hj2⟩:=List.getElem?_eq_some_iff.1 hj
     have hij:i≠j:=fun e=>hne (by subst e; rw [←hi2,hj2])
     have hpi:=List.pairwise_iff_getElem.1 hpa
     rcases Nat.lt_or_gt_of_ne hij with hlt | hlt
     ·exact hpi i j hi1 hj1 hlt (by rw [hi2,hj2]; exact e)
     ·exact hpi j i hj1 hi1 hlt (by rw [hi2,hj2]; exact e.symm)
  obtain⟨hi',hph⟩:=z1m L h h1 hperm
  refine⟨⟨0,0,(n:Int),0,(s.g.up n:Int),0⟩,(st.get 0 rfl).all,k _ {d1 with gcs:=gcs',lb:=lb',line:=ln,we:=we',wc:=wc',ll:=d.ll++T} (gtS n r (T.map (·.1)) s) w7 ⟨?_,hi',?_,L,O_⟩ hph⟩
  ·subst hd1
   refine { ok:=I.ok,feed:=I.feed,deps:=dpo,top:=I.top,gate:=go,ll:=I.ll,lB:=I.lB,lane:=I.lane,ol:=I.ol,il:=I.il,oB:=I.oB,sB:=I.sB,own:=I.own,qgood:=I.qgood,igood:=I.igood,line:=lro,lines:= ?_,lin:=fun z hz=> ?_,wok:=wok,pend:=fun t ht=> ?_,gone:=hcut }
   ·show s.line++T.map (·.1)=(d.ll++T).map (·.1)
    rw [List.map_append,I.lines]
   ·rcases List.mem_append.1 hz with hz | hz
    ·exact I.lin z hz
    ·exact(hT2 z hz).2
   ·obtain⟨ht1,ht2⟩:=List.mem_filter.1 ht
    obtain⟨sl,a,c⟩:=I.pend t ht1
    refine⟨sl,(wlk t.1 fun hm=> ?_).trans a,c⟩
    rw [(hfr t ht1).2 hm] at ht2
    cases ht2
  ·have st:=St.drop1 st
   have st:=St.drop (a:=frb) st
   exact st
end
set_option maxHeartbeats 4000000
def ntk (σ:RS):Nat:=σ.lp.length+σ.op.length+2
def canK (σ:RS) (fed:Nat) (s:TS) (i:Nat):Int :=
 if i=0 then canD σ fed s else if i<1+σ.lp.length then canW σ s (i - 1) else if i<1+σ.lp.length+σ.op.length then canO s (i - 1 - σ.lp.length) else canG s
def rdL (σ:RS) (fed:Nat) (s:TS) (n:Nat):List Int:=((List.range n).filter fun i=>decide (canK σ fed s i≠0)).map fun i:Nat=>(i:Int)
theorem zMm {σ:RS} {fed:Nat} {s:TS} {n:Nat}:rdL σ fed s (n+1)=rdL σ fed s n++(if canK σ fed s n≠0 then [(n:Int)] else []):=by
 unfold rdL
 rw [List.range_succ,List.filter_append,List.map_append]
 congr 1
 by_cases h:canK σ fed s n≠0
 ·rw [if_pos h,List.filter_cons_of_pos (by simpa using h)]; rfl
 ·rw [if_neg h,List.filter_cons_of_neg (by simpa using h)]; rfl
theorem zko {σ:RS} {fed:Nat} {s:TS} {n:Nat} {x:Int} (h:x∈rdL σ fed s n):∃ i:Nat,x=(i:Int)∧i<n∧canK σ fed s i≠0:=by
 unfold rdL at h
 obtain⟨i,hi,rfl⟩:=List.mem_map.1 h
 obtain⟨a,b⟩:=List.mem_filter.1 hi
 exact⟨i,rfl,List.mem_range.1 a,of_decide_eq_true b⟩
theorem zlo {σ:RS} {fed:Nat} {s:TS} {n:Nat} (h:rdL σ fed s n=[]):∀ i,i<n→canK σ fed s i=0:=fun i hi=>by
 refine Classical.byContradiction fun hne=> ?_
 have:(i:Int)∈rdL σ fed s n:=List.mem_map.2 ⟨i,List.mem_filter.2 ⟨List.mem_range.2 hi,decide_eq_true hne⟩,rfl⟩
 rw [h] at this; cases this
inductive TC (σ:RS):Nat→Value→Prop
 | D (b:Nat) (h:(b,[aP σ.rb])∈σ.fx):TC σ 0 (Value.iface 130 (aP b))
 | W (j b:Nat) (p:OA) (hp:σ.lp[j]? =some p) (h:(b,[aP σ.rb,pP p])∈σ.fx):TC σ (1+j) (Value.iface 136 (aP b))
 | K (j b:Nat) (p:OA) (hp:σ.op[j]? =some p) (h:(b,[aP σ.rb,pP p,Vi (j:Int)])∈σ.fx):TC σ (1+σ.lp.length+j) (Value.iface 141 (aP b))
 | G (b:Nat) (h:(b,[aP σ.rb])∈σ.fx):TC σ (1+σ.lp.length+σ.op.length) (Value.iface 144 (aP b))
theorem zzs {σ:RS} (ok:RSok σ) {i:Nat} (hi:i<ntk σ):∃ v,σ.tv[i]? =some v∧TC σ i v:=by
 unfold ntk at hi
 by_cases h0:i=0
 ·subst h0
  obtain⟨b,h1,h2⟩:=ok.td
  exact⟨_,h1,.D b h2⟩
 by_cases h1:i<1+σ.lp.length
 ·obtain⟨j,rfl⟩:∃ j,i=1+j:=⟨i - 1,O_⟩
  have hp:=List.getElem?_eq_getElem (l:=σ.lp) (i:=j) O_
  obtain⟨b,h1,h2⟩:=ok.tw j _ hp
  exact⟨_,h1,.W j b _ hp h2⟩
 by_cases h2:i<1+σ.lp.length+σ.op.length
 ·obtain⟨j,rfl⟩:∃ j,i=1+σ.lp.length+j:=⟨i - 1 - σ.lp.length,O_⟩
  have hp:=List.getElem?_eq_getElem (l:=σ.op) (i:=j) O_
  obtain⟨b,h1,h2⟩:=ok.tk j _ hp
  exact⟨_,h1,.K j b _ hp h2⟩
 ·obtain rfl:i=1+σ.lp.length+σ.op.length:=O_
  obtain⟨b,h1,h2⟩:=ok.tg
  exact⟨_,h1,.G b h2⟩
theorem z2i {σ:RS} {fed:Nat} {s:TS}:canK σ fed s 0=canD σ fed s:=rfl
theorem z3i {σ:RS} {fed:Nat} {s:TS} {j:Nat} (h:j<σ.lp.length):canK σ fed s (1+j)=canW σ s j:=by
 unfold canK
 rw [if_neg O_,if_pos O_,show 1+j - 1=j from by omega]
theorem z4i {σ:RS} {fed:Nat} {s:TS} {j:Nat} (h:j<σ.op.length):canK σ fed s (1+σ.lp.length+j)=canO s j:=by
 unfold canK
 rw [if_neg O_,if_neg O_,if_pos O_,show 1+σ.lp.length+j - 1 - σ.lp.length=j from by omega]
theorem z5i {σ:RS} {fed:Nat} {s:TS}:canK σ fed s (1+σ.lp.length+σ.op.length)=canG s:=by
 unfold canK
 rw [if_neg O_,if_neg O_,if_neg O_]
section
variable {W:World} {m0:List (Nat×Obj)} {w:World} {fr:List zg} {σ:RS} {d:RD} {log:List Tx} {fed:Nat} {s:TS}
theorem z6i (I:RepI σ d log fed s) (h:∀ i,i<ntk σ→canK σ fed s i=0):zGs fed σ.cfg.Queue.toNat (σ.cfg.Window.toNat:Int) (shN σ.cfg) s:=by
 have hD:=h 0 (by unfold ntk; omega)
 have hW:∀ j,j<σ.lp.length→canW σ s j=0:=fun j hj=>by rw [←z3i (fed:=fed) hj]; exact h _ (by unfold ntk; omega)
 have hK:∀ j,j<σ.op.length→canO s j=0:=fun j hj=>by rw [←z4i (fed:=fed) hj]; exact h _ (by unfold ntk; omega)
 have hG:=h (1+σ.lp.length+σ.op.length) (by unfold ntk; omega)
 rw [z2i] at hD
 rw [z5i] at hG
 have hlt:∀ {j:Nat} {o},s.lanes[j]? =some o→j<σ.lp.length:=fun {j o} ho=>by have:=(List.getElem?_eq_some_iff.1 ho).1; have:=I.ll; omega
 refine⟨fun hh=> ?_,fun t hh hn=> ?_,fun i hi=> ?_,fun i n x r o hi q hq=> ?_,fun i n hi=> ?_,fun q hq=> ?_,?_⟩
 ·unfold canD at hD
  rw [hh] at hD
  simp only at hD
  split at hD
  ·cases hD
  ·omega
 ·unfold canD at hD
  rw [hh] at hD
  simp only at hD
  rw [if_pos hn] at hD
  cases hD
 ·have:=hW i (hlt hi)
  unfold canW at this
  rw [hi] at this
  simp only at this
  split at this
  ·cases this
  ·exact List.eq_nil_of_length_eq_zero O_
 ·have:=hW i (hlt hi)
  unfold canW zLh at this
  rw [hi] at this
  simp only [hq] at this
  by_cases hc:q.length<σ.cfg.Queue.toNat
  ·rw [if_pos (decide_eq_true hc)] at this; cases this
  ·omega
 ·have:=hW i (hlt hi)
  unfold canW at this
  rw [hi] at this
  cases this
 ·obtain⟨j,hj⟩:=List.mem_iff_getElem?.1 hq
  have:=hK j (by have:=(List.getElem?_eq_some_iff.1 hj).1; have:=I.ol; omega)
  unfold canO at this
  rw [hj] at this
  cases q with
  | nil=>rfl
  | cons z q=>cases this
 ·unfold canG at hG
  split at hG
  ·cases hG
  ·exact List.eq_nil_of_length_eq_zero O_
theorem s_g {R:Bool→WP} (st:St ⟨W,d.mp σ++m0⟩ (d.cs σ++fr) w) (k:R true w):C_c (some ⟨σ.rb,0,none⟩) w R:=by
 apply S_w
 unfold F_Gb
 exact⟨fun _=>⟨rfl,_,crb (A:=[]) st rfl,k⟩,fun h=>(by cases h)⟩
theorem zNm {sl:Slc} {xs:List Int} {bs:List zg} {i:Nat} {c:Int} {again_:Slc→Int→WP} (ro:RowC 1 sl (xs.map Vi) bs) (st:St ⟨W,d.mp σ++m0⟩ (bs++(d.cs σ++fr)) w) (hi:i≤1000) (hx:xs.length≤i)
    (k:∀ sl' bs' w',RowC 1 sl' ((xs++(if c≠0 then [(i:Int)] else [])).map Vi) bs'→St ⟨W,d.mp σ++m0⟩ (bs'++(d.cs σ++fr)) w'→again_ sl' ((i+1:Nat):Int) w'):F_b sl (i:Int) again_ (c != 0) w:=by
 unfold F_b F_z
 have wi:IntKind.i64.wrap ((i:Int)+1)=((i+1:Nat):Int):=by rw [i64_in _ O_ O_]; omega
 have hl:=ro.len
 rw [List.length_map,Nat.mul_one] at hl
 rw [wi]
 refine⟨fun h=>fun b w1 hb hw=>⟨[Vi (i:Int)],zwb hb hw rfl,?_⟩,fun h=> ?_⟩
 ·have hc:c≠0:=by simpa using h
  refine ro.append ((st.alloc hb hw).drop1) rfl rfl rfl (by show(sl.len+1)*8≤_; omega) fun sl' bs' w2 ro' st hl'=>k sl' bs' w2 ?_ st
  rw [if_pos hc,List.map_append]; exact ro'
 ·have hc:¬ c≠0:=by simpa using h
  refine k sl bs w ?_ st
  rw [if_neg hc,List.append_nil]; exact ro
theorem zlk (I:RepI σ d log fed s):ntk σ≤34∧σ.tv.length=ntk σ:=by
 have h1:=I.ok.ln
 have h2:=I.ok.on
 have hc:=z1 I.ok.cfg
 have h3:=I.ok.tl
 unfold ntk
 have:=hc.1
 have:=hc.2.1
 exact⟨O_,h3⟩
theorem s_bb {R:Slc→WP} (I:RepI σ d log fed s) (st:St ⟨W,d.mp σ++m0⟩ (d.cs σ++fr) w)
    (k:∀ sl bs w',RowC 1 sl ((rdL σ fed s (ntk σ)).map Vi) bs→St ⟨W,d.mp σ++m0⟩ (bs++(d.cs σ++fr)) w'→R sl w'):C_v (some ⟨σ.rb,0,none⟩) w R:=by
 apply S_x
 unfold F_Hb
 obtain⟨hn,htl⟩:=zlk I
 refine s_g st ⟨fun h=>(by cases h),fun _=>⟨rfl,false,crb (A:=[]) st rfl,?_⟩⟩
 unfold F_A
 refine⟨fun h=>(by cases h),fun _=>⟨rfl,σ.tsl,crb (A:=[]) st rfl,?_⟩⟩
 obtain⟨tb,htr,htf⟩:=I.ok.trow
 have htsl:=htr.len
 rw [Nat.mul_one,htl] at htsl
 refine⟨fun sl i w'=>∃(p:Nat) (bs:List zg),i=(p:Int)∧p≤ntk σ∧RowC 1 sl ((rdL σ fed s p).map Vi) bs∧St ⟨W,d.mp σ++m0⟩ (bs++(d.cs σ++fr)) w',fun _ i _=>ntk σ - i.toNat,⟨0,[],rfl,O_,RowC.nil,st⟩,?_⟩
 clear st
 rintro sl i w1 ⟨p,bs,rfl,hp,ro,st⟩
 unfold F_Y
 refine⟨fun hi=> ?_,fun hi=> ?_⟩
 ·have hi:=of_decide_eq_true hi
  obtain⟨v,hv,tc⟩:=zzs I.ok (i:=p) O_
  obtain⟨a1,a2,a3⟩:=(htr.srcM (fun c hc=>List.mem_append_right _ (RD.fxm (htf c hc))) st).at1 hv
  have hxl:(rdL σ fed s p).length≤p:=by
   unfold rdL
   rw [List.length_map]
   exact Nat.le_trans (List.length_filter_le _ _) (by rw [List.length_range]; exact Nat.le_refl _)
  have stf:St ⟨W,d.mp σ++m0⟩ (d.cs σ++(bs++fr)) w1:=st.perm (za fun f_=>by simp [RD.cs,RD.mp] <;> omega)
  have fin:∀ {c:Int} {w2:World},canK σ fed s p=c→St ⟨W,d.mp σ++m0⟩ (d.cs σ++(bs++fr)) w2→F_b sl (p:Int) (fun(l_':Slc) (t22':Int) w'=>(∃(p:Nat) (bs:List zg),t22'=(p:Int)∧p≤ntk σ∧RowC 1 l_' ((rdL σ fed s p).map Vi) bs∧St ⟨W,d.mp σ++m0⟩ (bs++(d.cs σ++fr)) w')∧ntk σ - t22'.toNat<ntk σ - (p:Int).toNat) (c != 0) w2:=fun {c w2} hc st=>by
   refine zNm ro (st.perm (za fun f_=>by simp [RD.cs,RD.mp] <;> omega)) O_ hxl fun sl' bs' w3 ro' st=>⟨⟨p+1,bs',rfl,O_,?_,st⟩,O_⟩
   rw [zMm,hc]; exact ro'
  refine⟨a1,O_,hi,v,by rw [Int.toNat_natCast]; exact a3,?_⟩
  cases tc with
  | D b h=>exact .inr (.inl ⟨_,rfl,s_6 I stf h fun w2 st=>fin z2i st⟩)
  | W j b p' hp' h=>exact .inr (.inr (.inl ⟨_,rfl,s_ab I stf h hp' fun w2 st=>fin (z3i (List.getElem?_eq_some_iff.1 hp').1) st⟩))
  | K j b p' hp' h=>exact .inr (.inr (.inr (.inl ⟨_,rfl,s_8 I stf h hp' fun w2 st=>fin (z4i (List.getElem?_eq_some_iff.1 hp').1) st⟩)))
  | G b h=>exact .inr (.inr (.inr (.inr ⟨_,rfl,s_9 I stf h fun w2 st=>fin z5i st⟩)))
 ·have hi:=of_decide_eq_false hi
  obtain rfl:p=ntk σ:=O_
  refine⟨rfl,⟨none,0,0⟩,crb st rfl,fun sl' i w'=>sl'=sl∧i=0∧w'=w1,fun _ _ _=>0,⟨rfl,rfl,rfl⟩,?_⟩
  rintro _ _ _ ⟨rfl,rfl,rfl⟩
  unfold F_X
  exact⟨fun hh=>(by cases hh),fun _=>k _ bs _ ro st⟩
theorem zsd {b_ b1:Nat} {i kk:Int} {e:T_a} {R:T_a→Int→WP} {d':RD} {s':TS} (S:SO W m0 ((b_,evV ev0)::fr) σ log fed d' s' w)
    (k:∀ ev w',SO W m0 fr σ log fed d' s' w'→R ev 0 w') (hb:b1=w.heap.size) {w1:World} (hw:w1=w.alloc (Obj.cells (evV ev0).toArray y_c (0,0))) :
    zb w1 b1 0 6∧∀ w2,w2=World.puts b1 0 (evV e) w1→F_d (some ⟨σ.rb,0,none⟩) i R b_ kk (some ⟨b1,0,none⟩) w2:=by
 have st:=S.st.alloc (cs:=evV ev0) hb hw
 refine⟨st.writable 0 rfl (by show 0+6≤6; omega),fun w2 hw2=> ?_⟩
 have st:St ⟨W,d'.mp σ++m0⟩ ((b1,evV e)::(d'.cs σ++((b_,evV ev0)::fr))) w2:=st.put0 hw2
 unfold F_d
 have stg:St ⟨W,d'.mp σ++m0⟩ (d'.gcs++((b1,evV e)::(({d' with gcs:=[]}:RD).cs σ++((b_,evV ev0)::fr)))) w2:=st.perm (za fun f_=>by simp [RD.cs,RD.mp] <;> omega)
 refine⟨rfl,σ.gt,crb (A:=[(b1,evV e)]) st rfl,s_j stg S.I.gate ?_⟩
 refine⟨rfl,st.writable 0 rfl (by show 0+1≤6; omega),fun w3 hw3=> ?_⟩
 have st:=st.put0 hw3
 refine⟨st.writable 0 rfl (by show 0+1+1≤6; omega),fun w4 hw4=> ?_⟩
 have st:=st.put0 hw4
 refine⟨st.writable 0 rfl (by show 0+5+1≤6; omega),fun w5 hw5=> ?_⟩
 have st:=st.put0 hw5
 obtain⟨e',he⟩:∃ e':T_a,e'=⟨i,kk,e.Number,e.Shard,e.Count,(s'.g.mark:Int)⟩:=⟨_,rfl⟩
 have st:St ⟨W,d'.mp σ++m0⟩ ((b1,evV e')::(d'.cs σ++((b_,evV ev0)::fr))) w5:=by subst he; exact st
 have st:St ⟨W,d'.mp σ++m0⟩ ((b_,evV ev0)::(b1,evV e')::(d'.cs σ++fr)) w5:=st.perm (za fun f_=>by simp [RD.cs,RD.mp] <;> omega)
 refine⟨rfl,e',(st.get 1 rfl).all,st.writable 0 rfl (by show 0+6≤6; omega),fun w6 hw6=> ?_⟩
 have st:St ⟨W,d'.mp σ++m0⟩ ((b_,evV e')::(b1,evV e')::(d'.cs σ++fr)) w6:=st.put0 hw6
 exact⟨e',(st.get 0 rfl).all,k _ w6 ⟨S.I,S.h,st.drop1.drop1,S.L,S.b⟩⟩
theorem s_Wb {i:Nat} {R:T_a→Int→WP} (S:SO W m0 fr σ log fed d s w) (hi:i<ntk σ) (hc:canK σ fed s i≠0)
    (k:∀ ev d' s' w',SO W m0 fr σ log fed d' s' w'→phi log fed s'+1=phi log fed s→R ev 0 w'):C_W (some ⟨σ.rb,0,none⟩) (i:Int) w R:=by
 obtain⟨I,h,st,L,hb2⟩:=S
 apply S_E
 unfold F_Tb
 intro b_ w1 hb_ hw1
 have st:St ⟨W,d.mp σ++m0⟩ (d.cs σ++((b_,evV ev0)::fr)) w1:=(st.alloc (cs:=evV ev0) hb_ hw1).perm (za fun f_=>by simp [RD.cs,RD.mp] <;> omega)
 obtain⟨hn,htl⟩:=zlk I
 refine s_g st ⟨fun h=>(by cases h),fun _=>⟨rfl,false,crb (A:=[]) st rfl,fun h=>(by cases h),fun _=> ?_⟩⟩
 obtain⟨tb,htr,htf⟩:=I.ok.trow
 have htsl:=htr.len
 rw [Nat.mul_one,htl] at htsl
 obtain⟨v,hv,tc⟩:=zzs I.ok hi
 obtain⟨a1,a2,a3⟩:=(htr.srcM (fun c hc=>RD.fxm (htf c hc)) st).at1 hv
 apply S_P
 unfold F_9b
 refine⟨fun _=>⟨rfl,σ.tsl,crb (A:=[]) st rfl,?_⟩,fun hh=>(by have:=of_decide_eq_false hh; omega)⟩
 apply S_F
 unfold F_Ub
 rw [decide_eq_true (show(i:Int)≥0 by omega),decide_eq_true (show(i:Int)<((σ.tsl.len:Nat):Int) by omega)]
 unfold F_K
 refine⟨fun _=>⟨rfl,σ.tsl,crb (A:=[]) st rfl,a1,O_,O_,v,by rw [Int.toNat_natCast]; exact a3,fun h=>(by cases h),fun _=> ?_⟩,fun h=>(by cases h)⟩
 have hk0:∀ {c:Int},canK σ fed s i=c→(c==0)=false:=fun e=>by rw [←e]; simpa using hc
 have so:∀ {w'},St ⟨W,d.mp σ++m0⟩ (d.cs σ++((b_,evV ev0)::fr)) w'→SO W m0 ((b_,evV ev0)::fr) σ log fed d s w':=fun st=>⟨I,h,st,L,hb2⟩
 cases tc with
 | D b hb =>
  refine .inr (.inl ⟨_,rfl,s_6 I st hb fun w2 st=> ?_⟩)
  unfold F_a
  refine⟨fun hh=>(by rw [hk0 z2i] at hh; cases hh),fun _=> .inr (.inl ⟨_,rfl,?_⟩)⟩
  rw [z2i] at hc
  unfold canD at hc ⊢
  cases hh:s.held with
  | none =>
   rw [hh] at hc
   simp only at hc ⊢
   by_cases hlt:s.at_<fed
   ·rw [if_pos hlt]
    exact s_Fb (so st) hb hh hlt fun ev d' s' w3 S' hph=>fun b1 w4 hb1 hw4=>zsd S' (fun ev w' S2=>k ev d' s' w' S2 hph) hb1 hw4
   ·rw [if_neg hlt] at hc; exact absurd rfl hc
  | some t =>
   rw [hh] at hc
   simp only at hc ⊢
   by_cases hlt:t.1 - (σ.cfg.Window.toNat:Int)≤(s.g.mark:Int)
   ·rw [if_pos hlt]
    exact s_Gb (so st) hb hh hlt fun ev d' s' w3 S' hph=>fun b1 w4 hb1 hw4=>zsd S' (fun ev w' S2=>k ev d' s' w' S2 hph) hb1 hw4
   ·rw [if_neg hlt] at hc; exact absurd rfl hc
 | W j b p hp hb =>
  refine .inr (.inr (.inl ⟨_,rfl,s_ab I st hb hp fun w2 st=> ?_⟩))
  unfold F_a
  have hj:=(List.getElem?_eq_some_iff.1 hp).1
  refine⟨fun hh=>(by rw [hk0 (z3i hj)] at hh; cases hh),fun _=> .inr (.inr (.inl ⟨_,rfl,?_⟩))⟩
  rw [z3i hj] at hc
  unfold canW at hc ⊢
  obtain⟨o,ho⟩:∃ o,s.lanes[j]? =some o:=⟨_,List.getElem?_eq_getElem (by have:=I.ll; omega)⟩
  rw [ho] at hc ⊢
  cases o with
  | none =>
   simp only at hc ⊢
   by_cases hlt:s.line.length>0
   ·rw [if_pos hlt]
    exact s_Hb (so st) hb hp ho hlt fun ev d' s' w3 S' hph=>fun b1 w4 hb1 hw4=>zsd S' (fun ev w' S2=>k ev d' s' w' S2 hph) hb1 hw4
   ·rw [if_neg hlt] at hc; exact absurd rfl hc
  | some lj =>
   obtain⟨n,left,out⟩:=lj
   cases left with
   | nil =>
    simp only at hc ⊢
    by_cases hlt:out=0
    ·rw [if_pos hlt]
     subst hlt
     exact s_Ib (so st) hb hp ho fun ev d' s' w3 S' hph=>fun b1 w4 hb1 hw4=>zsd S' (fun ev w' S2=>k ev d' s' w' S2 hph) hb1 hw4
    ·rw [if_neg hlt] at hc; exact absurd rfl hc
   | cons x r =>
    simp only at hc ⊢
    cases hr:zLh σ s x.Key with
    | false=>rw [hr] at hc; exact absurd rfl hc
    | true =>
     unfold zLh at hr
     cases hq:s.qs[shN σ.cfg x.Key]? with
     | none=>rw [hq] at hr; cases hr
     | some q =>
      rw [hq] at hr
      exact s_Jb (so st) hb hp ho hq (of_decide_eq_true hr) fun ev d' s' w3 S' hph=>fun b1 w4 hb1 hw4=>zsd S' (fun ev w' S2=>k ev d' s' w' S2 hph) hb1 hw4
 | K j b p hp hb =>
  refine .inr (.inr (.inr (.inl ⟨_,rfl,s_8 I st hb hp fun w2 st=> ?_⟩)))
  unfold F_a
  have hj:=(List.getElem?_eq_some_iff.1 hp).1
  refine⟨fun hh=>(by rw [hk0 (z4i hj)] at hh; cases hh),fun _=> .inr (.inr (.inr (.inl ⟨_,rfl,?_⟩)))⟩
  rw [z4i hj] at hc
  unfold canO at hc
  cases hq:s.qs[j]? with
  | none=>rw [hq] at hc; exact absurd rfl hc
  | some q =>
   rw [hq] at hc
   cases q with
   | nil=>exact absurd rfl hc
   | cons z r =>
    obtain⟨a,z⟩:=z
    exact s_yb (so st) hb hp hq fun ev d' s' w3 S' hph=>fun b1 w4 hb1 hw4=>zsd S' (fun ev w' S2=>k ev d' s' w' S2 hph) hb1 hw4
 | G b hb =>
  refine .inr (.inr (.inr (.inr ⟨_,rfl,s_9 I st hb fun w2 st=> ?_⟩)))
  unfold F_a
  refine⟨fun hh=>(by rw [hk0 z5i] at hh; cases hh),fun _=> .inr (.inr (.inr (.inr ⟨_,rfl,?_⟩)))⟩
  rw [z5i] at hc
  unfold canG at hc
  cases hg:s.gone with
  | nil=>rw [hg] at hc; exact absurd rfl hc
  | cons x r=>exact s_Kb (so st) hb hg fun ev d' s' w3 S' hph=>fun b1 w4 hb1 hw4=>zsd S' (fun ev w' S2=>k ev d' s' w' S2 hph) hb1 hw4
theorem s_vb {pick:Int} {R:T_a→Int→WP} (S:SO W m0 fr σ log fed d s w)
    (k0:(∀ i,i<ntk σ→canK σ fed s i=0)→∀ ev w',SO W m0 fr σ log fed d s w'→R ev 9 w')
    (k1:∀ ev d' s' w',SO W m0 fr σ log fed d' s' w'→phi log fed s'+1=phi log fed s→R ev 0 w'):C_y (some ⟨σ.rb,0,none⟩) pick w R:=by
 obtain⟨I,h,st,L,hb2⟩:=S
 apply S_A
 unfold F_Pb
 intro b_ w1 hb_ hw1
 have st:St ⟨W,d.mp σ++m0⟩ (d.cs σ++((b_,evV ev0)::fr)) w1:=(st.alloc (cs:=evV ev0) hb_ hw1).perm (za fun f_=>by simp [RD.cs,RD.mp] <;> omega)
 obtain⟨hn,_⟩:=zlk I
 refine s_g st ⟨fun h=>(by cases h),fun _=>⟨rfl,false,crb (A:=[]) st rfl,fun h=>(by cases h),fun _=>s_bb I st fun sl bs w2 ro st=> ?_⟩⟩
 have hl:=ro.len
 rw [List.length_map,Nat.mul_one] at hl
 have hxl:(rdL σ fed s (ntk σ)).length≤ntk σ:=by
  unfold rdL
  rw [List.length_map]
  exact Nat.le_trans (List.length_filter_le _ _) (by rw [List.length_range]; exact Nat.le_refl _)
 refine⟨fun h0=> ?_,fun h0=> ?_⟩
 ·have h0:rdL σ fed s (ntk σ)=[]:=List.eq_nil_of_length_eq_zero (by
    have:((sl.len:Nat):Int)=0:=by simpa using h0
    omega)
  have st:St ⟨W,d.mp σ++m0⟩ ((b_,evV ev0)::(bs++(d.cs σ++fr))) w2:=st.perm (za fun f_=>by simp [RD.cs,RD.mp] <;> omega)
  refine⟨st.writable 0 rfl (by show 0+6≤6; omega),fun w3 hw3=> ?_⟩
  have st:St ⟨W,d.mp σ++m0⟩ ((b_,evV ev0)::(bs++(d.cs σ++fr))) w3:=st.put0 hw3
  exact⟨ev0,(st.get 0 rfl).all,k0 (zlo h0) _ w3 ⟨I,h,St.drop (a:=bs) st.drop1,L,hb2⟩⟩
 ·have h0:(0:Int)<((sl.len:Nat):Int):=by
    have:((sl.len:Nat):Int)≠0:=by simpa using h0
    omega
  have fin:∀ kk:Int,0≤kk→kk<((sl.len:Nat):Int)→F_n (some ⟨σ.rb,0,none⟩) R b_ sl kk w2:=fun kk hk1 hk2=>by
   unfold F_n
   obtain⟨y,hy⟩:∃ y,(rdL σ fed s (ntk σ))[kk.toNat]? =some y:=⟨_,List.getElem?_eq_getElem O_⟩
   obtain⟨i,rfl,hi,hc⟩:=zko (List.mem_of_getElem? hy)
   obtain⟨a1,a2,a3⟩:=(ro.src st).at1 (i:=kk.toNat) (v:=Vi (i:Int)) (by rw [List.getElem?_map,hy]; rfl)
   have st:St ⟨W,d.mp σ++m0⟩ (d.cs σ++((b_,evV ev0)::fr)) w2:=st.weak bs (za fun f_=>by simp [RD.cs,RD.mp] <;> omega)
   refine⟨a1,hk1,hk2,(i:Int),a3,s_Wb ⟨I,h,st,L,hb2⟩ hi hc fun ev d' s' w3 S' hph=> ?_⟩
   have st:St ⟨W,d'.mp σ++m0⟩ ((b_,evV ev0)::(d'.cs σ++fr)) w3:=S'.st.perm (za fun f_=>by simp [RD.cs,RD.mp] <;> omega)
   refine⟨st.writable 0 rfl (by show 0+6≤6; omega),fun w4 hw4=> ?_⟩
   have st:St ⟨W,d'.mp σ++m0⟩ ((b_,evV ev)::(d'.cs σ++fr)) w4:=st.put0 hw4
   exact⟨ev,(st.get 0 rfl).all,k1 ev d' s' w4 ⟨S'.I,S'.h,st.drop1,S'.L,S'.b⟩ hph⟩
  have ht1:=Int.tmod_lt_of_pos pick h0
  have ht2:=Int.lt_tmod_of_pos pick h0
  refine⟨O_,fun hneg=> ?_,fun hneg=> ?_⟩
  ·have hneg:=of_decide_eq_true hneg
   rw [i64_in _ O_ O_]
   exact fin _ O_ O_
  ·have hneg:=of_decide_eq_false hneg
   exact fin _ O_ O_
theorem s_Xb {R:Bool→WP} (S:SO W m0 fr σ log fed d s w) (hc:∀ i,i<ntk σ→canK σ fed s i=0) (k:∀ w',SO W m0 fr σ log fed d s w'→R true w'):C_U (some ⟨σ.rb,0,none⟩) w R:=by
 obtain⟨I,h,st,L,hb2⟩:=S
 apply S_B
 unfold F_Qb
 refine s_g st ⟨fun _=>⟨rfl,false,crb (A:=[]) st rfl,fun h=>(by cases h),fun _=>s_bb I st fun sl bs w2 ro st=> ?_⟩,fun h=>(by cases h)⟩
 have hl:=ro.len
 rw [List.length_map,Nat.mul_one] at hl
 have h0:rdL σ fed s (ntk σ)=[]:=by
  unfold rdL
  rw [List.filter_eq_nil_iff.2 fun i hi=>by simpa using hc i (List.mem_range.1 hi)]; rfl
 rw [h0] at hl
 have hl:sl.len=0:=hl.symm
 rw [hl]
 exact k w2 ⟨I,h,St.drop (a:=bs) st,L,hb2⟩
theorem s_cb {R:Int→WP} (S:SO W m0 fr σ log fed d s w) (k:R (s.g.mark:Int) w):C_z (some ⟨σ.rb,0,none⟩) w R:=by
 apply S_C
 unfold F_Rb
 refine s_g S.st ⟨fun h=>(by cases h),fun _=>⟨rfl,σ.gt,crb (A:=[]) S.st rfl,?_⟩⟩
 have stg:St ⟨W,d.mp σ++m0⟩ (d.gcs++(({d with gcs:=[]}:RD).cs σ++fr)) w:=S.st.perm (za fun f_=>by simp [RD.cs,RD.mp] <;> omega)
 exact s_j stg S.I.gate k
end
set_option maxHeartbeats 1000000
abbrev nilS:Slc:=⟨none,0,0⟩
def zNb (cap:Int):List Value:=[Vo true,Vi cap,Vs nilS,Vs nilS,Vi (-1),Vo false,Vi 0]
abbrev saved0:T_e:=⟨0,nilS,nilS⟩
def savV (s:T_e):List Value:=[Vi s.Mark,Vs s.Beyond,Vs s.Held]
section
variable {w0:Base} {w:World} {fr:List zg} {db:Nat} {cap:Int}
theorem s_db {i:Int} {R:Slc→Int→WP} (st:St w0 ((db,zNb cap)::fr) w) (hi:i=0∨i=1) (k:R nilS 0 w):C_tb (some ⟨db,0,none⟩) i w R:=by
 apply S_zb
 unfold F_0c
 apply S_Ab
 unfold F_2c
 refine⟨fun h=>(by cases h),fun _=>⟨rfl,true,st.cell 0 rfl rfl,?_⟩⟩
 unfold F_cb
 refine⟨fun h=>(by cases h),fun _=>⟨fun h=> ?_,fun _=>⟨fun h=>(by cases h),fun _=>⟨rfl,O_,O_,nilS,?_,?_⟩⟩⟩⟩
 ·simp only [Bool.and_eq_true,bne_iff_ne,ne_eq] at h; omega
 ·rcases hi with rfl | rfl
  ·exact st.cell 0 rfl rfl
  ·exact st.cell 0 rfl rfl
 ·apply S_n
  exact⟨fun _=>k,fun h=>(by cases h)⟩
theorem s_Lb {R:T_e→Int→Bool→WP} (st:St w0 fr w) (k:∀ w',St w0 fr w'→R saved0 0 false w'):C_rb nilS w R:=by
 apply S_Ob
 unfold F_od
 intro b w1 hb hw
 have st:St w0 ((b,savV saved0)::fr) w1:=st.alloc (cs:=savV saved0) hb hw
 refine⟨fun _=>⟨st.writable 0 rfl (by show 0+3≤3; omega),fun w2 hw2=> ?_⟩,fun h=>(by have:=of_decide_eq_false h; exact absurd (show((0:Nat):Int)<20 by omega) this)⟩
 have st:St w0 ((b,savV saved0)::fr) w2:=st.put0 hw2
 exact⟨saved0,(st.get 0 rfl).all,k w2 st.drop1⟩
theorem s_Mb {R:T_e→Int→Int→Bool→Int→WP} (st:St w0 ((db,zNb cap)::fr) w) (k:∀ w',St w0 ((db,zNb cap)::fr) w'→R saved0 0 0 false 0 w'):C_Nb (some ⟨db,0,none⟩) w R:=by
 apply S_Jb
 unfold F_jd
 intro b w1 hb hw
 have st:St w0 ((db,zNb cap)::(b,savV saved0)::fr) w1:=(st.alloc (cs:=savV saved0) hb hw).pq
 refine⟨fun g sl ok i w'=>g=0∧sl=0∧ok=false∧0≤i∧i≤2∧St w0 ((db,zNb cap)::(b,savV saved0)::fr) w',fun _ _ _ i _=>2 - i.toNat,⟨rfl,rfl,rfl,O_,O_,st⟩,?_⟩
 clear st
 rintro _ _ _ i w2 ⟨rfl,rfl,rfl,h0,h2,st⟩
 unfold F_Xb
 refine⟨fun hi=> ?_,fun hi=> ?_⟩
 ·have hi:=of_decide_eq_true hi
  have wi:IntKind.i64.wrap (i+1)=i+1:=i64_in _ O_ O_
  refine s_db st O_ ⟨fun h=>(by cases h),fun _=>s_Lb st fun w3 st b2 w4 hb2 hw4=> ?_⟩
  have st:=st.alloc (cs:=savV saved0) hb2 hw4
  refine⟨st.writable 0 rfl (by show 0+3≤3; omega),fun w5 hw5=>⟨fun h=>(by cases h),fun _=> ?_⟩⟩
  have st:=(st.put0 hw5).drop1
  unfold F_pb
  rw [wi]
  exact⟨⟨rfl,rfl,rfl,O_,O_,st⟩,by show 2 - (i+1).toNat<2 - i.toNat; omega⟩
 ·refine⟨saved0,(st.get 1 rfl).all,st.writable 1 rfl (by show 0+3≤3; omega),fun w3 hw3=> ?_⟩
  have st:St w0 ((db,zNb cap)::(b,savV saved0)::fr) w3:=st.put1 hw3
  exact⟨saved0,(st.get 1 rfl).all,k w3 (st.wq [(b,savV saved0)])⟩
end
section
variable {W:World} {m0:List (Nat×Obj)} {w:World} {fr:List zg}
theorem s_I {R:Int→WP} (st:St ⟨W,m0⟩ fr w) (k:∀ w',St ⟨W,m0⟩ fr w'→R 0 w'):C_Yb saved0 w R:=by
 apply S_Ub
 unfold F_vd
 intro b w1 hb hw
 have st:St ⟨W,m0⟩ ((b,savV saved0)::fr) w1:=st.alloc (cs:=savV saved0) hb hw
 refine⟨0,st.cell 0 rfl rfl,fun h=>(by cases h),fun _=>⟨0,st.cell 0 rfl rfl,?_⟩⟩
 unfold F_Mb
 refine⟨fun h=>(by cases h),fun _=>⟨0,st.cell 0 rfl rfl,nilS,st.cell 0 rfl rfl,fun _ i w'=>i=0∧w'=w1,fun _ _ _=>0,⟨rfl,rfl⟩,?_⟩⟩
 rintro l _ _ ⟨rfl,rfl⟩
 unfold F_xc
 refine⟨fun h=>(by cases h),fun _=>⟨nilS,st.cell 0 rfl rfl,s_n st fun s sm bs w2 _ st=>⟨fun h=>(by cases h),fun _=> ?_⟩⟩⟩
 have st:St ⟨W,m0⟩ ((b,savV saved0)::fr) w2:=St.drop (a:=bs) (St.forget (a:=sm) st)
 refine⟨nilS,st.cell 0 rfl rfl,fun i w'=>i=0∧w'=w2,fun _ _=>0,⟨rfl,rfl⟩,?_⟩
 rintro _ _ ⟨rfl,rfl⟩
 unfold F_wc
 exact⟨fun h=>(by cases h),fun _=>k _ st.drop1⟩
theorem s_J {c:Cfg} {R:Slc→Int→WP} (st:St ⟨W,m0⟩ fr w) (hc:z8 c=0) (k:∀ b w',St ⟨W,m0⟩ ((b,List.replicate c.Shards.toNat (Vs nilS))::fr) w'→R ⟨some ⟨b,0,none⟩,c.Shards.toNat,c.Shards.toNat⟩ 0 w'):C_Xb c saved0 w R:=by
 apply S_Tb
 unfold F_ud
 intro b1 w1 hb1 hw1 b2 w2 hb2 hw2
 have st:St ⟨W,m0⟩ ((b2,savV saved0)::(b1,cfgV c)::fr) w2:=(st.alloc (cs:=cfgV c) hb1 hw1).alloc (cs:=savV saved0) hb2 hw2
 have hck:=z1 hc
 refine⟨c,(st.get 1 rfl).all,s_e fun w3 e3=> ?_⟩
 have st:=st.keep e3
 rw [hc]
 refine⟨fun h=>(by cases h),fun _=>⟨saved0,(st.get 0 rfl).all,s_I st fun w4 st=>⟨fun h=>(by cases h),fun _=> ?_⟩⟩⟩
 have hs:=hck.2.1
 refine⟨c.Shards,st.cell 1 rfl rfl,O_,O_,O_,fun b w5 hb hw=> ?_⟩
 have e:zu c.Shards.toNat [Vs nilS]=(List.replicate c.Shards.toNat (Vs nilS)).toArray:=by
  have key:∀ n:Nat,(List.replicate n [Vs nilS]).flatten=List.replicate n (Vs nilS):=fun n=>by
   induction n with
   | zero=>rfl
   | succ n ih=>rw [List.replicate_succ,List.flatten_cons,ih,List.replicate_succ]; rfl
  unfold zu
  exact congrArg List.toArray (key _)
 have e:zu c.Shards.toNat [Value.slice none 0 0]=(List.replicate c.Shards.toNat (Vs nilS)).toArray:=e
 rw [e] at hw
 have st:=st.alloc hb hw
 refine⟨nilS,st.cell 1 rfl rfl,fun i w'=>i=0∧w'=w5,fun _ _=>0,⟨rfl,rfl⟩,?_⟩
 rintro _ _ ⟨rfl,rfl⟩
 unfold F_vc
 exact⟨fun h=>(by cases h),fun _=>k b _ (st.wq [(b2,savV saved0),(b1,cfgV c)])⟩
theorem s_nb {cap:Int} {w0:Base} {R:OA→Int→WP} (st:St w0 fr w) (k0:cap<0∨cap>16777216→R none 1 w) (k1:∀ b w',St w0 ((b,zNb cap)::fr) w'→R (some ⟨b,0,none⟩) 0 w'):C_bc cap w R:=by
 apply S_8b
 unfold F_Jd
 exact⟨fun h=>k0 (by simpa using h),fun _ b w1 hb hw=>k1 b w1 (st.alloc (cs:=zNb cap) hb hw)⟩
end
set_option maxHeartbeats 4000000
theorem zMh {α:Type} (L:List (List α)) (x:List α):fl (L++[x])=fl L++x:=by unfold fl; simp
theorem zon {α:Type}:fl ([]:List (List α))=[]:=rfl
def repB (c:Cfg) (db:Nat) (f dp gt:OA) (lsl osl tsl:Slc) (wm:Nat):List Value :=
 [Vi c.Lanes,Vi c.Shards,Vi c.Window,Vi c.Queue,aP db,pP f,pP dp,pP gt,Vs lsl,Vs osl,Vs tsl,Vs nilS,Vs nilS,mV wm,Vs nilS,Vo false,Vo false,Vo false]
structure BldW (rb:Nat) (c:Cfg) (bD:Nat) (lp:List (OA)) (tv:List Value) (LB:List (List zg)) (fx:List zg):Prop where
 tl:tv.length=1+lp.length
 t0:tv[0]? =some (Value.iface 130 (aP bD))
 bD:(bD,[aP rb])∈fx
 tw:∀(i:Nat) p,lp[i]? =some p→∃ b,tv[1+i]? =some (Value.iface 136 (aP b))∧(b,[aP rb,pP p])∈fx
 lb:LB.length=lp.length
 ln:∀(i:Nat) p bs,lp[i]? =some p→LB[i]? =some bs→LnO p (some ⟨(i:Int)+1,c,none⟩) bs
theorem zye {α:Type} {l:List α} {x y:α} {i:Nat} (h:(l++[x])[i]? =some y):l[i]? =some y∨(i=l.length∧y=x):=by
 by_cases hi:i<l.length
 ·rw [List.getElem?_append_left hi] at h; exact .inl h
 ·have hl:=(List.getElem?_eq_some_iff.1 h).1
  rw [List.length_append,List.length_singleton] at hl
  have:i=l.length:=O_
  subst this
  rw [List.getElem?_append_right (Nat.le_refl _),Nat.sub_self] at h
  exact .inr ⟨rfl,(Option.some.inj h).symm⟩
theorem BldW.add {rb:Nat} {c:Cfg} {bD b:Nat} {lp:List (OA)} {tv:List Value} {LB:List (List zg)} {fx bs:List zg} {p:OA} (H:BldW rb c bD lp tv LB fx) (lo:LnO p (some ⟨(lp.length:Int)+1,c,none⟩) bs) :
    BldW rb c bD (lp++[p]) (tv++[Value.iface 136 (aP b)]) (LB++[bs]) ((b,[aP rb,pP p])::fx):=by
 refine⟨by simp [H.tl]; omega,?_,List.mem_cons_of_mem _ H.bD,fun i q hq=> ?_,by simp [H.lb],fun i q cs hq hcs=> ?_⟩
 ·rw [List.getElem?_append_left (by have:=H.tl; omega)]; exact H.t0
 ·rcases zye hq with hq | ⟨rfl,rfl⟩
  ·obtain⟨b',h1,h2⟩:=H.tw i q hq
   exact⟨b',by rw [List.getElem?_append_left (List.getElem?_eq_some_iff.1 h1).1]; exact h1,List.mem_cons_of_mem _ h2⟩
  ·exact⟨b,by rw [←H.tl,List.getElem?_append_right (Nat.le_refl _),Nat.sub_self]; rfl,List.mem_cons_self ..⟩
 ·rcases zye hq with hq | ⟨rfl,rfl⟩
  ·have hl:=(List.getElem?_eq_some_iff.1 hq).1
   rw [List.getElem?_append_left (by have:=H.lb; omega)] at hcs
   exact H.ln i q cs hq hcs
  ·rw [←H.lb,List.getElem?_append_right (Nat.le_refl _),Nat.sub_self] at hcs
   obtain rfl:=Option.some.inj hcs
   exact lo
structure BldK (rb:Nat) (c:Cfg) (bD:Nat) (lp:List (OA)) (op:List (OA)) (tv:List Value) (LB OB:List (List zg)) (SB:List (List (Nat×Obj))) (fx:List zg):Prop where
 tl:tv.length=1+lp.length+op.length
 t0:tv[0]? =some (Value.iface 130 (aP bD))
 bD:(bD,[aP rb])∈fx
 tw:∀(i:Nat) p,lp[i]? =some p→∃ b,tv[1+i]? =some (Value.iface 136 (aP b))∧(b,[aP rb,pP p])∈fx
 tk:∀(i:Nat) p,op[i]? =some p→∃ b,tv[1+lp.length+i]? =some (Value.iface 141 (aP b))∧(b,[aP rb,pP p,Vi (i:Int)])∈fx
 ob:OB.length=op.length
 sb:SB.length=op.length
 on:∀(i:Nat) p bs sm,op[i]? =some p→OB[i]? =some bs→SB[i]? =some sm→z6b p (fun _=>[]) c.Queue.toNat [] sm bs
theorem BldK.add {rb:Nat} {c:Cfg} {bD b:Nat} {lp op:List (OA)} {tv:List Value} {LB OB:List (List zg)} {SB:List (List (Nat×Obj))} {fx bs:List zg} {sm:List (Nat×Obj)} {p:OA} (H:BldK rb c bD lp op tv LB OB SB fx) (lo:z6b p (fun _=>[]) c.Queue.toNat [] sm bs) :
    BldK rb c bD lp (op++[p]) (tv++[Value.iface 141 (aP b)]) LB (OB++[bs]) (SB++[sm]) ((b,[aP rb,pP p,Vi (op.length:Int)])::fx):=by
 have htl:=H.tl
 refine⟨by simp [H.tl]; omega,?_,List.mem_cons_of_mem _ H.bD,fun i q hq=> ?_,fun i q hq=> ?_,by simp [H.ob],by simp [H.sb],fun i q cs sm' hq hcs hsm=> ?_⟩
 ·rw [List.getElem?_append_left O_]; exact H.t0
 ·obtain⟨b',h1,h2⟩:=H.tw i q hq
  exact⟨b',by rw [List.getElem?_append_left (List.getElem?_eq_some_iff.1 h1).1]; exact h1,List.mem_cons_of_mem _ h2⟩
 ·rcases zye hq with hq | ⟨rfl,rfl⟩
  ·obtain⟨b',h1,h2⟩:=H.tk i q hq
   exact⟨b',by rw [List.getElem?_append_left (List.getElem?_eq_some_iff.1 h1).1]; exact h1,List.mem_cons_of_mem _ h2⟩
  ·exact⟨b,by rw [←H.tl,List.getElem?_append_right (Nat.le_refl _),Nat.sub_self]; rfl,List.mem_cons_self ..⟩
 ·rcases zye hq with hq | ⟨rfl,rfl⟩
  ·have hl:=(List.getElem?_eq_some_iff.1 hq).1
   rw [List.getElem?_append_left (by have:=H.ob; omega)] at hcs
   rw [List.getElem?_append_left (by have:=H.sb; omega)] at hsm
   exact H.on i q cs sm' hq hcs hsm
  ·rw [←H.ob,List.getElem?_append_right (Nat.le_refl _),Nat.sub_self] at hcs
   rw [←H.sb,List.getElem?_append_right (Nat.le_refl _),Nat.sub_self] at hsm
   obtain rfl:=Option.some.inj hcs
   obtain rfl:=Option.some.inj hsm
   exact lo
section
variable {W:World} {m0:List (Nat×Obj)} {w:World} {fr:List zg} {c:Cfg} {log:List Tx}
/-- What the last loop and the end make of what was built. -/
theorem zAs {rb db b_ pb wm top bD:Nat} {f sp dp gt:OA} {lsl tsl:Slc} {lp:List (OA)} {lrow trow fcs dcs gcs:List zg} {tv:List Value} {LB:List (List zg)} {fx:List zg} {fv:Base} {dm:List (Nat×Obj)} {R:OA→Int→WP}
    (hc:z8 c=0) (hl:(lp.length:Int)=c.Lanes) (H:BldW rb c bD lp tv LB fx) (lro:RowC 1 lsl (lp.map pP) lrow) (tro:RowC 1 tsl tv trow) (fo:FdO fv sp (some ⟨log,0,0,0,c.Window.toNat,[],none,false⟩) f fcs) (dpo:DepO dp 0 [] [] dm dcs) (go:ztd gt ⟨0,top,fun _=>false⟩ gcs)
    (hpb:(pb,List.replicate c.Shards.toNat (Vs nilS))∈fx) (hbc:(b_,cfgV c)∈fx)
    (st:St ⟨W,fv.mp++(dm++((wm,.map #[] 0)::m0))⟩ ((rb,repB c db f dp gt lsl nilS tsl wm)::(lrow++(trow++(fcs++(dcs++(gcs++(fl LB++(fx++fr)))))))) w)
    (k:∀ σ d w',σ.cfg=c→RepI σ d log 0 (s0 lp.length c.Shards.toNat top)→St ⟨W,d.mp σ++m0⟩ (d.cs σ++fr) w'→R (some ⟨σ.rb,0,none⟩) 0 w') :
    ∃(I:Int→WP) (μ:Int→World→Nat),I 0 w∧∀(t144:Int) w,I t144 w→F_tb R b_ (some ⟨rb,0,none⟩) ⟨some ⟨pb,0,none⟩,c.Shards.toNat,c.Shards.toNat⟩ c.Shards (fun(t144':Int) w'=>I t144' w'∧μ t144' w'<μ t144 w) t144 w:=by
 have hck:=z1 hc
 have hsh:=hck.2.1
 have hqu:=hck.2.2.2
 refine⟨fun i w'=>∃(p:Nat) (osl tsl:Slc) (op:List (OA)) (orow trow:List zg) (tv:List Value) (OB:List (List zg)) (SB:List (List (Nat×Obj))) (fx:List zg),i=(p:Int)∧op.length=p∧(p:Int)≤c.Shards∧RowC 1 osl (op.map pP) orow∧RowC 1 tsl tv trow∧BldK rb c bD lp op tv LB OB SB fx∧(pb,List.replicate c.Shards.toNat (Vs nilS))∈fx∧(b_,cfgV c)∈fx ∧
  St ⟨W,fv.mp++(dm++((wm,.map #[] 0)::(fl SB++m0)))⟩ ((rb,repB c db f dp gt lsl osl tsl wm)::(lrow++(orow++(trow++(fcs++(dcs++(gcs++(fl LB++(fl OB++(fx++fr)))))))))) w',fun i _=>c.Shards.toNat - i.toNat,
  ⟨0,nilS,tsl,[],[],trow,tv,[],[],fx,rfl,rfl,O_,RowC.nil,tro,⟨H.tl,H.t0,H.bD,H.tw,fun i p hp=>(by cases hp),rfl,rfl,fun i p bs sm hp=>(by cases hp)⟩,hpb,hbc,by simpa [zon] using st⟩,?_⟩
 clear st tro hpb hbc
 rintro i w1 ⟨p,osl,tsl,op,orow,trow,tv,OB,SB,fx,rfl,hop,hps,oro,tro,HO,hpb,hbc,st⟩
 have hol:=oro.len
 rw [List.length_map,hop,Nat.mul_one] at hol
 have htl:=tro.len
 rw [HO.tl,Nat.mul_one] at htl
 have hlm:=hck.1
 unfold F_tb
 refine⟨fun hi w2 e2=> ?_,fun hi=> ?_⟩
 ·have hi:=of_decide_eq_true hi
  have st:=st.drew e2
  have src:zr w2 ⟨some ⟨pb,0,none⟩,c.Shards.toNat,c.Shards.toNat⟩ 1 (List.replicate c.Shards.toNat (Vs nilS)):=⟨by simp,.inr ⟨rfl,(st.blk (pb,_) (by simp [hpb])).all⟩⟩
  obtain⟨a1,a2,a3⟩:=src.at1 (i:=p) (v:=Vs nilS) (by rw [List.getElem?_replicate,if_pos O_])
  have hq:c.Queue=((c.Queue.toNat:Nat):Int):=O_
  refine⟨c.Queue,(st.blk (b_,cfgV c) (by simp [hbc])).cell rfl,a1,O_,by show(p:Int)<((c.Shards.toNat:Nat):Int); omega,nilS,by rw [Int.toNat_natCast]; exact a3,?_⟩
  rw [hq]
  refine s_2 st O_ O_ O_ fun o_ sm obs w3 oo st=>⟨fun h=>(by cases h),fun _=> ?_⟩
  have st:St ⟨W,fv.mp++(dm++((wm,.map #[] 0)::(fl (SB++[sm])++m0)))⟩ ((rb,repB c db f dp gt lsl osl tsl wm)::(orow++(lrow++(trow++(fcs++(dcs++(gcs++(fl LB++(fl (OB++[obs])++(fx++fr)))))))))) w3:=(st.perm (za fun f_=>by simp [zMh] <;> omega)).mperm (za fun f_=>by simp [zMh] <;> omega)
  refine⟨rfl,osl,st.cell 0 rfl rfl,fun b7 w4 hb7 hw7=>⟨[pP o_],zwb hb7 hw7 rfl,?_⟩⟩
  have st4:St _ (orow++((rb,repB c db f dp gt lsl osl tsl wm)::(lrow++(trow++(fcs++(dcs++(gcs++(fl LB++(fl (OB++[obs])++(fx++fr)))))))))) w4:=((st.alloc (cs:=[pP o_]) hb7 hw7).drop1).pq
  refine oro.append st4 rfl rfl rfl (by show(osl.len+1)*8≤_; omega) fun osl' orow' w5 oro' st hl'=> ?_
  have st:St _ ((rb,repB c db f dp gt lsl osl tsl wm)::(lrow++(orow'++(trow++(fcs++(dcs++(gcs++(fl LB++(fl (OB++[obs])++(fx++fr)))))))))) w5:=st.pq
  refine⟨rfl,st.writable 0 rfl (by show 0+9+1≤18; omega),fun w6 hw6=> ?_⟩
  have st:St _ ((rb,repB c db f dp gt lsl osl' tsl wm)::(lrow++(orow'++(trow++(fcs++(dcs++(gcs++(fl LB++(fl (OB++[obs])++(fx++fr)))))))))) w6:=st.put0 hw6
  refine⟨rfl,tsl,st.cell 0 rfl rfl,fun b8 w7 hb8 hw7 b9 w8 hb9 hw8=>⟨[Value.iface 141 (aP b8)],zwb hb9 hw8 rfl,?_⟩⟩
  have st:=(st.alloc (cs:=[aP rb,pP o_,Vi (p:Int)]) hb8 hw7).alloc (cs:=[Value.iface 141 (aP b8)]) hb9 hw8
  have st:St _ (trow++((rb,repB c db f dp gt lsl osl' tsl wm)::(lrow++(orow'++(fcs++(dcs++(gcs++(fl LB++(fl (OB++[obs])++(((b8,[aP rb,pP o_,Vi (p:Int)])::fx)++fr)))))))))) w8:=st.drop1.pq
  refine tro.append st rfl rfl rfl (by show(tsl.len+1)*16≤_; omega) fun tsl' trow' w9 tro' st hl2=> ?_
  have st:St _ ((rb,repB c db f dp gt lsl osl' tsl wm)::(lrow++(orow'++(trow'++(fcs++(dcs++(gcs++(fl LB++(fl (OB++[obs])++(((b8,[aP rb,pP o_,Vi (p:Int)])::fx)++fr)))))))))) w9:=st.pq
  refine⟨rfl,st.writable 0 rfl (by show 0+10+1≤18; omega),fun w10 hw10=> ?_⟩
  have st:=st.put0 hw10
  have wp:IntKind.i64.wrap ((p:Int)+1)=((p+1:Nat):Int):=by rw [i64_in _ O_ O_]; omega
  rw [wp]
  have hadd:=HO.add (b:=b8) oo
  rw [hop] at hadd
  exact⟨⟨p+1,osl',tsl',op++[o_],orow',trow',tv++[Value.iface 141 (aP b8)],OB++[obs],SB++[sm],(b8,[aP rb,pP o_,Vi (p:Int)])::fx,rfl,by simp [hop],O_,by rw [List.map_append]; exact oro',tro',hadd,List.mem_cons_of_mem _ hpb,List.mem_cons_of_mem _ hbc,st⟩,by show c.Shards.toNat - (((p+1:Nat):Int)).toNat<c.Shards.toNat - ((p:Nat):Int).toNat; omega⟩
 ·have hi:=of_decide_eq_false hi
  have hpe:p=c.Shards.toNat:=O_
  refine⟨rfl,tsl,st.cell 0 rfl rfl,fun b10 w2 hb10 hw2 b11 w3 hb11 hw3=>⟨[Value.iface 144 (aP b10)],zwb hb11 hw3 rfl,?_⟩⟩
  have st:=(st.alloc (cs:=[aP rb]) hb10 hw2).alloc (cs:=[Value.iface 144 (aP b10)]) hb11 hw3
  have st:St _ (trow++((rb,repB c db f dp gt lsl osl tsl wm)::(lrow++(orow++(fcs++(dcs++(gcs++(fl LB++(fl OB++(((b10,[aP rb])::fx)++fr)))))))))) w3:=st.drop1.pq
  refine tro.append st rfl rfl rfl (by show(tsl.len+1)*16≤_; omega) fun tsl' trow' w4 tro' st hl2=> ?_
  have st:St _ ((rb,repB c db f dp gt lsl osl tsl wm)::(lrow++(orow++(trow'++(fcs++(dcs++(gcs++(fl LB++(fl OB++(((b10,[aP rb])::fx)++fr)))))))))) w4:=st.pq
  refine⟨rfl,st.writable 0 rfl (by show 0+10+1≤18; omega),fun w5 hw5=> ?_⟩
  have st:St _ ((rb,repB c db f dp gt lsl osl tsl' wm)::(lrow++(orow++(trow'++(fcs++(dcs++(gcs++(fl LB++(fl OB++(((b10,[aP rb])::fx)++fr)))))))))) w5:=st.put0 hw5
  obtain⟨σ,hσ⟩:∃ σ:RS,σ=⟨rb,c,⟨db,0,none⟩,f,sp,dp,gt,lp,op,tv++[Value.iface 144 (aP b10)],lsl,osl,tsl',wm,fv,lrow++(orow++(trow'++((b10,[aP rb])::fx)))⟩:=⟨_,rfl⟩
  obtain⟨d,hd⟩:∃ d:RD,d=⟨fcs,dcs,gcs,LB,OB,[],[],[],dm,#[],0,SB,nilS,nilS,[],0⟩:=⟨_,rfl⟩
  have hrb:rb=σ.rb:=by rw [hσ]
  rw [hrb]
  refine k σ d w5 (by rw [hσ]) ?_ ?_
  ·have hfx:∀ {q:zg},q∈fx→q∈lrow++(orow++(trow'++((b10,[aP rb])::fx))):=fun h=>by simp [h]
   have htvl:∀ {i:Nat} {v:Value},tv[i]? =some v→(tv++[Value.iface 144 (aP b10)])[i]? =some v:=fun h=>by rw [List.getElem?_append_left (List.getElem?_eq_some_iff.1 h).1]; exact h
   have hnl:∀(k:ByteArray),zK #[] (.string k)=none:=fun k=>zuc fun e he=>(by cases he)
   subst hσ; subst hd
   refine { ok:=⟨⟨lrow,lro,fun q hq=>by simp [hq]⟩,⟨orow,oro,fun q hq=>by simp [hq]⟩,⟨trow',tro',fun q hq=>by simp [hq]⟩,?_,⟨bD,htvl HO.t0,hfx HO.bD⟩,fun i p hp=> ?_,fun i p hp=> ?_,⟨b10,?_,by simp⟩,hc,hl,?_⟩,feed:=fo,deps:=dpo,top:=rfl,gate:=go,ll:= ?_,lB:=H.lb,lane:=fun i o ho=> ?_,ol:= ?_,il:=by show(List.replicate _ _).length=(List.replicate _ _).length; rw [List.length_replicate,List.length_replicate],oB:=HO.ob,sB:=HO.sb,own:=fun i q l hq hl=> ?_,qgood:=fun q hq z hz=> ?_,igood:=fun l hl z hz=> ?_,line:=RowC.nil,lines:=rfl,lin:=fun p hp=>(by cases hp),wok:=MOk.empty,pend:=fun t ht=>(by cases ht),gone:=RowC.nil }
   ·show(tv++[_]).length=lp.length+op.length+2
    rw [List.length_append,HO.tl]; simp; omega
   ·obtain⟨b,h1,h2⟩:=HO.tw i p hp
    exact⟨b,htvl h1,hfx h2⟩
   ·obtain⟨b,h1,h2⟩:=HO.tk i p hp
    exact⟨b,htvl h1,hfx h2⟩
   ·show(tv++[_])[1+lp.length+op.length]? =_
    rw [←HO.tl,List.getElem?_append_right (Nat.le_refl _),Nat.sub_self]; rfl
   ·show(op.length:Int)=c.Shards
    omega
   ·show(List.replicate _ _).length=lp.length
    rw [List.length_replicate]
   ·have ho:(List.replicate lp.length none)[i]? =some o:=ho
    have hil:=(List.getElem?_eq_some_iff.1 ho).1
    rw [List.length_replicate] at hil
    obtain rfl:o=none:=List.eq_of_mem_replicate (List.mem_of_getElem? ho)
    have h1:=List.getElem?_eq_getElem (l:=lp) (i:=i) hil
    have h2:=List.getElem?_eq_getElem (l:=LB) (i:=i) (by have:=H.lb; omega)
    exact⟨_,_,none,h1,h2,H.ln i _ _ h1 h2,trivial⟩
   ·show(List.replicate _ _).length=op.length
    rw [List.length_replicate]; omega
   ·have hq:(List.replicate c.Shards.toNat [])[i]? =some q:=hq
    have hl:(List.replicate c.Shards.toNat [])[i]? =some l:=hl
    have hil:=(List.getElem?_eq_some_iff.1 hq).1
    rw [List.length_replicate] at hil
    obtain rfl:q=[]:=List.eq_of_mem_replicate (List.mem_of_getElem? hq)
    obtain rfl:l=[]:=List.eq_of_mem_replicate (List.mem_of_getElem? hl)
    have h1:=List.getElem?_eq_getElem (l:=op) (i:=i) O_
    have h2:=List.getElem?_eq_getElem (l:=OB) (i:=i) (by have:=HO.ob; omega)
    have h3:=List.getElem?_eq_getElem (l:=SB) (i:=i) (by have:=HO.sb; omega)
    exact⟨_,_,_,h1,h2,h3,HO.on i _ _ _ h1 h2 h3⟩
   ·obtain rfl:q=[]:=List.eq_of_mem_replicate hq
    cases hz
   ·obtain rfl:l=[]:=List.eq_of_mem_replicate hl
    cases hz
  ·have hrv:repB c db f dp gt lsl osl tsl' wm=repV σ d.line d.gone:=by rw [hσ,hd]; rfl
   rw [hrv] at st
   subst hσ; subst hd
   exact(st.perm (za fun f_=>by simp [RD.cs,RD.mp] <;> omega)).mperm (za fun f_=>by simp [RD.cs,RD.mp] <;> omega)
end
end Go.Proofs.YtofjmclceflgiaaGreat
