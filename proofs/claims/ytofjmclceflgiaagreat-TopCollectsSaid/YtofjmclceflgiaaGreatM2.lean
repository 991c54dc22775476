/-
  A part of the proof of TopCollects.
  Conditions: none.
-/
import Derived.Test.YtofjmclceflgiaaGreatM1
import Derived.Test.YtofjmclceflgiaaGreatG1
import Derived.Test.YtofjmclceflgiaaGreatG2
import Derived.Test.YtofjmclceflgiaaGreatG3
import Derived.Test.YtofjmclceflgiaaGreatGF
import Derived.Lib.SortBridge
import Derived.Shelf.Sort.Plain
import Derived.Shelf.Slices.In.SortNone
import Derived.Shelf.Lay
import Derived.Ground.NamesProg
import Derived.Shelf.SlIter.Nil
import Derived.Shelf.SortM.Plain
import Derived.Shelf.SortM.SortNone
import Derived.Ground.GgzProg
import Derived.Ground.SlgmProg
import Derived.StringKeys
namespace Go.Proofs.YtofjmclceflgiaaGreat
open Go
open Go.IntKind (i64 u64 u32 u8)
set_option linter.unusedVariables false
set_option linter.unusedSimpArgs false
abbrev mV (m:Nat):Value:=Value.map (some m)
abbrev pV (a b:Int):Value:=Value.agg #[Vi a,Vi b]
def wcnt (n:Int) (Wt:List (Int×Int)):Nat:=(Wt.filter λp=>decide (p.1=n)).length
structure DepS (top:Int) (opn:List Int) (Wt:List (Int×Int)) (e1:Array MapEntry) (c1:Nat) (e2:Array MapEntry) (c2:Nat) (e3:Array MapEntry) (c3:Nat):Prop where
 o1:MOk isKS e1 c1
 o2:MOk isKI e2 c2
 o3:MOk isKP e3 c3
 v1:∀ k u,zQ e1 k=some u->∃ i:Int,u=Vi i/\0<=i/\i<=65536
 v2:∀ n,zQ e2 (Vi n)=if n∈opn then some (Vi (wcnt n Wt)) else none
 v3:∀ a b,zQ e3 (pV a b)=if(a,b)∈Wt then some (Vo true) else none
 tp:0<=top/\top<=65536
 op:∀ x∈opn,1<=x/\x<=top
 wd:Wt.Nodup
 wp:∀ p∈Wt,p.1∈opn/\p.2∈opn
 wl:Wt.length<=32*top.toNat
def DepO (t:OA) (top:Int) (opn:List Int) (Wt:List (Int×Int)) (dm:List (Nat×Obj)) (bs:List zb):Prop :=
 ∃ b m1 m2 m3 e1 c1 e2 c2 e3 c3,t=some ⟨b,0,none⟩/\bs=[(b,[mV m1,mV m2,mV m3,Vi top])]/\dm=[(m1,.map e1 c1),(m2,.map e2 c2),(m3,.map e3 c3)]/\DepS top opn Wt e1 c1 e2 c2 e3 c3
section
variable {W:World} {m0 dm:List (Nat×Obj)} {w:World} {fr bs:List zb} {t:OA} {top:Int} {opn:List Int} {Wt:List (Int×Int)}
theorem s_S {R:OA->WP} (st:St ⟨W,m0⟩ fr w) (k:∀ t dm bs w',DepO t 0 [] [] dm bs->St ⟨W,dm++m0⟩ (bs++fr) w'->R t w'):C_fd w R:=by
 apply S_ud;unfold F_Sg;intro b1 w1 hb1 hw1 b2 w2 hb2 hw2 b3 w3 hb3 hw3 b4 w4 hb4 hw4;have st:=(((st.mnew hb1 hw1).mnew hb2 hw2).mnew hb3 hw3).alloc hb4 hw4;have st:St ⟨W,[(b1,.map #[] 0),(b2,.map #[] 0),(b3,.map #[] 0)]++m0⟩ ([(b4,[mV b1,mV b2,mV b3,Vi 0])]++fr) w4:=st.mperm (za λf_=>by simp <;> omega);have hn:∀ k,zQ #[] k=none:=λk=>zld λe he=>(by cases he)
 exact k _ _ _ _ ⟨b4,b1,b2,b3,_,_,_,_,_,_,rfl,rfl,rfl,⟨MOk.empty,MOk.empty,MOk.empty,λk u h=>(by rw [hn] at h; cases h),λn=>hn _,λa b=>hn _,O_,λx hx=>(by cases hx),cX,λp hp=>(by cases hp),bU _⟩⟩ st
theorem s_G {R:Bool->WP} (o:DepO t top opn Wt dm bs) (st:St ⟨W,dm++m0⟩ (bs++fr) w) (k:R false w):C_Cb t w R:=by
 apply S_bc;unfold F_sf;obtain⟨b,m1,m2,m3,e1,c1,e2,c2,e3,c3,rfl,rfl,rfl,s⟩:=o;exact⟨N_,λ_=>⟨rfl,some m1,st.cell 0 rfl rfl,k⟩⟩
theorem wcnt_app {n:Int} {a b:List (Int×Int)}:wcnt n (a++b)=wcnt n a+wcnt n b:=by unfold wcnt; rw [dZ,aB]
theorem wcnt_U (x:Int) (U:List Int):wcnt x (U.map λu=>(x,u))=U.length:=by
 unfold wcnt;rw [fK.2 λp hp=> ?_,lM];obtain⟨u,_,rfl⟩:=aQ.1 hp;exact decide_eq_true rfl
theorem zVd {n:Int} {Wt:List (Int×Int)} (h:∀ p∈Wt,p.1≠n):wcnt n Wt=0:=by
 unfold wcnt;rw [List.filter_eq_nil_iff.2 λp hp=>by simpa using h p hp]; rfl
theorem s_ec {x:T_c} {ws:List Wr} {R:Int->Int->WP} (o:DepO t top opn Wt dm bs) (st:St ⟨W,dm++m0⟩ (bs++fr) w) (hs:∀ mp l' w',St ⟨W,mp⟩ (l'++fr) w'->zj w' x.Writes 3 (ws.flatMap wV)) (ok:okT x.Number ws) (ht:top<x.Number)
    (k:∀(U:List Int) dm' bs' w',U.Nodup->(∀ u∈U,u∈opn)->DepO t x.Number (x.Number::opn) (Wt++U.map λu=>(x.Number,u)) dm' bs'->St ⟨W,dm'++m0⟩ (bs'++fr) w'->R (U.length:Nat) 0 w'):C_Fc t x w R:=by
 apply S_Hc;unfold F_Uf;intro b_ w1 hb hw;have st:St ⟨W,dm++m0⟩ (bs++((b_,txW x.Number x.Writes)::fr)) w1:=(st.alloc hb hw).mid;have o':=o;obtain⟨b,m1,m2,m3,e1,c1,e2,c2,e3,c3,rfl,rfl,rfl,s⟩:=o;refine s_G o' st ⟨N_,λ_=>⟨x,(st.get 1 rfl).all,?_⟩⟩;have hsl:∀ {mp l' w'},St ⟨W,mp⟩ (l'++((b_,txW x.Number x.Writes)::fr)) w'->zj w' x.Writes 3 (ws.flatMap wV):=λ{mp l' w'} st=>hs mp (l'++[(b_,txW x.Number x.Writes)]) w' (by simpa using st);have hsrc:=hsl st;have hlen:=zye hsrc;have hl32:=ok.2.2.1;refine s_0 hsrc O_ λw2 ex2=> ?_;rw [if_pos ok];refine⟨N_,λ_=> ?_⟩;have st:=st.keep ex2;refine⟨x.Number,st.cell 1 rfl rfl,rfl,top,st.cell 0 rfl rfl,λw3 ex3=>⟨λh=> ?_,λ_=> ?_⟩⟩
 ·have:=dT h; omega
 have st:=st.keep ex3;refine⟨x.Writes,st.cell 1 rfl rfl,?_⟩;have hxn:x.Number∉opn:=λh=>by have:=s.op _ h; omega
 have hx1:=ok.1;have hx2:=ok.2.1
 refine⟨λn i w'=>∃(p:Nat) (U:List Int) (e3:Array MapEntry) (c3:Nat),i=(p:Int)/\p<=x.Writes.len/\n=((U.length:Nat):Int)/\U.length<=p/\U.Nodup/\(∀ u∈U,u∈opn)/\MOk isKP e3 c3/\(∀ a b,zQ e3 (pV a b)=if(a,b)∈Wt++U.map (λu=>(x.Number,u)) then some (Vo true) else none) /\
  St ⟨W,[(m1,.map e1 c1),(m2,.map e2 c2),(m3,.map e3 c3)]++m0⟩ ([(b,[mV m1,mV m2,mV m3,Vi top])]++((b_,txW x.Number x.Writes)::fr)) w',λ_ i _=>x.Writes.len - i.toNat,
  ⟨0,[],e3,c3,rfl,O_,rfl,by simp,cX,λu h=>(by cases h),s.o3,by simpa using s.v3,st⟩,?_⟩
 clear st hsrc;rintro n i w4 ⟨p,U,e3,c3,rfl,hp,rfl,hUp,hUn,hUo,o3,v3,st⟩;unfold F_We;refine⟨λhi=> ?_,λhi=> ?_⟩
 ·have hi:=dT hi;obtain⟨a,y,hy,hc⟩:=zhh (hsl st) (i:=p) O_;have wp:i64.wrap ((p:Int)+1)=((p+1:Nat):Int):=W_;refine⟨a,O_,hi,y,by rw [tN]; exact hc,λb1 w5 hb1 hw5=> ?_⟩;have st:=st.alloc hb1 hw5;refine⟨st.writable 0 rfl (by simp),λw6 hw6 w7 ex7=> ?_⟩;have st:St _ ((b1,wV y)::_) w7:=(st.put0 hw6).drew ex7;refine⟨x.Number,st.cell 2 rfl rfl,rfl,some m1,st.cell 1 rfl rfl,y.Key,st.cell 0 rfl rfl,?_⟩
  have hv:∃ l:Int,(zQ e1 (.string y.Key)).getD (Vi 0)=Vi l/\0<=l/\l<=65536:=by
   cases h:zQ e1 (.string y.Key) with
   | none=>exact⟨0,rfl,O_,O_⟩
   | some u=>exact s.v1 _ _ h
  obtain⟨l,hl,hl0,hl1⟩:=hv;refine⟨e1,l,(zQ e1 (.string y.Key)).isSome,.inr ⟨m1,c1,rfl,st.objAt 0 rfl⟩,s.o1.all,s.o1.nodup,⟨_,rfl⟩,MOk.lkIs' hl rfl,λb2 w8 hb2 hw8=> ?_⟩;have st:=st.alloc hb2 hw8;refine⟨.inr ⟨m1,c1,rfl,st.objAt 0 rfl⟩,st.cell 1 rfl rfl,st.cell 2 rfl rfl,st.cell 3 rfl rfl,st.writable 0 rfl (by simp),λw9 hw9=> ?_⟩;have st:St _ ((b2,[Vi x.Number,Vi l])::_) w9:=st.put0 hw9
  have hgo:(zQ e2 (Vi l)).isSome=decide (l∈opn):=by
   rw [s.v2];by_cases h:l∈opn <;> simp [h]
  have hgv:∃ z:Int,(zQ e2 (Vi l)).getD (Vi 0)=Vi z:=by
   rw [s.v2];by_cases h:l∈opn
   ·exact⟨_,by rw [if_pos h]; rfl⟩
   ·exact⟨0,by rw [if_neg h]; rfl⟩
  obtain⟨z,hz⟩:=hgv;refine⟨rfl,some m2,st.cell 2 rfl rfl,O_,O_,l,st.cell 0 rfl rfl,e2,z,decide (l∈opn),.inr ⟨m2,c2,rfl,st.objAt 1 rfl⟩,s.o2.all,s.o2.nodup,⟨_,rfl⟩,MOk.lkIs' hz hgo,λw10 ex10=>⟨λhop=> ?_,λhop=> ?_⟩⟩
  ·have hop:=dT hop;have st:=st.keep ex10;have hin:isKP (pV x.Number l):=⟨x.Number,l,rfl,O_,O_⟩
   have hw3:(zQ e3 (pV x.Number l)).getD (Vo false)=Vo (decide ((x.Number,l)∈Wt++U.map λu=>(x.Number,u))):=by
    rw [v3];by_cases h:(x.Number,l)∈Wt++U.map λu=>(x.Number,u)
    ·rw [if_pos h,decide_eq_true h]; rfl
    ·rw [if_neg h,decide_eq_false h]; rfl
   refine⟨rfl,some m3,st.cell 2 rfl rfl,⟨x.Number,l⟩,(st.get 0 rfl).all,e3,_,_,.inr ⟨m3,c3,rfl,st.objAt 2 rfl⟩,o3.all,o3.nodup,hin,MOk.lkIs' hw3 rfl,λw11 ex11=> ?_⟩;have st:=st.keep ex11
   have hmU:(x.Number,l)∈Wt++U.map (λu=>(x.Number,u))↔l∈U:=by
    rw [aG];constructor
    ·rintro(h | h)
     ·exact absurd (s.wp _ h).1 hxn
     ·obtain⟨u,hu,e⟩:=aQ.1 h;rw [<-(Prod.mk.inj e).2]; exact hu
    ·exact λh=> .inr (aQ.2 ⟨l,h,rfl⟩)
   unfold F_xc;refine⟨λhn=>λw12 ex12=> ?_,λhn=> ?_⟩
   ·have hn:(x.Number,l)∉Wt++U.map (λu=>(x.Number,u)):=by simpa using hn
    have hlU:l∉U:=λh=>hn (hmU.2 h);have st:=st.drew ex12;refine⟨rfl,some m3,st.cell 2 rfl rfl,⟨x.Number,l⟩,(st.get 0 rfl).all,m3,e3,c3,rfl,st.objAt 2 rfl,o3.all,o3.nodup,hin,λe4 c4 w13 hset hw13=> ?_⟩;have st:=st.mset (a:=[(m1,.map e1 c1),(m2,.map e2 c2)]) hw13;obtain⟨o4,v4a,v4b⟩:=o3.set hin hset;unfold F_pb;have wn:i64.wrap (((U.length:Nat):Int)+1)=(((U++[l]).length:Nat):Int):=by rw [i64_in _ O_ O_,aB]; simp
    rw [wp,wn];refine⟨⟨p+1,U++[l],e4,c4,rfl,O_,rfl,by rw [aB]; simp; omega,cJ.2 ⟨hUn,by simp,λq hq r hr e=> ?_⟩,λu hu=> ?_,o4,λq r=> ?_,st.drop1.drop1⟩,L_⟩
    ·have:r=l:=by simpa using hr
     exact hlU (by rw [<-this,<-e]; exact hq)
    ·rcases aG.1 hu with hu | hu
     ·exact hUo u hu
     ·have:u=l:=by simpa using hu
      rw [this]; exact hop
    ·by_cases hqr:q=x.Number/\r=l
     ·obtain⟨rfl,rfl⟩:=hqr;rw [v4a,if_pos (by simp)]
     ·rw [v4b _ (λe=>hqr (by
        have e:pV q r=pV x.Number l:=e;simpa using e)),v3]
      have:((q,r)∈Wt++(U++[l]).map λu=>(x.Number,u))↔((q,r)∈Wt++U.map λu=>(x.Number,u)):=by
       rw [aR,<-aN,aG];constructor
       ·rintro(h | h)
        ·exact h
        ·have:q=x.Number/\r=l:=by simpa using h
         exact absurd this hqr
       ·exact .inl
      simp only [this]
   ·unfold F_pb;rw [wp];exact⟨⟨p+1,U,e3,c3,rfl,O_,rfl,O_,hUn,hUo,o3,v3,st.drop1.drop1⟩,L_⟩
  ·intro w11 ex11;have st:=(st.keep ex10).keep ex11;unfold F_xc;refine⟨N_,λ_=> ?_⟩;unfold F_pb;rw [wp];exact⟨⟨p+1,U,e3,c3,rfl,O_,rfl,O_,hUn,hUo,o3,v3,st.drop1.drop1⟩,L_⟩
 ·have hl32':U.length<=65536:=O_;refine⟨x.Writes,st.cell 1 rfl rfl,?_⟩
  refine⟨λi w'=>∃(p:Nat) (e1:Array MapEntry) (c1:Nat),i=(p:Int)/\p<=x.Writes.len/\MOk isKS e1 c1/\(∀ k u,zQ e1 k=some u->∃ i:Int,u=Vi i/\0<=i/\i<=65536) /\
   St ⟨W,[(m1,.map e1 c1),(m2,.map e2 c2),(m3,.map e3 c3)]++m0⟩ ([(b,[mV m1,mV m2,mV m3,Vi top])]++((b_,txW x.Number x.Writes)::fr)) w',λi _=>x.Writes.len - i.toNat,
   ⟨0,e1,c1,rfl,O_,s.o1,s.v1,st⟩,?_⟩
  clear st;rintro i w5 ⟨p,e1,c1,rfl,hp,o1,v1,st⟩;unfold F_Ve;refine⟨λhi=> ?_,λhi=> ?_⟩
  ·have hi:=dT hi;obtain⟨a,y,hy,hc⟩:=zhh (hsl st) (i:=p) O_;have wp:i64.wrap ((p:Int)+1)=((p+1:Nat):Int):=W_;refine⟨a,O_,hi,y,by rw [tN]; exact hc,λb1 w6 hb1 hw6=> ?_⟩;have st:=st.alloc hb1 hw6;refine⟨st.writable 0 rfl (by simp),λw7 hw7 w8 ex8=> ?_⟩;have st:St _ ((b1,wV y)::_) w8:=(st.put0 hw7).drew ex8;refine⟨rfl,some m1,st.cell 1 rfl rfl,y.Key,st.cell 0 rfl rfl,x.Number,st.cell 2 rfl rfl,m1,e1,c1,rfl,st.objAt 0 rfl,o1.all,o1.nodup,⟨_,rfl⟩,λe4 c4 w9 hset hw9=> ?_⟩;have st:=st.mset0 hw9;obtain⟨o4,v4a,v4b⟩:=o1.set ⟨_,rfl⟩ hset;rw [wp];refine⟨⟨p+1,e4,c4,rfl,O_,o4,λk u hk=> ?_,st.drop1⟩,L_⟩;by_cases hky:k= .string y.Key
   ·rw [hky,v4a] at hk;exact⟨x.Number,(aE hk).symm,O_,O_⟩
   ·rw [v4b k hky] at hk; exact v1 k u hk
  ·intro w6 ex6;have st:=st.drew ex6;refine⟨rfl,some m2,st.cell 0 rfl rfl,x.Number,st.cell 1 rfl rfl,m2,e2,c2,rfl,st.objAt 1 rfl,s.o2.all,s.o2.nodup,⟨_,rfl⟩,λe4 c4 w7 hset hw7=> ?_⟩;have st:=st.mset (a:=[(m1,.map e1 c1)]) hw7;obtain⟨o4,v4a,v4b⟩:=s.o2.set ⟨_,rfl⟩ hset;refine⟨x.Number,st.cell 1 rfl rfl,rfl,st.writable 0,λw8 hw8=> ?_⟩;have st:St _ ([(b,[mV m1,mV m2,mV m3,Vi x.Number])]++([(b_,txW x.Number x.Writes)]++fr)) w8:=st.put0 (o:=3) hw8;have st:St ⟨W,[(m1,.map e1 c1),(m2,.map e4 c4),(m3,.map e3 c3)]++m0⟩ ([(b,[mV m1,mV m2,mV m3,Vi x.Number])]++fr) w8:=st.skip2;refine k U _ _ _ hUn hUo ⟨b,m1,m2,m3,e1,c1,e4,c4,e3,c3,rfl,rfl,rfl,⟨o1,o4,o3,v1,λn=> ?_,v3,O_,λy hy=> ?_,?_,λq hq=> ?_,by have:=s.wl; have:=s.tp; rw [aB,lM]; omega⟩⟩ st
   ·by_cases hn:n=x.Number
    ·subst hn;rw [v4a,if_pos (aI ..),wcnt_app,wcnt_U,zVd λq hq e=>hxn (by rw [<-e]; exact(s.wp q hq).1),dE]
    ·rw [v4b _ (λe=>hn (by have e:Vi n=Vi x.Number:=e; simpa using e)),s.v2];have hm:n∈x.Number::opn↔n∈opn:=by rw [aU]; exact or_iff_right hn
     by_cases ho:n∈opn
     ·rw [if_pos ho,if_pos (hm.2 ho),wcnt_app,zVd (Wt:=U.map _) λq hq e=> ?_,eE];obtain⟨u,_,rfl⟩:=aQ.1 hq;exact hn e.symm
     ·rw [if_neg ho,if_neg λh=>ho (hm.1 h)]
   ·rcases aU.1 hy with rfl | hy
    ·omega
    ·have:=s.op y hy; omega
   ·refine cJ.2 ⟨s.wd,cN.2 (hUn.imp λ{a b} hab e=>hab (Prod.mk.inj e).2),λa ha b hb e=> ?_⟩;obtain⟨u,_,rfl⟩:=aQ.1 hb;subst e;exact hxn (s.wp _ ha).1
   ·rcases aG.1 hq with hq | hq
    ·obtain⟨a,b⟩:=s.wp q hq;exact⟨aJ _ a,aJ _ b⟩
    ·obtain⟨u,hu,rfl⟩:=aQ.1 hq;exact⟨aI ..,aJ _ (hUo u hu)⟩
end
open Go Go.Shelf
theorem Lq {α:Type _} {a:Option α} {b c:α} (h:a=some b) (q:b=c:=by kernel_rfl):a=some c:=h.trans (congrArg some q)
def Tryz.laysSort_ren:Go.Shelf.Ren:=⟨fun|189=>285|125=>53|257=>287|128=>88|129=>89|294=>288|295=>289|296=>290|297=>291|298=>292|299=>293|216=>126|300=>294|301=>295|328=>296|329=>109|330=>110|331=>297|332=>298|215=>148|343=>299|n=>n,fun|28=>25|3=>3|46=>174|0=>0|51=>233|53=>160|4=>4|183=>227|182=>226|131=>210|5=>5|9=>9|218=>258|222=>262|228=>282|229=>283|n=>n,fun|n=>n⟩
theorem Tryz.laysSort:Go.Proofs.Lays.n189 Tryz.prog Tryz.laysSort_ren:={mixed:=K_,f125:=Lq Tryz.func53,f128:=Lq Tryz.func88,f129:=Lq Tryz.func89,f189:=Lq Tryz.func285,f215:=Lq Tryz.func148,f216:=Lq Tryz.func126,f257:=Lq Tryz.func287,f294:=Lq Tryz.func288,f295:=Lq Tryz.func289,f296:=Lq Tryz.func290,f297:=Lq Tryz.func291,f298:=Lq Tryz.func292,f299:=Lq Tryz.func293,f300:=Lq Tryz.func294,f301:=Lq Tryz.func295,f328:=Lq Tryz.func296,f329:=Lq Tryz.func109,f330:=Lq Tryz.func110,f331:=Lq Tryz.func297,f332:=Lq Tryz.func298,f343:=Lq Tryz.func299,t0:=Tryz.underlying0,a0:=Tryz.isAgg0,z0:=Tryz.sizeOf0,v0:=Tryz.zeroValue0,t3:=Tryz.underlying3,a3:=Tryz.isAgg3,z3:=Tryz.sizeOf3,v3:=Tryz.zeroValue3,t4:=Tryz.underlying4,a4:=Tryz.isAgg4,z4:=Tryz.sizeOf4,v4:=Tryz.zeroValue4,t5:=Tryz.underlying5,a5:=Tryz.isAgg5,z5:=Tryz.sizeOf5,v5:=Tryz.zeroValue5,t9:=Tryz.underlying9,a9:=Tryz.isAgg9,z9:=Tryz.sizeOf9,v9:=Tryz.zeroValue9,t28:=Tryz.underlying25,a28:=Tryz.isAgg25,z28:=Tryz.sizeOf25,v28:=Tryz.zeroValue25,t46:=Tryz.underlying174,a46:=Tryz.isAgg174,z46:=Tryz.sizeOf174,v46:=Tryz.zeroValue174,t51:=Tryz.underlying233,a51:=Tryz.isAgg233,z51:=Tryz.sizeOf233,v51:=Tryz.zeroValue233,t53:=Tryz.underlying160,a53:=Tryz.isAgg160,z53:=Tryz.sizeOf160,v53:=Tryz.zeroValue160,t131:=Tryz.underlying210,a131:=Tryz.isAgg210,z131:=Tryz.sizeOf210,v131:=Tryz.zeroValue210,t182:=Tryz.underlying226,a182:=Tryz.isAgg226,z182:=Tryz.sizeOf226,v182:=Tryz.zeroValue226,t183:=Tryz.underlying227,a183:=Tryz.isAgg227,z183:=Tryz.sizeOf227,v183:=Tryz.zeroValue227,t218:=Tryz.underlying258,a218:=Tryz.isAgg258,z218:=Tryz.sizeOf258,v218:=Tryz.zeroValue258,t222:=Tryz.underlying262,a222:=Tryz.isAgg262,z222:=Tryz.sizeOf262,v222:=Tryz.zeroValue262,t228:=Tryz.underlying282,a228:=Tryz.isAgg282,z228:=Tryz.sizeOf282,v228:=Tryz.zeroValue282,t229:=Tryz.underlying283,a229:=Tryz.isAgg283,z229:=Tryz.sizeOf283,v229:=Tryz.zeroValue283}
theorem zDc {b:Nat}:∀(vs:List Value) (o:Nat) (w:World),w.setCells b o vs=World.puts b o vs w
 | [],_,_=>rfl
 | v::vs,o,w=>zDc vs (o+1) _
theorem zRi (w:World) (os:Array Obj):Ext w (Go.Sort.grow w os):=by
 refine⟨rfl,rfl,rfl,?_,λj hj=>Go.Sort.heap_grow_old w os hj⟩;show w.heap.size<=(w.heap++os).size;rw [Array.size_append]; omega
theorem Blk.unfrozen {w:World} {b o:Nat} {cs:List Value} (h:Blk w b cs) (ho:o<cs.length):w.frozen? ⟨b,o,none⟩=false:=by
 obtain⟨T,lo,hi,hb,hf⟩:=h;unfold World.frozen?;simp only [hb];obtain⟨rfl,rfl⟩:=hf;simp
theorem s_nd {w0:Base} {w:World} {s:Slc} {xs:List Int} {bs l:List zb} {R:WP} (h:RowC 1 s (xs.map Vi) bs) (st:St w0 (bs++l) w) (hl:s.len<4611686018427387904)
    (k:∀ bs' w',RowC 1 s ((xs.mergeSort λx y=>decide (x<=y)).map Vi) bs'->St w0 (bs'++l) w'->R w'):C_Nc s w R:=by
 have hlen:=h.len;rw [lM,aW] at hlen;have hml:(xs.mergeSort λx y=>decide (x<=y)).length=xs.length:=List.length_mergeSort ..;rcases h with ⟨hp,h0,hc,hx,rfl⟩ | ⟨b,pre,rest,suf,hp,rfl,h1,h2,h3⟩
 ·obtain⟨sp,sl,sc⟩:=s;simp only at hp h0 hc;subst hp; subst h0; subst hc;refine(Any.slices_Sort_int_none Tryz.laysSort none 0 w).mono ?_;rintro e w' ⟨rfl,rfl⟩;have hxs:xs=[]:=aX hlen;subst hxs;exact⟨rfl,k [] _ (.inl ⟨rfl,rfl,rfl,by simp,rfl⟩) st⟩
 ·obtain⟨sp,sl,sc⟩:=s;simp only at hp hlen h3 hl;subst hp; subst hlen
  have hH:Go.Sort.Holds (Value.int .i64) w b pre.length xs.toArray:=λj hj=>by
   have hj:j<xs.length:=by simpa using hj
   refine⟨?_,(st.get 0 rfl).unfrozen (by simp; omega)⟩;refine st.cell 0 rfl ?_;rw [aS O_,show pre.length+j - pre.length=j from by omega,aO (by simpa using hj),aF,aA hj];simp [getElem!_pos,hj]
  have hblk:=st.lt 0 rfl;refine(Any.slices_Sort_int Tryz.laysSort b pre.length sc xs w hH hblk hl).mono ?_;rintro e w' ⟨rfl,n,os,rfl⟩;refine⟨rfl,?_⟩;rw [Go.Lib.sorted_world (Value.int .i64) w b pre.length n xs.toArray _ os hH (by simp),zDc];have st1:=(st.drew ⟨n,rfl⟩).put0 (o:=pre.length) (vs:=(xs.mergeSort λx y=>decide (x<=y)).map (Value.int .i64)) rfl;have e1:pre++(xs.map Vi++(rest++suf))=pre++xs.map Vi++(rest++suf):=by simp only [aN]
  rw [e1,zdb _ _ _ _ (by simp)] at st1;refine k [(b,pre++((xs.mergeSort λx y=>decide (x<=y)).map Vi++(rest++suf)))] _ (.inr ⟨b,pre,rest,suf,rfl,rfl,by simp,by simpa using h2,h3⟩) ?_;have st2:=st1.keep (zRi _ os);rw [aN] at st2;exact st2
theorem zxm {n:Int} {Wt:List (Int×Int)}:wcnt n Wt<=Wt.length:=cI _ _
theorem zol {n m:Int} {Wt:List (Int×Int)} (h:(n,m)∈Wt):1<=wcnt n Wt :=
 List.length_pos_of_mem (bR.2 ⟨h,decide_eq_true rfl⟩)
def zgc (b:Nat) (w:World):Nat:=match w.heap[b]? with
 | some (.mapIter (some m) _ seen _)=>match w.heap[m]? with
  | some (.map es _)=>(es.toList.filter λe=> !seen.contains e.born).length
  | _=>0
 | _=>0
theorem zad {b m s c l:Nat} {seen:Array Nat} {es:Array MapEntry} {w:World} (h:w.heap[b]? =some (.mapIter (some m) s seen l)) (h2:w.heap[m]? =some (.map es c)):zgc b w=(es.toList.filter λe=> !seen.contains e.born).length:=by
 unfold zgc;rw [h];simp only [h2]
theorem z0j {α:Type} {p q:α->Bool}:∀ l:List α,(l.filter λx=> !p x&& !q x).length<=(l.filter λx=> !p x).length
 | []=>bC _
 | y::l=>by
  have:=z0j (p:=p) (q:=q) l;cases h1:p y <;> cases h2:q y <;> simp [h1,h2] <;> omega
theorem z1j {α:Type} {p q:α->Bool} {e:α}:∀ {l:List α},e∈l->p e=false->q e=true->(l.filter λx=> !p x&& !q x).length<(l.filter λx=> !p x).length
 | y::l,he,hp,hq=>by
  rcases aU.1 he with rfl | he
  ·have:=z0j (p:=p) (q:=q) l;simp [hp,hq]; omega
  ·have:=z1j (p:=p) (q:=q) he hp hq;cases h1:p y <;> cases h2:q y <;> simp [h1,h2] <;> omega
theorem zcf {es es':List MapEntry} {seen:Array Nat} {e:MapEntry} (hs:es'.Sublist es) (he:e∈es) (hn:seen.contains e.born=false):(es'.filter λx=> !(seen.push e.born).contains x.born).length<(es.filter λx=> !seen.contains x.born).length:=by
 refine dI (hs.filter _).length_le ?_
 have hp:(λx:MapEntry=> !(seen.push e.born).contains x.born)=λx=> !seen.contains x.born&& !decide (x.born=e.born):=funext λx=>by
  rw [eW]; simp
 rw [hp];exact z1j (p:=λx:MapEntry=>seen.contains x.born) (q:=λx=>decide (x.born=e.born)) he hn (decide_eq_true rfl)
def zob (n:Int) (D:List Int) (Wt:List (Int×Int)):List (Int×Int):=Wt.filter λp=>decide (¬ (p.2=n/\p.1∈D))
theorem zdf {n:Int} {D:List Int} {Wt:List (Int×Int)} {p:Int×Int}:p∈zob n D Wt↔p∈Wt/\¬ (p.2=n/\p.1∈D):=by
 unfold zob; rw [bR,decide_eq_true_iff]
theorem zdh {n:Int} {Wt:List (Int×Int)}:zob n [] Wt=Wt:=by
 unfold zob;exact fK.2 λp hp=>by simp
theorem zeh {n x:Int} {D:List Int} {Wt:List (Int×Int)}:zob n (D++[x]) Wt=(zob n D Wt).filter λp=>decide (p≠(x,n)):=by
 unfold zob;rw [List.filter_filter];refine gT λp hp=> ?_;rw [eW];simp only [decide_eq_true_eq,aD,aG,bK];constructor
 ·exact λh=>⟨λe=>h ⟨by rw [e],.inr (by rw [e])⟩,λhh=>h ⟨hh.1,.inl hh.2⟩⟩
 ·rintro⟨h1,h2⟩ ⟨a,b | b⟩
  ·exact h2 ⟨a,b⟩
  ·exact h1 (Prod.ext b a)
theorem z2j {x n:Int} {Wt:List (Int×Int)} (hd:Wt.Nodup) (hm:(x,n)∈Wt) (y:Int):wcnt y (Wt.filter λp=>decide (p≠(x,n)))+(if y=x then 1 else 0)=wcnt y Wt:=by
 unfold wcnt
 induction Wt with
 | nil=>cases hm
 | cons p l ih =>
  obtain⟨h1,h2⟩:=dP.1 hd;rw [fI,fI];by_cases hp:p=(x,n)
  ·subst hp;have e:l.filter (λp=>decide (p≠(x,n)))=l:=fK.2 λq hq=>decide_eq_true λe=>h1 (e ▸ hq);rw [if_neg (by simp),e];by_cases hy:y=x
   ·subst hy; rw [if_pos rfl,if_pos (by simp),aV]
   ·rw [if_neg hy,if_neg (by simpa using λe=>hy e.symm)]; rfl
  ·have hm:(x,n)∈l:=(aU.1 hm).resolve_left λe=>hp e.symm;have:=ih h2 hm;rw [if_pos (decide_eq_true hp),fI];by_cases hy:p.1=y
   ·have hy':decide (p.1=y)=true:=decide_eq_true hy;simp only [hy',if_true,aV]; omega
   ·have hy':decide (p.1=y)=false:=decide_eq_false hy;simp only [hy',bW,if_false]; exact this
section
variable {W:World} {m0 dm:List (Nat×Obj)} {w:World} {fr bs:List zb} {t:OA} {top:Int} {opn:List Int} {Wt:List (Int×Int)}
theorem s_Vb {n:Int} {R:Slc->Int->WP} (o:DepO t top opn Wt dm bs) (st:St ⟨W,dm++m0⟩ (bs++fr) w) (hn:n∈opn) (hz:∀ p∈Wt,p.1≠n) (hd:opn.Nodup)
    (k:∀(F:List Int) s rb dm' bs' w',F.Nodup->(∀ x,x∈F↔(x,n)∈Wt/\∀ p∈Wt,p.1=x->p.2=n)->RowC 1 s ((F.mergeSort λx y=>decide (x<=y)).map Vi) rb->DepO t top (opn.erase n) (Wt.filter λp=>decide (p.2≠n)) dm' bs'->St ⟨W,dm'++m0⟩ (rb++(bs'++fr)) w'->R s 0 w'):C_pc t n w R:=by
 apply S_cc;unfold F_Td;have o':=o;obtain⟨b,m1,m2,m3,e1,c1,e2,c2,e3,c3,rfl,rfl,rfl,s⟩:=o;refine s_G o' st ⟨N_,λ_=> ?_⟩
 have hv2:zQ e2 (Vi n)=some (Vi (0:Nat)):=by
  rw [s.v2,if_pos hn,zVd hz]
 refine⟨rfl,some m2,st.cell 0 rfl rfl,e2,0,true,.inr ⟨m2,c2,rfl,st.objAt 1 rfl⟩,s.o2.all,s.o2.nodup,⟨_,rfl⟩,MOk.lkIs' (by rw [hv2]; rfl) (by rw [hv2]; rfl),N_,λ_=>⟨N_,λ_=> ?_⟩⟩;refine⟨rfl,some m2,st.cell 0 rfl rfl,m2,e2,c2,rfl,st.objAt 1 rfl,s.o2.all,⟨_,rfl⟩,λe4 w1 hdel hw1=> ?_⟩;have st:=st.mset (a:=[(m1,.map e1 c1)]) hw1;obtain⟨o4,v4a,v4b,_,_⟩:=s.o2.del hdel;refine⟨rfl,some m3,st.cell 0 rfl rfl,m3,e3,c3,rfl,st.objAt 2 rfl,λbi w2 hbi hw2=> ?_⟩;have st:St ⟨W,(bi,.mapIter (some m3) c3 #[] c3)::([(m1,.map e1 c1),(m2,.map e4 c2),(m3,.map e3 c3)]++m0)⟩ _ w2:=st.newObj hbi hw2 λ_ _ _ h=>by cases h
 have hme:∀ y:Int,y∈opn.erase n↔y≠n/\y∈opn:=λy=>hd.mem_erase_iff;have hwl:=s.wl;have htp:=s.tp
 refine⟨λout w'=>∃(D F:List Int) (rb:List zb) (seen:Array Nat) (e2 e3:Array MapEntry) (c2:Nat),RowC 1 out (F.map Vi) rb/\F.length<=D.length/\D.Nodup/\(∀ x∈D,(x,n)∈Wt)/\D.length<=Wt.length/\F.Nodup/\(∀ x,x∈F↔x∈D/\wcnt x (zob n D Wt)=0) /\
  MOk isKI e2 c2/\(∀ y,zQ e2 (Vi y)=if y∈opn.erase n then some (Vi (wcnt y (zob n D Wt))) else none)/\MOk isKP e3 c3/\(∀ x y,zQ e3 (pV x y)=if(x,y)∈zob n D Wt then some (Vo true) else none) /\
  (∀ e∈e3.toList,seen.contains e.born=true->∃ x y,e.key=pV x y/\y≠n) /\
  St ⟨W,(bi,.mapIter (some m3) c3 seen c3)::([(m1,.map e1 c1),(m2,.map e2 c2),(m3,.map e3 c3)]++m0)⟩ (rb++([(b,[mV m1,mV m2,mV m3,Vi top])]++fr)) w',λ_ w'=>zgc bi w',
  ⟨[],[],[],#[],e4,e3,c2,RowC.nil,bC _,cX,λx h=>(by cases h),bU _,cX,λx=>by simp,o4,λy=> ?_,s.o3,λx y=>by rw [zdh]; exact s.v3 x y,λe he h=>(by simp at h),st⟩,?_⟩
 ·rw [zdh];by_cases hy:y=n
  ·subst hy; rw [v4a,if_neg λh=>((hme y).1 h).1 rfl]
  ·rw [v4b _ (λe=>hy (by have e:Vi y=Vi n:=e; simpa using e)),s.v2];simp only [hme,hy,ne_eq,not_false_eq_true,true_and]
 clear st;rintro out w3 ⟨D,F,rb,seen,e2,e3,c2,ro,hFD,hDn,hDW,hDl,hFn,hF,o2,v2,o3,v3,hseen,st⟩;unfold F_ec;refine⟨m3,c3,c3,seen,e3,c3,st.objAt 0 rfl,st.objAt 3 rfl,o3.lt,bC _,λhall=> ?_,λe w4 w5 he hns hd4 hw5=> ?_⟩
 ·unfold F_M;refine⟨N_,λ_=> ?_⟩;have hrl:=ro.len;rw [lM] at hrl;refine s_nd ro st O_ λrb' w6 ro' st=> ?_
  have hlw:zob n D Wt=Wt.filter λp=>decide (p.2≠n):=by
   unfold zob;refine gT λp hp=> ?_;rw [eW];simp only [decide_eq_true_eq];refine⟨λh e=> ?_,λh hh=>h hh.1⟩;have hm:p∈zob n D Wt:=zdf.2 ⟨hp,h⟩;have hlk:=v3 p.1 p.2;rw [if_pos hm] at hlk;obtain⟨x,hx,hk,_⟩:=MOk.lk_mem hlk;obtain⟨a,b,hab,hne⟩:=hseen x hx (hall x hx);rw [hk] at hab
   have hab:p.1=a/\p.2=b:=by
    have:pV p.1 p.2=pV a b:=hab;simpa using this
   exact hne (hab.2 ▸ e)
  rw [hlw] at hF v2 v3
  have hDm:∀ x,x∈D↔(x,n)∈Wt:=λx=>⟨hDW x,λh=>by
   refine bX λhx=> ?_;have hm:(x,n)∈zob n D Wt:=zdf.2 ⟨h,λhh=>hx hh.2⟩;rw [hlw] at hm;have:=(bR.1 hm).2;simp at this⟩
  have st:=st.forget (a:=[_]);refine k F out rb' _ _ w6 hFn (λx=> ?_) ro' ⟨b,m1,m2,m3,e1,c1,e2,c2,e3,c3,rfl,rfl,rfl,⟨s.o1,o2,o3,s.v1,v2,v3,s.tp,λy hy=>s.op y ((hme y).1 hy).2,s.wd.filter _,λp hp=> ?_,?_⟩⟩ st
  ·rw [hF,hDm];refine and_congr_right λhx=>⟨λh p hp e=> ?_,λh=>zVd λp hp e=> ?_⟩
   ·refine bX λhne=> ?_;have:=zol (n:=x) (m:=p.2) (Wt:=Wt.filter λp=>decide (p.2≠n)) (bR.2 ⟨by rw [<-e]; exact hp,decide_eq_true hne⟩);omega
   ·obtain⟨a,c⟩:=bR.1 hp;exact(dT c) (h p a e)
  ·obtain⟨a,c⟩:=bR.1 hp;obtain⟨x,y⟩:=s.wp p a;exact⟨(hme _).2 ⟨hz p a,x⟩,(hme _).2 ⟨dT c,y⟩⟩
  ·exact cH (cI _ _) s.wl
 ·have hus:zgc bi w3=_:=zad (st.objAt 0 rfl) (st.objAt 3 rfl);have st:St ⟨W,(bi,.mapIter (some m3) c3 (seen.push e.born) c3)::([(m1,.map e1 c1),(m2,.map e2 c2),(m3,.map e3 c3)]++m0)⟩ _ w5:=(st.drew hd4).turn (a:=[]) hw5 λ_ _ _ h=>by cases h
  unfold F_M;refine⟨λ_=> ?_,N_⟩;obtain⟨ka,kb,hek,hka,hkb⟩:=o3.all e he;have hlk:=o3.mem_lk he
  have hin:(ka,kb)∈zob n D Wt/\e.val=Vo true:=by
   have h2:=v3 ka kb;rw [hek] at hlk;have hlk:zQ e3 (pV ka kb)=some e.val:=hlk;rw [hlk] at h2;by_cases hm:(ka,kb)∈zob n D Wt
   ·rw [if_pos hm] at h2; exact⟨hm,aE h2⟩
   ·rw [if_neg hm] at h2; cases h2
  obtain⟨hin,hval⟩:=hin;refine⟨m3,c3,c3,seen,e3,e,⟨ka,kb⟩,true,st.objAt 0 rfl,st.objAt 3 rfl,he,o3.bnodup,hek,hval,λb1 w6 hb1 hw6=> ?_⟩;have st:=st.alloc hb1 hw6;refine⟨st.writable 0 rfl (by simp),λw7 hw7=> ?_⟩;have st:St _ ([(b1,[Vi ka,Vi kb])]++(rb++([(b,[mV m1,mV m2,mV m3,Vi top])]++fr))) w7:=st.put0 hw7
  have hcon:∀ x:MapEntry,(seen.push e.born).contains x.born=true->seen.contains x.born=true\/x.born=e.born:=λx h=>by
   simpa using h
  have hborn:∀ x∈e3.toList,x.born=e.born->x=e:=λx hx h=>by
   obtain⟨i,hi⟩:=bG.1 hx;obtain⟨j,hj⟩:=bG.1 he;have a1:(e3.toList.map (·.born))[i]? =some e.born:=by rw [aF,hi]; exact congrArg some h
   have a2:(e3.toList.map (·.born))[j]? =some e.born:=by rw [aF,hj]; rfl
   have:=(dG (gSo a1).1 o3.bnodup).1 (a1.trans a2.symm);subst this;exact aE (hi.symm.trans hj)
  refine⟨O_,O_,kb,st.cell 0 rfl rfl,λhne=> ?_,λheq=> ?_⟩
  ·have hne:kb≠n:=by simpa using hne
   have st:=st.drop1;refine⟨⟨D,F,rb,seen.push e.born,e2,e3,c2,ro,hFD,hDn,hDW,hDl,hFn,hF,o2,v2,o3,v3,λx hx h=> ?_,st⟩,?_⟩
   ·rcases hcon x h with h | h
    ·exact hseen x hx h
    ·rw [hborn x hx h]; exact⟨ka,kb,hek,hne⟩
   ·have:=zad (st.objAt 0 rfl) (st.objAt 3 rfl);show zgc bi w7<zgc bi w3;rw [this,hus];exact zcf (gU _) he hns
  ·have heq:kb=n:=by simpa using heq
   subst heq;intro w8 ex8;have st:=st.drew ex8;have hkP:isKP (Value.agg #[Vi ka,Vi kb]):=⟨ka,kb,rfl,hka,hkb⟩
   refine⟨rfl,some m3,(St.drop (a:=rb) st.drop1).cell 0 rfl rfl,⟨ka,kb⟩,(st.get 0 rfl).all,m3,e3,c3,rfl,st.objAt 3 rfl,o3.all,hkP,λe6 w9 hdel hw9=> ?_⟩;have st:=st.mset (a:=[(bi,_),(m1,.map e1 c1),(m2,.map e2 c2)]) hw9;obtain⟨o6,v6a,v6b,hsub,hkeep⟩:=o3.del hdel;obtain⟨hWm,hnD⟩:=zdf.1 hin;have hnD:ka∉D:=λh=>hnD ⟨rfl,h⟩;obtain⟨hko,_⟩:=s.wp _ hWm;have hkn:ka≠kb:=hz _ hWm;have hke:ka∈opn.erase kb:=(hme _).2 ⟨hkn,hko⟩
   have hnew:∀ y,wcnt y (zob kb (D++[ka]) Wt)+(if y=ka then 1 else 0)=wcnt y (zob kb D Wt):=λy=>by
    rw [zeh];exact z2j (s.wd.filter _) hin y
   have hcnt:=hnew ka;rw [if_pos rfl] at hcnt;have hbnd:wcnt ka (zob kb D Wt)<=Wt.length:=cH zxm (cI _ _);refine λw10 ex10=> ?_;have st:=st.drew ex10;have hl2:=v2 ka;rw [if_pos hke] at hl2;refine⟨rfl,some m2,(St.drop (a:=rb) st.drop1).cell 0 rfl rfl,O_,O_,ka,st.cell 0 rfl rfl,e2,(wcnt ka (zob kb D Wt):Int),true,.inr ⟨m2,c2,rfl,st.objAt 2 rfl⟩,o2.all,o2.nodup,⟨_,rfl⟩,MOk.lkIs' (by rw [hl2]; rfl) (by rw [hl2]; rfl),m2,e2,c2,rfl,st.objAt 2 rfl,o2.all,o2.nodup,⟨_,rfl⟩,λe7 c7 w11 hset hw11=> ?_⟩;have st:=st.mset (a:=[(bi,_),(m1,.map e1 c1)]) hw11;obtain⟨o7,v7a,v7b⟩:=o2.set ⟨_,rfl⟩ hset;have wn:i64.wrap ((wcnt ka (zob kb D Wt):Int) - 1)=(wcnt ka (zob kb (D++[ka]) Wt):Int):=W_;rw [wn] at v7a;refine⟨rfl,some m2,(St.drop (a:=rb) st.drop1).cell 0 rfl rfl,O_,O_,ka,st.cell 0 rfl rfl,e7,(wcnt ka (zob kb (D++[ka]) Wt):Int),true,.inr ⟨m2,c7,rfl,st.objAt 2 rfl⟩,o7.all,o7.nodup,⟨_,rfl⟩,MOk.lkIs' (by rw [v7a]; rfl) (by rw [v7a]; rfl),λw12 ex12=> ?_⟩;have st:=st.keep ex12
   have v7:∀ y,zQ e7 (Vi y)=if y∈opn.erase kb then some (Vi (wcnt y (zob kb (D++[ka]) Wt))) else none:=λy=>by
    by_cases hy:y=ka
    ·subst hy; rw [v7a,if_pos hke]
    ·rw [v7b _ (λe=>hy (by have e:Vi y=Vi ka:=e; simpa using e)),v2];have:=hnew y;rw [if_neg hy,eE] at this;rw [this]
   have v6:∀ x y,zQ e6 (pV x y)=if(x,y)∈zob kb (D++[ka]) Wt then some (Vo true) else none:=λx y=>by
    have hm:(x,y)∈zob kb (D++[ka]) Wt↔(x,y)∈zob kb D Wt/\(x,y)≠(ka,kb):=by rw [zeh,bR,decide_eq_true_iff]
    by_cases hxy:x=ka/\y=kb
    ·obtain⟨rfl,rfl⟩:=hxy;rw [v6a,if_neg λh=>(hm.1 h).2 rfl]
    ·rw [v6b _ (λe=>hxy (by have e:pV x y=pV ka kb:=e; simpa using e)),v3]
     have:(x,y)∈zob kb (D++[ka]) Wt↔(x,y)∈zob kb D Wt:=by
      rw [hm];exact and_iff_left λe=>hxy (by simpa using e)
     simp only [this]
   have hDn':(D++[ka]).Nodup:=cJ.2 ⟨hDn,by simp,λa ha b hb e=>by
    have:b=ka:=by simpa using hb
    exact hnD (by rw [<-this,<-e]; exact ha)⟩
   have hDW':∀ x∈D++[ka],(x,kb)∈Wt:=λx hx=>by
    rcases aG.1 hx with hx | hx
    ·exact hDW x hx
    ·have:x=ka:=by simpa using hx
     rw [this]; exact hWm
   have hDl':(D++[ka]).length<=Wt.length:=by
    have h1:((D++[ka]).map λx=>(x,kb)).Nodup:=cN.2 (hDn'.imp λ{a b} hab e=>hab (Prod.mk.inj e).1)
    have:=List.Nodup.length_le_of_subset h1 (l₂:=Wt) λp hp=>by
     obtain⟨x,hx,rfl⟩:=aQ.1 hp;exact hDW' x hx
    rwa [lM] at this
   have hseen':∀ x∈e6.toList,(seen.push e.born).contains x.born=true->∃ a b,x.key=pV a b/\b≠kb:=λx hx h=>by
    rcases hcon x h with h | h
    ·exact hseen x (hsub.mem hx) h
    ·have:=hborn x (hsub.mem hx) h;subst this;have h6:=o6.mem_lk hx;rw [hek] at h6;have v6a:zQ e6 (Value.agg #[Vi ka,Vi kb])=none:=v6a;rw [v6a] at h6; cases h6
   have hFx:∀ x,x∈F↔x∈D/\wcnt x (zob kb (D++[ka]) Wt)=0:=λx=>by
    rw [hF];refine and_congr_right λhx=> ?_;have:=hnew x;rw [if_neg (λe:x=ka=>hnD (by rw [<-e]; exact hx))] at this;rw [<-this,eE]
   have hDl2:(D++[ka]).length=D.length+1:=by simp
   refine⟨λh0=>⟨O_,O_,ka,st.cell 0 rfl rfl,λb2 w13 hb2 hw13=>⟨[Vi ka],zS hb2 hw13 rfl,?_⟩⟩,λh0=> ?_⟩
   ·have h0:wcnt ka (zob kb (D++[ka]) Wt)=0:=by
      have:((wcnt ka (zob kb (D++[ka]) Wt):Int))=0:=by simpa using h0
      omega
    have hrl:=ro.len;rw [lM] at hrl;refine ro.append ((st.alloc hb2 hw13).drop1).drop1 rfl rfl rfl (by show(out.len+1)*8<=_; omega) λout' rb' w14 ro' st hl'=> ?_;refine⟨⟨D++[ka],F++[ka],rb',seen.push e.born,e7,e6,c7,by rw [aR]; exact ro',by simp; omega,hDn',hDW',hDl',cJ.2 ⟨hFn,by simp,λa ha b hb e=> ?_⟩,λx=> ?_,o7,v7,o6,v6,hseen',st⟩,?_⟩
    ·have:b=ka:=by simpa using hb
     exact hnD (by rw [<-this,<-e]; exact((hF a).1 ha).1)
    ·rw [aG,aG,hFx,bK];constructor
     ·rintro(⟨a,b⟩ | rfl)
      ·exact⟨.inl a,b⟩
      ·exact⟨.inr rfl,h0⟩
     ·rintro⟨a | a,b⟩
      ·exact .inl ⟨a,b⟩
      ·exact .inr a
    ·have:=zad (st.objAt 0 rfl) (st.objAt 3 rfl);show zgc bi w14<zgc bi w3;rw [this,hus];exact zcf hsub he hns
   ·have h0:wcnt ka (zob kb (D++[ka]) Wt)≠0:=by
      have:((wcnt ka (zob kb (D++[ka]) Wt):Int))≠0:=by simpa using h0
      omega
    have st:=st.drop1;refine⟨⟨D++[ka],F,rb,seen.push e.born,e7,e6,c7,ro,O_,hDn',hDW',hDl',hFn,λx=> ?_,o7,v7,o6,v6,hseen',st⟩,?_⟩
    ·rw [hFx,aG,bK];constructor
     ·rintro⟨a,b⟩; exact⟨.inl a,b⟩
     ·rintro⟨a | a,b⟩
      ·exact⟨a,b⟩
      ·subst a; exact absurd b h0
    ·have:=zad (st.objAt 0 rfl) (st.objAt 3 rfl);show zgc bi w12<zgc bi w3;rw [this,hus];exact zcf hsub he hns
end
abbrev Ver:=T_h
def verC (v:Ver):List Value:=[Vi v.Number,Vt v.Val,Vo v.Drop]
theorem zfh (v:Ver):[v].flatMap verC=verC v:=by rw [aY,dW,bZ]
theorem verC_len (v:Ver):(verC v).length=3:=rfl
theorem z3h (l:List Ver):zv (l.flatMap verC)=true:=by
 unfold zv;rw [bP];intro x hx;obtain⟨v,_,hx⟩:=List.mem_flatMap.1 hx;unfold verC at hx;simp only [aU,List.mem_nil_iff,or_false] at hx;rcases hx with rfl | rfl | rfl <;> rfl
theorem zjb (s:ByteArray):(s.toList==Be.toList)=decide (s.size=0):=by
 rw [ByteArray.toList_eq,ByteArray.toList_eq];have:s.data.toList.length=s.size:=by simp
 cases h:s.data.toList with
 | nil=>rw [h] at this; have h0:s.size=0:=by simpa using this.symm
        rw [h0]; rfl
 | cons c r=>rw [h] at this; have h0:¬ s.size=0:=by simp at this; omega
             rw [decide_eq_false h0]; rfl
instance decVer:DecidableEq Ver:=λx y =>
 if h:x.Number=y.Number/\x.Val=y.Val/\x.Drop=y.Drop then isTrue (by cases x; cases y; simp only at h; obtain⟨h1,h2,h3⟩:=h; rw [h1,h2,h3]) else isFalse λe=>h (by rw [e]; exact⟨rfl,rfl,rfl⟩)
theorem ba_eqV (a b:ByteArray):(a==b)=decide (a=b):=by
 cases a; cases b
 rename_i x y
 show(x==y)=_;by_cases h:x=y
 ·subst h; simp
 ·rw [decide_eq_false (λe=>h (ByteArray.mk.inj e))]; simpa using h
def mayV (v:Ver):Bool:=decide (1<=v.Number)&&decide (v.Number<=65536)&&decide (v.Val.size<=1024)&&(!v.Drop||decide (v.Val.size=0))
def okC:Int->List Ver->Bool
 | _,[]=>true
 | p,v::r=>(mayV v&&decide (p<v.Number))&&okC v.Number r
def zhe (vs:List Ver):Prop:=vs.Pairwise λa b=>a.Number<b.Number
theorem z3l:∀ {vs:List Ver} {p:Int},zhe vs->(∀ v∈vs,p<v.Number/\mayV v=true)->okC p vs=true
 | [],_,_,_=>rfl
 | v::r,p,hs,h=>by
  unfold zhe at hs;rw [cZ] at hs;have h0:=h v (aI ..);rw [okC,h0.2,decide_eq_true h0.1,z3l hs.2 λx hx=>⟨hs.1 x hx,(h x (aJ _ hx)).2⟩]; rfl
theorem zHb:∀ {vs:List Ver} {p:Int},okC p vs=true↔zhe vs/\∀ v∈vs,p<v.Number/\mayV v=true
 | [],p=>⟨λ_=>⟨List.Pairwise.nil,λv hv=>by cases hv⟩,λ_=>rfl⟩
 | v::r,p=>by
  refine⟨λh=> ?_,λh=>z3l h.1 h.2⟩;rw [okC] at h;simp only [aD,decide_eq_true_eq] at h;obtain⟨h1,h2⟩:=zHb.1 h.2;refine⟨cZ.2 ⟨λx hx=>(h2 x hx).1,h1⟩,λx hx=> ?_⟩;rcases aU.1 hx with rfl | hx
  ·exact⟨h.1.2,h.1.1⟩
  ·exact⟨by have:=(h2 x hx).1; omega,(h2 x hx).2⟩
def upF (at_:Int) (vs:List Ver):Nat:=(vs.takeWhile λv=>decide (v.Number<=at_)).length
theorem zef (at_:Int) (vs:List Ver):upF at_ vs<=vs.length:=by
 unfold upF;exact(List.takeWhile_sublist _).length_le
theorem zVc {at_:Int}:∀ {vs:List Ver},zhe vs->∀ {i:Nat} {v:Ver},vs[i]? =some v->(v.Number<=at_↔i<upF at_ vs)
 | [],_,i,v,h=>by simp at h
 | x::r,hs,i,v,h=>by
  unfold zhe at hs;rw [cZ] at hs;by_cases hx:x.Number<=at_
  ·have e:upF at_ (x::r)=upF at_ r+1:=by unfold upF; rw [List.takeWhile_cons,if_pos (decide_eq_true hx)]; rfl
   rw [e];cases i with
   | zero=>rw [cA] at h; cases h; omega
   | succ i=>rw [cB] at h; have:=zVc (at_:=at_) hs.2 h; omega
  ·have e:upF at_ (x::r)=0:=by unfold upF; rw [List.takeWhile_cons,if_neg (by simpa using hx)]; rfl
   rw [e];cases i with
   | zero=>rw [cA] at h; cases h; omega
   | succ i =>
    rw [cB] at h;have:=hs.1 v (mG h);omega
theorem zWc {w:World} {s:Slc} {vs:List Ver} (h:zj w s 3 (vs.flatMap verC)) {i:Nat} (hi:i<s.len):IsAt s.ptr/\∃ v,vs[i]? =some v/\zf w (pblk s.ptr) (poff s.ptr+i*3) (verC v):=by
 obtain⟨a,v,hv,hc⟩:=zj.getN h verC_len D_ (i:=(i:Int)) O_ O_;rw [tN] at hv hc;exact⟨a,v,hv,hc⟩
theorem zub {w:World} {s:Slc} {vs:List Ver} (h:zj w s 3 (vs.flatMap verC)):s.len=vs.length:=by
 have:=h.1;rw [zc verC_len] at this;omega
theorem z3j {w:World} {b o:Nat} {v:Ver} (h:zf w b o (verC v)):w.cell? ⟨b,o,none⟩=some (Vi v.Number):=zy.1 h 0 _ rfl
theorem s_b {s:Slc} {vs:List Ver} {w:World} {R:Int->WP} (hs:zj w s 3 (vs.flatMap verC)) (hl:s.len<=4398046511104) (k:∀ w',Ext w w'->R (if okC 0 vs=true then 0 else 1) w'):C_w s w R:=by
 apply S_7c;unfold F_Ag;have hsl:=zub hs;refine⟨λi w'=>∃ p:Nat,i=(p:Int)/\p<=s.len/\okC 0 vs=okC (if p=0 then 0 else((vs[p - 1]?).map (·.Number)).getD 0) (vs.drop p)/\Ext w w',λi _=>s.len - i.toNat,⟨0,rfl,O_,rfl,Ext.refl _⟩,?_⟩;rintro i w1 ⟨p,rfl,hp,hok,e⟩;unfold F_Of;refine⟨λhi=> ?_,λhi=> ?_⟩
 ·have hi:=dT hi;obtain⟨a,v,hv,hc⟩:=zWc (e.src hs) (i:=p) O_;have hpl:=(gSo hv).1
  have hdc:vs.drop p=v::vs.drop (p+1):=by
   rw [bO hpl];rw [aA hpl] at hv;rw [aE hv]
  rw [hdc,okC] at hok;have wp:i64.wrap ((p:Int)+1)=((p+1:Nat):Int):=W_;have st:St ⟨w,[]⟩ [] w1:=(St.start w).keep e;refine⟨a,O_,hi,v,by rw [tN]; exact hc,λb w2 hb hw=> ?_⟩;have st:=st.alloc hb hw;refine⟨st.writable 0 rfl (by simp),λw3 hw3=> ?_⟩;have st:St ⟨w,[]⟩ [(b,verC v)] w3:=st.put0 hw3;obtain⟨prev,hprev⟩:∃ prev,prev=(if p=0 then 0 else((vs[p - 1]?).map (·.Number)).getD 0):=⟨_,rfl⟩
  rw [<-hprev] at hok
  have bad:(mayV v&&decide (prev<v.Number))=false->∀ w',Ext w3 w'->F_f R (p:Int) (λt7' w'=>(∃ p:Nat,t7'=(p:Int)/\p<=s.len/\okC 0 vs=okC (if p=0 then 0 else((vs[p - 1]?).map (·.Number)).getD 0) (vs.drop p)/\Ext w w')/\s.len - t7'.toNat<s.len - ((p:Int)).toNat) true w':=λh w' e'=>by
   unfold F_f;refine⟨λ_=> ?_,λhh=>(by cases hh)⟩;have:=k w' (st.keep e').ext;rw [hok,h] at this;exact this
  have good:(mayV v&&decide (prev<v.Number))=true->∀ w',Ext w3 w'->F_f R (p:Int) (λt7' w'=>(∃ p:Nat,t7'=(p:Int)/\p<=s.len/\okC 0 vs=okC (if p=0 then 0 else((vs[p - 1]?).map (·.Number)).getD 0) (vs.drop p)/\Ext w w')/\s.len - t7'.toNat<s.len - ((p:Int)).toNat) false w':=λh w' e'=>by
   unfold F_f;refine⟨λhh=>(by cases hh),λ_=> ?_⟩;rw [wp];refine⟨⟨p+1,rfl,O_,?_,(st.keep e').ext⟩,L_⟩;rw [hok,h,if_neg O_,Nat.add_sub_cancel,hv]; rfl
  have fin:mayV v=true->(((decide ((p:Int)>0))=true->(IsAt s.ptr/\(0<=i64.wrap ((p:Int) - 1)/\i64.wrap ((p:Int) - 1)<((s.len:Nat):Int)/\(∃(v44:Int),w3.cell? ⟨pblk s.ptr,poff s.ptr+(i64.wrap ((p:Int) - 1)).toNat*3,none⟩=some (Vi v44)/\(∃(v46:Int),w3.cell? ⟨b,0,none⟩=some (Vi v46)/\(∀ w9,Ext w3 w9->F_f R (p:Int) (λt7' w'=>(∃ p:Nat,t7'=(p:Int)/\p<=s.len/\okC 0 vs=okC (if p=0 then 0 else((vs[p - 1]?).map (·.Number)).getD 0) (vs.drop p)/\Ext w w')/\s.len - t7'.toNat<s.len - ((p:Int)).toNat) (decide (v44>=v46)) w9)))))) /\
      ((decide ((p:Int)>0))=false->(∀ w10,Ext w3 w10->F_f R (p:Int) (λt7' w'=>(∃ p:Nat,t7'=(p:Int)/\p<=s.len/\okC 0 vs=okC (if p=0 then 0 else((vs[p - 1]?).map (·.Number)).getD 0) (vs.drop p)/\Ext w w')/\s.len - t7'.toNat<s.len - ((p:Int)).toNat) false w10))):=λhm=>by
   refine⟨λh0=> ?_,λh0=> ?_⟩
   ·have h0:=dT h0;have wm:i64.wrap ((p:Int) - 1)=((p - 1:Nat):Int):=W_;obtain⟨a',u,hu,hc'⟩:=zWc (st.ext.src hs) (i:=p - 1) O_;rw [wm];refine⟨a',O_,O_,u.Number,by rw [tN]; exact z3j hc',v.Number,st.cell 0 rfl rfl,λw9 e9=> ?_⟩;have hpu:prev=u.Number:=by rw [hprev,if_neg O_,hu]; rfl
    by_cases hlt:prev<v.Number
    ·rw [decide_eq_false O_];exact good (by rw [hm,decide_eq_true hlt]; rfl) w9 e9
    ·rw [decide_eq_true O_];exact bad (by rw [hm,decide_eq_false hlt]; rfl) w9 e9
   ·have h0:=dF h0;have hpu:prev=0:=by rw [hprev,if_pos O_]
    have hn1:1<=v.Number:=by
     unfold mayV at hm;simp only [aD,decide_eq_true_eq] at hm;exact hm.1.1.1
    exact λw10 e10=>good (by rw [hm,decide_eq_true O_]; rfl) w10 e10
  refine⟨v.Number,st.cell 0 rfl rfl,λh1=> ?_,λh1=>⟨v.Number,st.cell 0 rfl rfl,λh2=> ?_,λh2=>⟨v.Val,st.cell 0 rfl rfl,λh3=> ?_,λh3=>⟨v.Drop,st.cell 0 rfl rfl,λh4=>⟨v.Val,st.cell 0 rfl rfl,λh5=> ?_,λh5=> ?_⟩,λh4=> ?_⟩⟩⟩⟩
  ·have h1:=dT h1;exact λw5 e5=>bad (by unfold mayV; rw [decide_eq_false O_]; rfl) w5 e5
  ·have h2:=dT h2;exact λw5 e5=>bad (by unfold mayV; rw [decide_eq_false (show ¬ v.Number<=65536 by omega),Bool.and_false]; rfl) w5 e5
  ·have h3:=dT h3;exact λw5 e5=>bad (by unfold mayV; rw [decide_eq_false (show ¬ v.Val.size<=1024 by omega),Bool.and_false]; rfl) w5 e5
  ·rw [zjb] at h5;have h5:¬ v.Val.size=0:=by simpa using h5
   exact λw5 e5=>bad (by unfold mayV; rw [h4,decide_eq_false h5]; simp) w5 e5
  ·rw [zjb] at h5;have h5:v.Val.size=0:=by simpa using h5
   have h1:=dF h1;have h2:=dF h2;have h3:=dF h3;exact fin (by unfold mayV; rw [decide_eq_true (show 1<=v.Number by omega),decide_eq_true (show v.Number<=65536 by omega),decide_eq_true (show v.Val.size<=1024 by omega),decide_eq_true h5]; simp)
  ·have h1:=dF h1;have h2:=dF h2;have h3:=dF h3;exact fin (by unfold mayV; rw [decide_eq_true (show 1<=v.Number by omega),decide_eq_true (show v.Number<=65536 by omega),decide_eq_true (show v.Val.size<=1024 by omega),h4]; rfl)
 ·have hi:=dF hi;rw [cL O_,okC] at hok;have:=k w1 e;rw [hok] at this; exact this
theorem s_od {s:Slc} {vs:List Ver} {at_:Int} {p:Nat} {w:World} {R:Bool->WP} (hs:zj w s 3 (vs.flatMap verC)) (hp:p<s.len) (k:∀ v w',vs[p]? =some v->Ext w w'->R (decide (v.Number>at_)) w') :
    C_7c ⟨s,at_⟩ (p:Int) w R:=by
 apply S_Ob;unfold F_jf;intro b w1 hb hw;have st:=(St.start w).alloc hb hw;obtain⟨a,v,hv,hc⟩:=zWc (st.ext.src hs) hp;exact⟨s,st.cell 0 rfl rfl,a,O_,O_,v.Number,by rw [tN]; exact z3j hc,at_,st.cell 0 rfl rfl,λw2 e2=>k v w2 hv (st.keep e2).ext⟩
theorem s_P {s:Slc} {vs:List Ver} {at_:Int} {w:World} {R:Int->WP} (hs:zj w s 3 (vs.flatMap verC)) (hl:s.len<=4398046511104) (hr:zhe vs) (k:∀ w',Ext w w'->R (upF at_ vs:Int) w'):C_S s at_ w R:=by
 apply S_dc;unfold F_Bf;apply S_8c;unfold F_Gg;have hsl:=zub hs;have hu:=zef at_ vs;refine⟨λi j w'=>∃ a b:Nat,i=(a:Int)/\j=(b:Int)/\a<=upF at_ vs/\upF at_ vs<=b/\b<=s.len/\Ext w w',λi j _=>j.toNat - i.toNat,⟨0,s.len,rfl,rfl,O_,O_,O_,Ext.refl _⟩,?_⟩;rintro i j w1 ⟨a,b,rfl,rfl,h1,h2,h3,e⟩;unfold F_2f;refine⟨λh=> ?_,λh=> ?_⟩
 ·have h:=dT h
  have hm:i64.wrap (Int.fdiv (u64.wrap (i64.wrap ((a:Int)+(b:Int)))) (2 ^ 1))=(((a+b) / 2:Nat):Int):=by
   rw [i64_in ((a:Int)+(b:Int)) O_ O_,zrh _ O_ O_,show((a:Int)+(b:Int))=((a+b:Nat):Int) from by omega];rw [show Int.fdiv ((a+b:Nat):Int) (2 ^ 1)=(((a+b) / 2:Nat):Int) from z0e (a+b) 2,i64_in _ O_ O_]
  rw [hm];refine zw.mk (all:=#[Value.agg #[Vs s,Vi at_],Vi (((a+b) / 2:Nat):Int)]) K_ rfl ?_;refine Calls.mono (s_od (at_:=at_) (p:=(a+b) / 2) (e.src hs) O_ (R:=λr w'=>∃ v,vs[(a+b) / 2]? =some v/\r=decide (v.Number>at_)/\Ext w1 w') λv w' hv e'=>⟨v,hv,rfl,e'⟩) ?_;rintro e' w2 ⟨r,rfl,v,hv,rfl,e2⟩;have hiff:=zVc (at_:=at_) hr hv;refine⟨_,rfl,λhh=> ?_,λhh=> ?_⟩
  ·have hh:¬ v.Number>at_:=by simpa using hh
   have wm:i64.wrap ((((a+b) / 2:Nat):Int)+1)=(((a+b) / 2+1:Nat):Int):=W_;rw [wm];exact⟨⟨(a+b) / 2+1,b,rfl,rfl,O_,h2,h3,e.trans e2⟩,L_⟩
  ·have hh:v.Number>at_:=by simpa using hh
   exact⟨⟨a,(a+b) / 2,rfl,rfl,h1,O_,O_,e.trans e2⟩,L_⟩
 ·have h:=dF h;have:=k w1 e;rw [show upF at_ vs=a from by omega] at this;exact this
section
variable {w0:Base} {w:World} {fr:List zb}
theorem s_o {s:Slc} {vs:List Ver} {R:Slc->WP} (st:St w0 fr w) (hs:zj w s 3 (vs.flatMap verC)) (hl:s.len<=4398046511104)
    (k:∀ s' rb w',RowC 3 s' (vs.flatMap verC) rb->St w0 (rb++fr) w'->Ext w w'->s'.len=vs.length->R s' w'):C_a s w R:=by
 apply S_b;unfold F_F;have hlen:=zub hs;refine⟨λh=> ?_,λh=>λb w1 hb hw=> ?_⟩
 ·have hp:s.ptr=none:=by simpa using h
  have:vs.flatMap verC=[]:=by
   obtain⟨_,h2 | ⟨h2,_⟩⟩:=hs
   ·exact h2
   ·rw [hp] at h2; cases h2
  have h0:=zc verC_len vs;rw [this] at h0;have hv:vs=[]:=aX (by simp at h0; omega);subst hv;exact k _ [] _ RowC.nil st (Ext.refl _) rfl
 ·have st2:=(St.start w).alloc hb hw;refine⟨_,st2.ext.src hs,?_⟩;refine(RowC.new (b:=b) (xs:=[]) (n:=0) rfl:RowC 3 ⟨some ⟨b,0,none⟩,0,0⟩ [] [(b,[])]).append st2 (by rw [zc verC_len,hlen]) (z3h vs) rfl (by show(0+s.len)*32<=_; omega) λs' rb w' r st' hl'=> ?_;have st3:St ⟨w,[]⟩ rb w':=by simpa using st'
  exact k _ _ _ (by simpa using r) (St.join st st3) st3.ext (by rw [hl']; show 0+s.len=_; omega)
end
section
variable {w0:Base} {w:World} {fr:List zb}
theorem s_9 {s:Slc} {vs:List Ver} {x:Ver} {i vb:Nat} {rb:List zb} {R:Slc->WP} (r:RowC 3 s (vs.flatMap verC) rb) (st:St w0 (rb++([(vb,verC x)]++fr)) w) (hpl:Plain w vb) (hl:s.len<=1099511627776) (hi:i<=s.len)
    (k:∀ s' rb' w',RowC 3 s' ((vs.take i++x::vs.drop i).flatMap verC) rb'->St w0 (rb'++fr) w'->s'.len=vs.length+1->R s' w'):C_k s (i:Int) (Slc.mk (Z0 vb) 1 1) w R:=by
 apply S_j;unfold F_E;have hsl:s.len=vs.length:=by have:=r.len; rw [zc verC_len] at this; omega
 have hcl:=r.cap_le;have hx:zv (verC x)=true:=rfl;have vsrc:∀ {rb:List zb} {w':World},St w0 (rb++([(vb,verC x)]++fr)) w'->zj w' (Slc.mk (Z0 vb) 1 1) 3 (verC x):=λst=>⟨rfl,.inr ⟨rfl,(st.drop.get 0 rfl).all⟩⟩
 have hti:(vs.take i).length=i:=by rw [aZ]; omega
 have htc:((vs.take i).flatMap verC).length=i*3:=by rw [zc verC_len,hti]
 have hdi:(vs.drop i).length=vs.length - i:=bJ ..;have hdc:((vs.drop i).flatMap verC).length=(vs.length - i)*3:=by rw [zc verC_len,hdi]
 have hsplit:vs.flatMap verC=(vs.take i).flatMap verC++(vs.drop i).flatMap verC:=by rw [<-bE,bM]
 refine⟨⟨O_,O_,O_,O_⟩,λs1 _=>⟨λh=>by simp at h,λ_=>⟨λh=> ?_,λh=> ?_⟩⟩⟩
 ·have h:i=s.len:=by have:(i:Int)=((s.len:Nat):Int):=by simpa using h
                     omega
  refine⟨_,vsrc st,r.append st rfl hx rfl (by show(s.len+1)*32<=_; omega) λs' rb' w' r' st' hl'=>k s' rb' w' ?_ st'.skip2 (by rw [hl',hsl])⟩;rw [bF O_,cL O_,bE];simpa using r'
 have hne:i<s.len:=by
  have:(i:Int)≠((s.len:Nat):Int):=by simpa using h
  omega
 have w1:i64.wrap (((s.len:Nat):Int)+((1:Nat):Int))=((s.len+1:Nat):Int):=W_;have w2:i64.wrap (((s.len+1:Nat):Int) - (i:Int))=((s.len+1 - i:Nat):Int):=W_;have w3:i64.wrap ((i:Int)+((1:Nat):Int))=((i+1:Nat):Int):=W_;show((decide ((i64.wrap (((s.len:Nat):Int)+((1:Nat):Int)))>((s.cap:Nat):Int)))=true->_)/\_;rw [w1];refine⟨λh=> ?_,λh=> ?_⟩
 ·have h:=dT h;show 0<=(i:Int)/\(i:Int)<=((s.cap:Nat):Int)/\(0<=i64.wrap (((s.len+1:Nat):Int) - (i:Int))/\_)
  rw [w2,tN,tN];refine⟨O_,O_,O_,O_,?_⟩;refine⟨λhc=>by have hc:i+(s.len+1 - i)<=s.cap:=hc; omega,λhc=>⟨growslice_fits hc (by show(i+(s.len+1 - i))*32<=_; omega),(vs.take i).flatMap verC,?_,λcap b w4 hcap _ hb hw=> ?_⟩⟩
  ·have hp:=(r.src st).pre (k:=i) O_;rw [hsplit,dL O_,bF O_] at hp;exact hp
  ·have hE:Ext w w.drew:=Qt.ext ⟨1,rfl⟩;have st2:=(st.keep hE).alloc hb hw
   have hz:∀ n,(zp n [Vi 0,Vt Be,Vo false]).toList.length=n*3:=λn=>by
    unfold zp;simp [eL]
   have hcap':s.len+1<=cap:=by have hcap:i+(s.len+1 - i)<=cap:=hcap; omega
   have r2:RowC 3 ⟨some ⟨b,0,none⟩,s.len+1,cap⟩ ((vs.take i).flatMap verC++(zp (s.len+1 - i) [Vi 0,Vt Be,Vo false]).toList) [(b,(vs.take i).flatMap verC++(zp (s.len+1 - i) [Vi 0,Vt Be,Vo false]).toList++(zp (cap - (s.len+1)) [Vi 0,Vt Be,Vo false]).toList)]:=by
    refine .inr ⟨b,[],(zp (cap - (s.len+1)) [Vi 0,Vt Be,Vo false]).toList,[],rfl,by simp,?_,?_,hcap'⟩
    ·rw [aB,hz,htc]; show i*3+_=(s.len+1)*3; omega
    ·rw [aB,hz,hz,htc]; show i*3+_+_=cap*3; omega
   have e4:i+(s.len+1 - i)=s.len+1:=O_;rw [e4] at st2;rw [e4];have st2:St w0 ([(b,(vs.take i).flatMap verC++(zp (s.len+1 - i) [Vi 0,Vt Be,Vo false]).toList++(zp (cap - (s.len+1)) [Vi 0,Vt Be,Vo false]).toList)]++(rb++([(vb,verC x)]++fr))) w4:=st2;show(0<=(i:Int)/\(i:Int)<=((s.len+1:Nat):Int)/\((s.len+1:Nat):Int)<=((cap:Nat):Int)/\((cap:Nat):Int)<=((cap:Nat):Int))/\_;refine⟨⟨O_,O_,O_,O_⟩,λs3 hs3=> ?_⟩;have hs3l:s3.len=s.len+1 - i:=by rw [hs3,Slc.cut_len O_ (by show(i:Int)<=((s.len+1:Nat):Int); omega)]; simp
   have hmin:min 1 s3.len=1:=O_;refine⟨verC x,?_,?_⟩
   ·show zsb w4 _ (min 1 s3.len) 3 _;rw [hmin]; exact vsrc st2.drop
   rw [hs3];refine r2.overN (lo:=i) (m:=1) st2 rfl D_ D_ (by show i+1<=s.len+1; omega) rfl rfl hx λnb w5 r3 st3=> ?_;intro w6 e6;have st3:=st3.drew e6;show(0<=i64.wrap ((i:Int)+((1:Nat):Int))/\_)/\_;rw [w3];refine⟨⟨O_,by show((i+1:Nat):Int)<=((s.len+1:Nat):Int); omega,by show((s.len+1:Nat):Int)<=((cap:Nat):Int); omega,eO _⟩,λs4 hs4=>⟨⟨O_,O_,O_,O_⟩,λs5 hs5=> ?_⟩⟩;have hs4l:s4.len=s.len - i:=by rw [hs4,Slc.cut_len O_ (by show((i+1:Nat):Int)<=((s.len+1:Nat):Int); omega)]; (simp only [tN]) <;> omega
   have hs5l:s5.len=s.len - i:=by rw [hs5,Slc.cut_len O_ O_]; simp
   have hsrc5:=(r.src st3.swap).cut (lo:=(i:Int)) (hi:=((s.len:Nat):Int)) (mx:=((s.cap:Nat):Int)) O_ O_ O_ O_;rw [<-hs5,tN,tN,hsplit,eD htc,bF O_] at hsrc5;refine⟨(vs.drop i).flatMap verC,?_,?_⟩
   ·have:min s5.len s4.len=s5.len:=O_;rw [this]; exact hsrc5
   rw [hs4];refine r3.overN (lo:=i+1) (m:=s.len - i) st3 (by rw [hdc,hsl]) O_ D_ (by show i+1+(s.len - i)<=s.len+1; omega) rfl rfl (z3h _) λnb2 w7 r4 st4=> ?_;refine k _ nb2 w7 ?_ (st4.skip2.skip2) (by show s.len+1=_; omega)
   have e5:(((vs.take i).flatMap verC++(zp (s.len+1 - i) [Vi 0,Vt Be,Vo false]).toList).take (i*3)++verC x++((vs.take i).flatMap verC++(zp (s.len+1 - i) [Vi 0,Vt Be,Vo false]).toList).drop (i*3+(verC x).length)).take ((i+1)*3)=(vs.take i).flatMap verC++verC x:=by
    rw [List.take_left' htc,dL (by rw [aB,htc,verC_len]; omega),bF (by rw [aB,htc,verC_len]; omega)]
   rw [e5] at r4;have r4:=r4.trim (by simp only [aB,htc,hdc,verC_len]; show _=(s.len+1)*3; omega);rw [bE,aY];simpa using r4
 ·have h:=dF h;rw [tN];refine⟨O_,O_,?_⟩;show(0<=i64.wrap ((i:Int)+((1:Nat):Int))/\_)/\_;rw [w3];obtain⟨js,hjs,r2⟩:=r.extend (n:=s.len+1) O_ O_ O_;have hjs:js.length=3:=by rw [hjs]; omega
  refine⟨⟨O_,O_,O_,O_⟩,λs6 hs6=> ?_⟩
  obtain⟨b,pre,rest,suf,hp,hrb,hx1,hx2,hx3⟩:∃ b pre rest suf,s.ptr=some ⟨b,pre,none⟩/\rb=[(b,suf)]/\rest=suf.length/\0<suf.length/\True:=by
   rcases r with ⟨hp,hl0,_⟩ | ⟨b,pre,rest,suf,hp,hrb,hx,hr,hle⟩
   ·omega
   ·refine⟨b,pre.length,_,_,hp,hrb,rfl,?_,trivial⟩;have:(vs.flatMap verC).length=vs.length*3:=zc verC_len vs;simp only [aB]; omega
  have hov:zUg w (Slc.mk (Z0 vb) 1 1) s6:=by
   have hptr:s6.ptr=some ⟨b,pre+(i+1)*3,none⟩:=by
    rw [hs6]; unfold Slc.cut;simp only [tN];rw [if_neg O_,hp];simp [addr_add]
   rw [hrb] at st
   have hnb:vb≠b:=λe=>by
    have:=st.nodup;subst e;simp at this
   obtain⟨TB,hB⟩:=(show St w0 ((b,suf)::([(vb,verC x)]++fr)) w from st).shape;obtain⟨TA,hA⟩:=(show St w0 ((vb,verC x)::fr) w from st.drop1).shape;refine⟨rfl,by rw [hptr]; rfl,by rw [hptr]; exact hnb,TA,_,TB,_,hA,by rw [hptr]; exact hB,O_,hpl⟩
  refine⟨hov,λ_=> ?_,λh=>by simp at h⟩;intro w6 e6;have st:=st.drew e6;have hA:(⟨s.ptr,s.len+1,s.cap⟩:Slc).len=s.len+1:=rfl;refine⟨⟨O_,O_,O_,O_⟩,λs7 hs7=>⟨⟨O_,O_,O_,O_⟩,λs8 hs8=> ?_⟩⟩;have hs7l:s7.len=s.len - i:=by rw [hs7,Slc.cut_len O_ O_]; (simp only [tN]) <;> omega
  have hs8l:s8.len=s.len+1 - i:=by rw [hs8,Slc.cut_len O_ O_]; simp
  have hsrc8:=(r2.src st).cut (lo:=(i:Int)) (hi:=((s.len+1:Nat):Int)) (mx:=((s.cap:Nat):Int)) O_ O_ (by show((s.len+1:Nat):Int)<=((s.len+1:Nat):Int); omega) O_;rw [<-hs8,tN,tN,hsplit,aN,eD htc,bF (by rw [aB,hdc,hjs]; omega)] at hsrc8;refine⟨(vs.drop i).flatMap verC,?_,?_⟩
  ·have hmn:min s8.len s7.len=s.len - i:=O_;rw [hmn];have:=ztl hsrc8 (k:=s.len - i) O_;rw [List.take_left' (by rw [hdc,hsl])] at this;exact this
  rw [hs7];refine r2.overN (lo:=i+1) (m:=s.len - i) st (by rw [hdc,hsl]) O_ D_ (by show i+1+(s.len - i)<=s.len+1; omega) rfl rfl (z3h _) λnb w7 r3 st3=> ?_
  have hA:(vs.flatMap verC++js).take ((i+1)*3)=(vs.take i).flatMap verC++(((vs.drop i).flatMap verC++js).take 3):=by
   rw [hsplit,aN,List.take_append,htc,bF O_,show(i+1)*3 - i*3=3 from by omega]
  have h3:(((vs.drop i).flatMap verC++js).take 3).length=3:=by rw [aZ,aB,hdc,hjs]; omega
  rw [hA] at r3;generalize ((vs.drop i).flatMap verC++js).take 3=J at r3 h3;have r3:=r3.trim (by simp only [aB,htc,hdc,h3]; show _=(s.len+1)*3; omega);have eX1:(((vs.take i).flatMap verC++J)++(vs.drop i).flatMap verC).take (i*3)=(vs.take i).flatMap verC:=by rw [aN,List.take_left' htc]
  have eX2:(((vs.take i).flatMap verC++J)++(vs.drop i).flatMap verC).drop (i*3+3)=(vs.drop i).flatMap verC:=eD (by rw [aB,htc,h3]);refine⟨⟨O_,O_,O_,O_⟩,λs9 hs9=> ?_⟩;have hs9l:s9.len=s.len+1 - i:=by rw [hs9,Slc.cut_len O_ O_]; simp
  refine⟨verC x,?_,?_⟩
  ·have hmn:min (1:Nat) s9.len=1:=O_;show zsb w7 _ (min 1 s9.len) 3 _;rw [hmn]; exact vsrc st3
  rw [hs9];refine r3.overN (lo:=i) (m:=1) st3 rfl D_ D_ (by show i+1<=s.len+1; omega) rfl rfl hx λnb2 w8 r4 st4=> ?_;refine k _ nb2 w8 ?_ st4.skip2 (by show s.len+1=_; omega);rw [eX1,verC_len,eX2] at r4;rw [bE,aY];simpa using r4
end
def zvg (x:Ver) (vs:List Ver):List Ver:=vs.take (upF x.Number vs)++x::vs.drop (upF x.Number vs)
theorem zym {vs:List Ver} {n:Int} (hr:zhe vs) (h0:0<upF n vs) {u:Ver} (hu:vs[upF n vs - 1]? =some u):(∃ y∈vs,y.Number=n)↔u.Number=n:=by
 refine⟨λ⟨y,hy,he⟩=> ?_,λh=>⟨u,mG hu,h⟩⟩;obtain⟨j,hj⟩:=bG.1 hy;have h1:=(zVc (at_:=n) hr hj).1 O_;have h2:=(zVc (at_:=n) hr hu).2 O_;by_cases hjk:j=upF n vs - 1
 ·rw [hjk,hu] at hj; rw [aE hj]; exact he
 ·exfalso;have hjl:=(gSo hj).1;have hul:=(gSo hu).1;have:=eB.1 hr j (upF n vs - 1) hjl hul O_;rw [(gSo hj).2,(gSo hu).2] at this;omega
theorem zpl {vs:List Ver} {n:Int} (hr:zhe vs) (h0:upF n vs=0):∀ y∈vs,y.Number≠n:=λy hy he=>by
 obtain⟨j,hj⟩:=bG.1 hy;have:=(zVc (at_:=n) hr hj).1 O_;omega
section
variable {w0:Base} {w:World} {fr:List zb}
theorem zzm (x:Ver):okC 0 [x]=mayV x:=by
 unfold okC okC;cases h:mayV x with
 | false=>rfl
 | true =>
  unfold mayV at h;simp only [aD,decide_eq_true_eq] at h;rw [decide_eq_true O_]; rfl
theorem s_Wb {l:Slc} {vs:List Ver} {x:Ver} {R:Slc->Bool->Int->WP} (st:St w0 fr w) (hs:∀ {l':List zb} {w':World},St w0 (l'++fr) w'->zj w' l 3 (vs.flatMap verC)) (hl:l.len<=1099511627776)
    (k0:(okC 0 vs&&mayV x)=false->∀ w',St w0 fr w'->R ⟨none,0,0⟩ false 1 w')
    (k1:okC 0 vs=true->mayV x=true->(∃ y∈vs,y.Number=x.Number)->∀ s rb w',RowC 3 s (vs.flatMap verC) rb->St w0 (rb++fr) w'->s.len=vs.length->R s false 0 w')
    (k2:okC 0 vs=true->mayV x=true->(∀ y∈vs,y.Number≠x.Number)->∀ s rb w',RowC 3 s ((zvg x vs).flatMap verC) rb->St w0 (rb++fr) w'->s.len=vs.length+1->R s true 0 w'):C_td l x w R:=by
 apply S_ld;unfold F_og;intro b w1 hb hw;have st:St w0 ([(b,verC x)]++fr) w1:=st.alloc hb hw;have hsl:=zub (hs st)
 have bad:(okC 0 vs&&mayV x)=false->∀ w',St w0 ([(b,verC x)]++fr) w'->F_sb l R b true w':=λh w' st=>by
  unfold F_sb;exact⟨λ_=>k0 h w' st.drop,λhh=>(by cases hh)⟩
 refine s_b (hs st) O_ λw2 e2=> ?_;have st:=st.keep e2;cases hok:okC 0 vs with
 | false=>exact⟨λ_=>bad (by rw [hok]; rfl) _ st,λh=>by simp at h⟩
 | true =>
 refine⟨λh=>by simp at h,λ_=>⟨x,(st.get 0 rfl).all,λb3 w3 hb3 hw3=> ?_⟩⟩;have st3:=st.alloc hb3 hw3;refine s_b (vs:=[x]) ⟨rfl,.inr ⟨rfl,(st3.get 0 rfl).all⟩⟩ (by show 1<=_; omega) λw4 e4=> ?_;have st:St w0 ([(b,verC x)]++fr) w4:=(st3.keep e4).drop1;rw [zzm];cases hm:mayV x with
 | false=>exact bad (by rw [hok,hm]; rfl) _ st
 | true =>
 have hr:=(zHb.1 hok).1;have hu:=zef x.Number vs;have e0:(((if(true:Bool)=true then 0 else 1:Int)) != 0)=false:=rfl;rw [e0];unfold F_sb;refine⟨N_,λ_=>⟨x.Number,st.cell 0 rfl rfl,s_P (hs st) O_ hr λw5 e5=> ?_⟩⟩;have st:=st.keep e5
 have fin0:(∀ y∈vs,y.Number≠x.Number)->∀ w',St w0 ([(b,verC x)]++fr) w'->F_rb l R b (upF x.Number vs:Int) false w':=λhno w' st=>by
  unfold F_rb;refine⟨N_,λ_ w6 e6=> ?_⟩;have st:=st.drew e6;refine⟨x,(st.get 0 rfl).all,?_,λb2 w10 hb2 hw10=> ?_⟩
  ·refine s_o st (hs st) O_ λs rb w7 rs st7 e7 hs7=>⟨(st7.drop.get 0 rfl).all,λb1 w8 hb1 hw8=> ?_⟩
   have st8:St w0 (rb++([(b1,verC x)]++([(b,verC x)]++fr))) w8:=(st7.alloc hb1 hw8).mid;exact s_9 (x:=x) rs st8 (Plain.new hb1 hw8) O_ O_ λs' rb' w9 r9 st9 hl9=>k2 hok hm hno s' rb' w9 r9 st9.skip2 hl9
  ·have st10:St w0 ([(b2,verC x)]++([(b,verC x)]++fr)) w10:=st.alloc hb2 hw10;refine s_o st10 (hs (l':=[(b2,verC x)]++[(b,verC x)]) st10) O_ λs rb w11 rs st11 e11 hs11=> ?_;exact s_9 (x:=x) rs st11 ((Plain.new hb2 hw10).ext e11 (st10.lt 0 rfl)) O_ O_ λs' rb' w9 r9 st9 hl9=>k2 hok hm hno s' rb' w9 r9 st9.skip2 hl9
 refine⟨λh=> ?_,λh w14 e14=> ?_⟩
 ·have h:=dT h;have wm:i64.wrap (((upF x.Number vs:Nat):Int) - 1)=((upF x.Number vs - 1:Nat):Int):=W_;obtain⟨a,u,hv,hc⟩:=zWc (hs st) (i:=upF x.Number vs - 1) O_;rw [wm];refine⟨a,O_,O_,u.Number,by rw [tN]; exact z3j hc,x.Number,st.cell 0 rfl rfl,λw13 e13=> ?_⟩;have st:=st.keep e13;have hiff:=zym hr O_ hv;by_cases he:u.Number=x.Number
  ·rw [show(u.Number==x.Number)=true from by simpa using he];unfold F_rb;refine⟨λ_=>s_o st (hs st) O_ λs rb w7 rs st7 e7 hs7=>k1 hok hm (hiff.2 he) s rb w7 rs st7.skip2 hs7,N_⟩
  ·rw [show(u.Number==x.Number)=false from by simpa using he];exact fin0 (λy hy hye=>he (hiff.1 ⟨y,hy,hye⟩)) _ st
 ·have h:=dF h;exact fin0 (zpl hr O_) _ (st.keep e14)
end
theorem RowC.srcM {sz:Nat} {s:Slc} {xs:List Value} {rb L:List zb} {w0:Base} {w:World} (h:RowC sz s xs rb) (hm:∀ c∈rb,c∈L) (st:St w0 L w):zj w s sz xs:=by
 rcases h with ⟨h1,h2,h3,rfl,_⟩ | ⟨b,pre,rest,suf,hp,rfl,h1,h2,h3⟩
 ·exact⟨by simp [h2],.inl rfl⟩
 ·refine⟨h1,.inr ?_⟩;rw [hp];refine⟨rfl,(st.blk _ (hm _ (aI ..))).cells λi v hi=> ?_⟩;have hl:=(gSo hi).1;show(pre++(xs++(rest++suf)))[pre.length+i]? =some v;rw [aS O_,aO O_];rw [show pre.length+i - pre.length=i from by omega];exact hi
def InC (vb:List zb) (s:Slc) (vs:List Ver):Prop:=∃ rb,RowC 3 s (vs.flatMap verC) rb/\∀ c∈rb,c∈vb
theorem InC.mono {vb vb':List zb} {s:Slc} {vs:List Ver} (h:InC vb s vs) (hm:∀ c∈vb,c∈vb'):InC vb' s vs:=by
 obtain⟨rb,a,b⟩:=h;exact⟨rb,a,λc hc=>hm c (b c hc)⟩
theorem InC.src {vb L:List zb} {s:Slc} {vs:List Ver} {w0:Base} {w:World} (h:InC vb s vs) (hm:∀ c∈vb,c∈L) (st:St w0 L w):zj w s 3 (vs.flatMap verC):=by
 obtain⟨rb,a,b⟩:=h;exact a.srcM (λc hc=>hm c (b c hc)) st
abbrev mayK (k:ByteArray):Prop:=1<=k.size/\k.size<=64
abbrev SM:=ByteArray->List Ver
def KeyV (es:Array MapEntry) (vb:List zb) (k:ByteArray) (vs:List Ver):Prop :=
 (zQ es (.string k)=none/\vs=[])\/∃ s,zQ es (.string k)=some (Vs s)/\vs≠[]/\InC vb s vs
def zpb (s:OA) (M:SM) (sm:List (Nat×Obj)) (bs:List zb):Prop :=
 ∃ b m es c vb,s=some ⟨b,0,none⟩/\bs=(b,[Value.map (some m)])::vb/\sm=[(m,.map es c)]/\MOk isKS es c/\∀ k,KeyV es vb k (M k)
def SM.put (M:SM) (k:ByteArray) (x:Ver):SM:=λj=>if j=k then zvg x (M k) else M j
section
variable {W:World} {m0 sm:List (Nat×Obj)} {w:World} {fr bs:List zb} {s:OA} {M:SM}
theorem s_Xb {R:OA->WP} (st:St ⟨W,m0⟩ fr w) (k:∀ s sm bs w',zpb s (λ_=>[]) sm bs->St ⟨W,sm++m0⟩ (bs++fr) w'->R s w'):C_qd w R:=by
 apply S_qc;unfold F_kg;intro b1 w1 hb1 hw1 b2 w2 hb2 hw2;have st:=(st.mnew hb1 hw1).alloc hb2 hw2;exact k _ _ _ _ ⟨b2,b1,_,_,[],rfl,rfl,rfl,MOk.empty,λk=> .inl ⟨zld λe he=>(by cases he),rfl⟩⟩ st
theorem s_d {R:Bool->WP} (o:zpb s M sm bs) (st:St ⟨W,sm++m0⟩ (bs++fr) w) (k:R false w):C_q s w R:=by
 apply S_Qb;unfold F_7e;obtain⟨b,m,es,c,vb,rfl,rfl,rfl,_⟩:=o;exact⟨N_,λ_=>⟨rfl,some m,st.cell 0 rfl rfl,k⟩⟩
theorem s_Yb {key:ByteArray} {R:Bool->WP} (h:mayK key) (k1:R true w):C_5c key w R:=by
 apply S_rc;unfold F_lg;rw [zjb,decide_eq_false O_,decide_eq_true O_];exact k1
theorem s_z {R:OA->Int->WP} {p:OA} {cap:Nat} (st:St ⟨W,m0⟩ fr w) (k:∀ s sm bs w',zpb s (λ_=>[]) sm bs->St ⟨W,sm++m0⟩ (bs++fr) w'->R s 0 w'):C_4b ⟨p,0,cap⟩ w R:=by
 apply S_Pb;unfold F_we;refine s_Xb st λs sm bs w1 o st=>⟨λi w'=>i=0/\St ⟨W,sm++m0⟩ (bs++fr) w',λ_ _=>0,⟨rfl,st⟩,?_⟩
 rintro i w2 ⟨rfl,st⟩;unfold F_Hc;exact⟨λh=>by have:=dT h; simp at this,λ_=>k s sm bs _ o st⟩
theorem KeyV.lk {es:Array MapEntry} {vb:List zb} {k:ByteArray} {vs:List Ver} (h:KeyV es vb k vs):∃ sl ok,LkIs es (.string k) (Ns) (Vs sl) ok/\InC vb sl vs:=by
 rcases h with ⟨h,rfl⟩ | ⟨sl,h,_,hc⟩
 ·exact⟨⟨none,0,0⟩,false,MOk.lkIs' (by rw [h]; rfl) (by rw [h]; rfl),[],RowC.nil,λc hc=>(by cases hc)⟩
 ·exact⟨sl,true,MOk.lkIs' (by rw [h]; rfl) (by rw [h]; rfl),hc⟩
theorem s_X {n:Int} {x:Wr} {R:Bool->Int->WP} (o:zpb s M sm bs) (st:St ⟨W,sm++m0⟩ (bs++fr) w) (hk:mayK x.Key) (hx:mayV ⟨n,x.Val,x.Drop⟩=true) (hc:okC 0 (M x.Key)=true) (hl:(M x.Key).length<=1099511627776) (hn:∀ y∈M x.Key,y.Number≠n)
    (k:∀ sm' bs' w',zpb s (M.put x.Key ⟨n,x.Val,x.Drop⟩) sm' bs'->St ⟨W,sm'++m0⟩ (bs'++fr) w'->R true 0 w'):C_Nb s n x w R:=by
 apply S_eb;unfold F_oe;intro b_ w1 hb hw;have st:St ⟨W,sm++m0⟩ (bs++((b_,[Vt x.Key,Vt x.Val,Vo x.Drop])::fr)) w1:=(st.alloc hb hw).mid;refine s_d o st ⟨N_,λ_=> ?_⟩;obtain⟨b,m,es,c,vb,rfl,rfl,rfl,ok,hM⟩:=o;have cellx:∀ {w':World} {mp:List (Nat×Obj)} {pre:List zb} {o:Nat} {v:Value},St ⟨W,mp⟩ (pre++(((b,[Value.map (some m)])::vb)++((b_,[Vt x.Key,Vt x.Val,Vo x.Drop])::fr))) w'->[Vt x.Key,Vt x.Val,Vo x.Drop][o]? =some v->w'.cell? ⟨b_,o,none⟩=some v:=λ{w' mp pre o v} st hv=>(st.blk (b_,_) (by simp)).cell hv;refine⟨x.Key,cellx (pre:=[]) st rfl,s_Yb hk ⟨N_,λ_=>λw2 e2=> ?_⟩⟩;have st:=st.drew e2;obtain⟨sl,lok,hlk,hin⟩:=(hM x.Key).lk;refine⟨rfl,some m,st.cell 0 rfl rfl,x.Key,cellx (pre:=[]) st rfl,es,sl,lok,.inr ⟨m,c,rfl,st.objAt 0 rfl⟩,ok.all,ok.nodup,⟨_,rfl⟩,hlk,x.Val,cellx (pre:=[]) st rfl,x.Drop,cellx (pre:=[]) st rfl,?_⟩;have hsl:∀ {l':List zb} {w':World},St ⟨W,[(m,.map es c)]++m0⟩ (l'++(((b,[Value.map (some m)])::vb)++((b_,[Vt x.Key,Vt x.Val,Vo x.Drop])::fr))) w'->zj w' sl 3 ((M x.Key).flatMap verC):=λ{l' w'} st=>hin.src (λq hq=>by simp [hq]) st;have hlen:=zub (hsl (l':=[]) st);refine s_Wb st hsl O_ (λh=>(by rw [hc,hx] at h; cases h)) (λ_ _ ⟨y,hy,he⟩=>absurd he (hn y hy)) λ_ _ _ s' rb w3 r' st hl'=>⟨λ_=>λw4 e4=> ?_,N_⟩
 have st:=st.drew e4;refine⟨rfl,some m,(St.drop (a:=rb) st).cell 0 rfl rfl,x.Key,cellx (pre:=rb) st rfl,m,es,c,rfl,st.objAt 0 rfl,ok.all,ok.nodup,⟨_,rfl⟩,λes2 c2 w5 hset hw5=> ?_⟩;have st:=st.mset0 hw5;obtain⟨ok2,va,vb2⟩:=ok.set ⟨_,rfl⟩ hset;unfold F_tc;refine k [(m,.map es2 c2)] ((b,[Value.map (some m)])::(vb++rb)) w5 ⟨b,m,es2,c2,vb++rb,rfl,rfl,rfl,ok2,λj=> ?_⟩ (st.weak [(b_,[Vt x.Key,Vt x.Val,Vo x.Drop])] (za λf_=>by simp <;> omega));unfold SM.put;by_cases hj:j=x.Key
 ·subst hj;rw [if_pos rfl];refine .inr ⟨s',va,λe=> ?_,rb,r',λq hq=>aH _ hq⟩;unfold zvg at e;simp at e
 ·rw [if_neg hj];have e:=vb2 (.string j) (λe=>hj (by injection e));rcases hM j with ⟨h1,h2⟩ | ⟨sj,h1,h2,h3⟩
  ·exact .inl ⟨e.trans h1,h2⟩
  ·exact .inr ⟨sj,e.trans h1,h2,h3.mono λq hq=>bB _ hq⟩
end
abbrev Rq:=T_d
theorem zbd (x:Rq):(reqV x).length=9:=rfl
theorem zSi {α:Type} {f:α->List Value} {sz:Nat} (hf:∀ x,(f x).length=sz) {l:List α} {j:Nat} (x:α) (hj:j<l.length):putL (j*sz) (f x) (l.flatMap f)=(l.set j x).flatMap f:=by
 have e:l.flatMap f=(l.take j).flatMap f++f l[j]++(l.drop (j+1)).flatMap f:=by
  conv=>lhs; rw [<-bM j l,bO hj,bE,aY]
  rw [aN]
 have e2:((l.take j).flatMap f).length=j*sz:=by rw [zc hf,aZ,eV O_]
 rw [e,<-e2,zdb _ _ _ _ (by rw [hf,hf]),fQ,if_pos hj,bE,aY,aN]
def ReqO (r:OA) (cap:Nat) (q:List Rq) (bs:List zb):Prop :=
 ∃(b lb:Nat) (cells:List Rq) (first:Nat),r=some ⟨b,0,none⟩ /\
  bs=[(b,[Value.slice (Z0 lb) cap cap,Vi (first:Int),Vi (q.length:Int),Vo false]),(lb,cells.flatMap reqV)] /\
  cells.length=cap/\1<=cap/\cap<=65536/\first<cap/\q.length<=cap/\∀ i,i<q.length->cells[(first+i) % cap]? =q[i]?
theorem zWd {a c:Nat} (h:a<2*c):a % c=if a<c then a else a - c:=by
 split
 ·exact cM O_
 ·rw [Nat.mod_eq_sub_mod O_]; exact cM O_
section
variable {w0:Base} {w:World} {l bs:List zb} {r:OA} {cap:Nat} {q:List Rq}
theorem s_ab {R:Bool->WP} (st:St w0 (bs++l) w) (o:ReqO r cap q bs) (k:R false w):C_O r w R:=by
 apply S_L;unfold F_Bd;obtain⟨b,lb,cells,first,rfl,rfl,_⟩:=o;exact⟨N_,λ_=>⟨rfl,⟨some ⟨lb,0,none⟩,cap,cap⟩,st.cell 0 rfl rfl,k⟩⟩
theorem s_vb {R:Int->WP} (st:St w0 (bs++l) w) (o:ReqO r cap q bs) (k:R (q.length:Int) w):C_U r w R:=by
 apply S_S;unfold F_Md;refine s_ab st o ⟨N_,λ_=> ?_⟩;obtain⟨b,lb,cells,first,rfl,rfl,_⟩:=o;exact⟨rfl,_,st.cell 0 rfl rfl,k⟩
theorem s_bb {R:Int->WP} (st:St w0 (bs++l) w) (o:ReqO r cap q bs) (k:∀ w',St w0 (bs++l) w'->R ((cap:Int) - q.length) w'):C_N r w R:=by
 apply S_K;unfold F_Ad;refine s_ab st o ⟨N_,λ_=> ?_⟩;obtain⟨b,lb,cells,first,rfl,rfl,hc,h1,h2,hf,hq,hall⟩:=o;refine⟨rfl,false,st.cell 0 rfl rfl,?_⟩;unfold F_Cb;refine⟨N_,λ_=>⟨rfl,⟨some ⟨lb,0,none⟩,cap,cap⟩,st.cell 0 rfl rfl,rfl,_,st.cell 0 rfl rfl,λw2 e2=> ?_⟩⟩;show R (i64.wrap ((cap:Int) - (q.length:Int))) w2;rw [i64_in _ O_ O_];exact k _ (st.keep e2)
theorem s_3c {x:Rq} {R:Bool->WP} (st:St w0 (bs++l) w) (o:ReqO r cap q bs) (hlt:q.length<cap)
    (k1:∀ bs' w',ReqO r cap (q++[x]) bs'->St w0 (bs'++l) w'->R true w'):C_pb r x w R:=by
 apply S_R;unfold F_Dc;intro b_ w1 hb hw;have st:St w0 (bs++((b_,reqV x)::l)) w1:=(st.alloc hb hw).mid;refine s_bb st o λw1 st=>⟨λh=> ?_,λh=> ?_⟩
 ·have:(cap:Int) - q.length=0:=by simpa using h
  omega
 intro w2 e2;have st:=st.drew e2;obtain⟨b,lb,cells,first,rfl,rfl,hc,h1,h2,hf,hq,hall⟩:=o
 have hidx:Int.tmod (i64.wrap ((first:Int)+(q.length:Int))) (cap:Int)=(((first+q.length) % cap:Nat):Int):=by
  rw [i64_in _ O_ O_];exact zHg (first+q.length) cap
 have hm:=eQ (first+q.length) (show cap>0 by omega);obtain⟨J,hJ⟩:∃ J,(first+q.length) % cap=J:=⟨_,rfl⟩
 rw [hJ] at hidx hm;refine⟨rfl,⟨some ⟨lb,0,none⟩,cap,cap⟩,st.cell 0 rfl rfl,rfl,_,st.cell 0 rfl rfl,rfl,_,st.cell 0 rfl rfl,rfl,⟨some ⟨lb,0,none⟩,cap,cap⟩,st.cell 0 rfl rfl,by show((cap:Nat):Int)≠0; omega,x,(st.get 2 rfl).all,rfl,?_⟩;simp only [hidx];refine⟨O_,Int.ofNat_lt.2 hm,st.writable 1 rfl (by rw [zc zbd,hc]; show 0+(J:Int).toNat*9+9<=_; rw [tN]; omega),λw3 hw3=> ?_⟩;have st:=st.put1 hw3;have e1:poff (some ⟨lb,0,none⟩:OA)+(J:Int).toNat*9=J*9:=by show 0+_=_; rw [dE,tN]
 rw [e1] at st;have e9:putL (J*9) [Vb x.Kind,Vi x.From,Vi x.Number,Vt x.Write.Key,Vt x.Write.Val,Vo x.Write.Drop,Vt x.Key,Vt x.End,Vs x.Beyond] (cells.flatMap reqV)=(cells.set J x).flatMap reqV:=zSi zbd x O_;rw [e9] at st;refine⟨rfl,_,st.cell 0 rfl rfl,st.writable 0 rfl (by simp [poff]),λw4 hw4=> ?_⟩;have st:=st.put0 hw4;have e2:i64.wrap ((q.length:Int)+1)=((q++[x]).length:Int):=by rw [i64_in _ O_ O_]; simp
 rw [e2] at st;have st:St w0 ([(b,[Value.slice (Z0 lb) cap cap,Vi (first:Int),Vi ((q++[x]).length:Int),Vo false]),(lb,(cells.set J x).flatMap reqV)]++([(b_,reqV x)]++l)) w4:=st;refine k1 _ _ ⟨b,lb,cells.set J x,first,rfl,rfl,by simpa using hc,h1,h2,hf,by simp; omega,λi hi=> ?_⟩ st.skip2;simp only [aB,aV,eC,dE] at hi;by_cases hil:i<q.length
 ·rw [aO hil,<-hall i hil,aT];have e1:=zWd (a:=first+i) (c:=cap) O_;have e2:=zWd (a:=first+q.length) (c:=cap) O_;rw [hJ] at e2;show J≠(first+i) % cap;obtain⟨I,hI⟩:∃ I,(first+i) % cap=I:=⟨_,rfl⟩
  rw [hI] at e1 ⊢;split at e1 <;> split at e2 <;> omega
 ·obtain rfl:i=q.length:=O_;rw [aS (bC _),cY];show(cells.set J x)[(first+q.length) % cap]? =some x;rw [hJ,aL O_]
theorem s_Nc {x:Rq} {R:Rq->Bool->WP} (st:St w0 (bs++l) w) (o:ReqO r cap (x::q) bs)
    (k1:∀ bs' w',ReqO r cap q bs'->St w0 (bs'++l) w'->R x true w'):C_hb r w R:=by
 apply S_M;unfold F_sc;intro b1 w1 hb1 hw1;have st:St w0 (bs++((b1,reqV zeroReq)::l)) w1:=(st.alloc (cs:=reqV zeroReq) hb1 hw1).mid;apply S_I;unfold F_pd;intro b2 w2 hb2 hw2;have st:St w0 (bs++((b2,reqV zeroReq)::(b1,reqV zeroReq)::l)) w2:=(st.alloc (cs:=reqV zeroReq) hb2 hw2).mid;refine s_vb st o ⟨λh=> ?_,λh=>λw3 e3=> ?_⟩
 ·have:(((x::q).length:Nat):Int)=0:=by simpa using h
  rw [aV] at this;omega
 have st:=st.drew e3;obtain⟨b,lb,cells,first,rfl,rfl,hc,h1,h2,hf,hq,hall⟩:=o;rw [aV] at hq hall;have hx:=hall 0 O_;rw [eE,cM hf] at hx;have hx:cells[first]? =some x:=hx;have src:zj w3 ⟨some ⟨lb,0,none⟩,cap,cap⟩ 9 (cells.flatMap reqV):=⟨by rw [zc zbd,hc],.inr ⟨rfl,(st.get 1 rfl).all⟩⟩
 obtain⟨_,y,hy,hcell⟩:=src.getN zbd O_ (i:=(first:Int)) O_ (by show(first:Int)<(cap:Int); omega);rw [tN,hx] at hy;obtain rfl:=aE hy;refine⟨rfl,⟨some ⟨lb,0,none⟩,cap,cap⟩,st.cell 0 rfl rfl,rfl,_,st.cell 0 rfl rfl,rfl,O_,by show(first:Int)<(cap:Int); omega,x,hcell,st.writable 2,λw4 hw4=> ?_⟩;have st:St w0 ([(b,_),(lb,cells.flatMap reqV),(b2,reqV x),(b1,reqV zeroReq)]++l) w4:=st.put 2 rfl hw4;refine⟨x,(st.get 2 rfl).all,st.writable 3,λw5 hw5=> ?_⟩;have st:St w0 ([(b,_),(lb,cells.flatMap reqV),(b2,reqV x),(b1,reqV x)]++l) w5:=st.put 3 rfl hw5;refine⟨λ_=>λb3 w6 hb3 hw6 w7 e7=> ?_,N_⟩;have st:St w0 ([(b3,reqV zeroReq),(b,_),(lb,cells.flatMap reqV),(b2,reqV x),(b1,reqV x)]++l) w7:=(st.alloc (cs:=reqV zeroReq) hb3 hw6).drew e7;refine⟨rfl,⟨some ⟨lb,0,none⟩,cap,cap⟩,st.cell 1 rfl rfl,rfl,_,st.cell 1 rfl rfl,zeroReq,(st.get 0 rfl).all,rfl,O_,by show(first:Int)<(cap:Int); omega,st.writable 2 rfl (by rw [zc zbd,hc]; show 0+(first:Int).toNat*9+9<=_; rw [tN]; omega),λw8 hw8 w9 e9=> ?_⟩;have st:=(st.put 2 rfl hw8).drew e9;have e1:poff (some ⟨lb,0,none⟩:OA)+(first:Int).toNat*9=first*9:=by show 0+_=_; rw [dE,tN]
 rw [e1] at st;have e9:putL (first*9) (reqV zeroReq) (cells.flatMap reqV)=(cells.set first zeroReq).flatMap reqV:=zSi zbd zeroReq O_;have st:St w0 ([(b3,reqV zeroReq),(b,[Value.slice (Z0 lb) cap cap,Vi (first:Int),Vi ((x::q).length:Int),Vo false]),(lb,(cells.set first zeroReq).flatMap reqV),(b2,reqV x),(b1,reqV x)]++l) w9:=by rw [<-e9]; exact st
 have hidx:Int.tmod (i64.wrap ((first:Int)+1)) (cap:Int)=(((first+1) % cap:Nat):Int):=by
  rw [i64_in _ O_ O_];exact zHg (first+1) cap
 refine⟨rfl,_,st.cell 1 rfl rfl,rfl,⟨some ⟨lb,0,none⟩,cap,cap⟩,st.cell 1 rfl rfl,by show((cap:Nat):Int)≠0; omega,rfl,st.writable 1,λw10 hw10=> ?_⟩;have st:=st.put 1 rfl hw10;rw [hidx] at st;have st:St w0 ([(b3,reqV zeroReq),(b,[Value.slice (Z0 lb) cap cap,Vi (((first+1) % cap:Nat):Int),Vi ((x::q).length:Int),Vo false]),(lb,(cells.set first zeroReq).flatMap reqV),(b2,reqV x),(b1,reqV x)]++l) w10:=st;refine⟨rfl,_,st.cell 1 rfl rfl,st.writable 1,λw11 hw11=> ?_⟩;have st:=st.put 1 rfl hw11;have e2:i64.wrap ((((x::q).length:Nat):Int) - 1)=(q.length:Int):=by rw [aV,i64_in _ O_ O_]; omega
 rw [e2] at st;have st:St w0 ([(b3,reqV zeroReq),(b,[Value.slice (Z0 lb) cap cap,Vi (((first+1) % cap:Nat):Int),Vi (q.length:Int),Vo false]),(lb,(cells.set first zeroReq).flatMap reqV),(b2,reqV x),(b1,reqV x)]++l) w11:=st;unfold F_U;refine⟨x,(st.get 4 rfl).all,st.writable 4,λw12 hw12=> ?_⟩;have st:St w0 ([(b3,reqV zeroReq)]++([(b,[Value.slice (Z0 lb) cap cap,Vi (((first+1) % cap:Nat):Int),Vi (q.length:Int),Vo false]),(lb,(cells.set first zeroReq).flatMap reqV)]++([(b2,reqV x),(b1,reqV x)]++l))) w12:=st.put 4 rfl hw12;have st':=st.drop.drop;refine⟨x,(st'.get 1 rfl).all,?_⟩;have hmlt:=eQ (first+1) (show cap>0 by omega);refine k1 _ _ ⟨b,lb,cells.set first zeroReq,(first+1) % cap,rfl,rfl,by simpa using hc,h1,h2,hmlt,O_,λi hi=> ?_⟩ st.drop.skip2;have hx:=hall (i+1) O_;rw [cB] at hx;rw [<-hx];have e1:=zWd (a:=first+1) (c:=cap) O_;have e2:=zWd (a:=(first+1) % cap+i) (c:=cap) O_;have e3:=zWd (a:=first+(i+1)) (c:=cap) O_
 have e4:((first+1) % cap+i) % cap=(first+(i+1)) % cap:=by
  split at e1 <;> split at e2 <;> split at e3 <;> omega
 rw [e4,aT];split at e3 <;> omega
theorem s_4c {c:Nat} {R:OA->Int->WP} (st:St w0 l w) (h1:1<=c) (h2:c<=65536)
    (k1:∀ r' bs' w',ReqO r' c [] bs'->St w0 (bs'++l) w'->R r' 0 w'):C_5b (c:Int) w R:=by
 apply S_Tb;unfold F_5e;refine⟨λh=>(by simp only [cE,decide_eq_true_eq] at h; omega),λh=> ?_⟩;refine⟨O_,O_,O_,λb w1 hb hw b1 w2 hb1 hw1=> ?_⟩;rw [tN] at hw hw1
 have e:(zp c [Vb 0,Vi 0,Vi 0,Vt Be,Vt Be,Vo false,Vt Be,Vt Be,Ns])=((List.replicate c zeroReq).flatMap reqV).toArray:=by
  have key:∀ n:Nat,(List.replicate n (reqV zeroReq)).flatten=(List.replicate n zeroReq).flatMap reqV:=λn=>by
   induction n with
   | zero=>rfl
   | succ n ih=>rw [dH,eG,ih,dH,aY]
  unfold zp;exact congrArg List.toArray (key c)
 rw [e] at hw;have st:=(st.alloc hb hw).alloc hb1 hw1;exact k1 _ _ _ ⟨b1,b,_,0,rfl,rfl,by simp,O_,O_,O_,by simp,λi hi=>by simp at hi⟩ st
end
def colF (at_:Int) (vs:List Ver):List Ver:=vs.drop (upF at_ vs - 1)
theorem zff {α:Type} {f:α->List Value} {sz:Nat} (hf:∀ x,(f x).length=sz):∀(n:Nat) (l:List α),(l.flatMap f).drop (n*sz)=(l.drop n).flatMap f
 | 0,l=>by simp
 | n+1,[]=>by simp
 | n+1,x::l=>by
  rw [aY,List.drop_succ_cons,<-zff hf n l,Nat.succ_mul,List.drop_append,cL (by rw [hf]; omega),eU,hf];congr 1;omega
section
variable {w0:Base} {w:World} {fr:List zb}
theorem s_fc {l:Slc} {vs:List Ver} {at_:Int} {R:Ver->Bool->Int->WP} (st:St w0 fr w) (hs:∀ {l':List zb} {w':World},St w0 (l'++fr) w'->zj w' l 3 (vs.flatMap verC)) (hl:l.len<=1099511627776) (hc:okC 0 vs=true)
    (k:∀ v ok w',St w0 fr w'->R v ok 0 w'):C_Bd l at_ w R:=by
 apply S_vd;unfold F_Wg;intro b w1 hb hw;have st1:St w0 ([(b,verC ⟨0,Be,false⟩)]++fr) w1:=st.alloc hb hw;have hv:=zub (hs st1);obtain⟨hr,hm⟩:=zHb.1 hc;refine s_b (hs st1) O_ λw2 e2=> ?_;rw [if_pos hc];have st2:=st1.keep e2;refine⟨N_,λ_=>s_P (hs st2) O_ hr λw3 e3=> ?_⟩;have st3:=st2.keep e3;have hu:=zef at_ vs;refine⟨λ_=>⟨st3.writable 0,λw4 hw4=> ?_⟩,λh=> ?_⟩
 ·have st4:St w0 ((b,verC ⟨0,Be,false⟩)::fr) w4:=st3.put0 hw4;exact⟨⟨0,Be,false⟩,(st4.get 0 rfl).all,k _ false w4 st4.drop1⟩
 ·have h:upF at_ vs≠0:=by simpa using h
  have wp:i64.wrap ((upF at_ vs:Int) - 1)=((upF at_ vs - 1:Nat):Int):=W_;obtain⟨a,v,hv1,hc1⟩:=zWc (hs st3) (i:=upF at_ vs - 1) O_;rw [wp];refine⟨a,O_,O_,v,by rw [tN]; exact hc1,st3.writable 0,λw4 hw4=> ?_⟩;have st4:St w0 ((b,verC v)::fr) w4:=st3.put0 hw4;exact⟨v,(st4.get 0 rfl).all,k v true w4 st4.drop1⟩
theorem s_Y {l:Slc} {vs:List Ver} {at_:Int} {R:Slc->Int->Int->WP} (st:St w0 fr w) (hs:∀ {l':List zb} {w':World},St w0 (l'++fr) w'->zj w' l 3 (vs.flatMap verC)) (hl:l.len<=1099511627776) (hc:okC 0 vs=true)
    (k:∀ s' rb w' g,RowC 3 s' ((colF at_ vs).flatMap verC) rb->0<=g->g<=(vs.length:Int)->St w0 (rb++fr) w'->R s' g 0 w'):C_1c l at_ w R:=by
 apply S_Uc;unfold F_Je;have hs0:=hs (l':=[]) st;have hv:=zub hs0;obtain⟨hr,hm⟩:=zHb.1 hc;refine s_b hs0 O_ λw2 e2=> ?_;rw [if_pos hc];have st2:=st.keep e2;refine⟨N_,λ_=>s_P (hs (l':=[]) st2) O_ hr λw3 e3=> ?_⟩;have st3:=st2.keep e3;have hu:=zef at_ vs;refine s_o st3 (hs (l':=[]) st3) O_ λs' rb w4 ro st4 _ hl'=> ?_;have hcp:=ro.cap_le
 have hk:(if i64.wrap ((upF at_ vs:Int) - 1)>0 then i64.wrap ((upF at_ vs:Int) - 1) else 0)=((upF at_ vs - 1:Nat):Int):=by
  rw [i64_in _ O_ O_]; split <;> omega
 rw [hk];refine⟨⟨O_,O_,O_,O_⟩,λs hs'=> ?_⟩;have cut:=ro.cut (lo:=((upF at_ vs - 1:Nat):Int)) (hi:=((s'.len:Nat):Int)) (mx:=((s'.len:Nat):Int)) O_ O_ O_ O_ O_;rw [<-hs',tN,tN,zff verC_len,bF (by rw [zc verC_len,bJ,hl']; exact bC _)] at cut;exact k s rb w4 _ cut O_ O_ st4
end
open Go Go.Shelf Go.RowKit Go.Maps Go.Sort
set_option maxHeartbeats 1000000
def Tryz.sorted48_ren:Go.Shelf.Ren:=⟨fun|6=>48|8=>74|9=>75|11=>105|13=>53|12=>106|23=>88|24=>89|14=>129|15=>130|16=>131|17=>132|18=>133|19=>134|20=>135|21=>136|22=>137|25=>150|26=>109|27=>110|28=>151|29=>152|30=>153|31=>156|n=>n,fun|26=>9|28=>158|24=>155|0=>0|3=>3|37=>174|48=>233|50=>160|4=>4|40=>227|39=>226|45=>210|5=>5|9=>9|51=>258|55=>262|57=>282|58=>283|33=>217|n=>n,fun|n=>n⟩
theorem Tryz.sorted48:Go.Proofs.SlLaysZ.n6 Tryz.prog Tryz.sorted48_ren:={mixed:=K_,f6:=⟨Tryz.f48.name,D_,Lq Tryz.func48⟩,f8:=⟨Tryz.f74.name,D_,Lq Tryz.func74⟩,f11:=⟨Tryz.f105.name,D_,Lq Tryz.func105⟩,t0:=Tryz.underlying0,a0:=Tryz.isAgg0,z0:=Tryz.sizeOf0,v0:=Tryz.zeroValue0,t24:=Tryz.underlying155,a24:=Tryz.isAgg155,z24:=Tryz.sizeOf155,v24:=Tryz.zeroValue155,t26:=Tryz.underlying9,a26:=Tryz.isAgg9,z26:=Tryz.sizeOf9,v26:=Tryz.zeroValue9,t28:=Tryz.underlying158,a28:=Tryz.isAgg158,z28:=Tryz.sizeOf158,v28:=Tryz.zeroValue158,i26:=K_}
def Tryz.sort75_ren:Go.Shelf.Ren:=⟨fun|6=>75|8=>53|9=>106|19=>88|20=>89|21=>129|22=>130|23=>131|24=>132|25=>133|26=>134|27=>135|28=>136|29=>137|36=>150|31=>109|32=>110|37=>151|38=>152|39=>153|41=>156|n=>n,fun|27=>155|29=>9|3=>3|32=>174|26=>155|0=>0|44=>233|46=>160|4=>4|36=>227|35=>226|41=>210|5=>5|9=>9|53=>258|57=>262|63=>282|64=>283|n=>n,fun|n=>n⟩
theorem Tryz.sort75:Go.Proofs.SlLaysM.n6 Tryz.prog Tryz.sort75_ren:={mixed:=K_,f6:=⟨Tryz.f75.name,D_,Lq Tryz.func75⟩,f8:=Lq Tryz.func53,f9:=⟨Tryz.f106.name,D_,Lq Tryz.func106⟩,f19:=Lq Tryz.func88,f20:=Lq Tryz.func89,f21:=⟨Tryz.f129.name,D_,Lq Tryz.func129⟩,f22:=⟨Tryz.f130.name,D_,Lq Tryz.func130⟩,f23:=⟨Tryz.f131.name,D_,Lq Tryz.func131⟩,f24:=⟨Tryz.f132.name,D_,Lq Tryz.func132⟩,f25:=⟨Tryz.f133.name,D_,Lq Tryz.func133⟩,f26:=⟨Tryz.f134.name,D_,Lq Tryz.func134⟩,f27:=⟨Tryz.f135.name,D_,Lq Tryz.func135⟩,f28:=⟨Tryz.f136.name,D_,Lq Tryz.func136⟩,f29:=⟨Tryz.f137.name,D_,Lq Tryz.func137⟩,f31:=Lq Tryz.func109,f32:=Lq Tryz.func110,f36:=⟨Tryz.f150.name,D_,Lq Tryz.func150⟩,f37:=⟨Tryz.f151.name,D_,Lq Tryz.func151⟩,f38:=⟨Tryz.f152.name,D_,Lq Tryz.func152⟩,f39:=⟨Tryz.f153.name,D_,Lq Tryz.func153⟩,f41:=⟨Tryz.f156.name,D_,Lq Tryz.func156⟩,t0:=Tryz.underlying0,a0:=Tryz.isAgg0,z0:=Tryz.sizeOf0,v0:=Tryz.zeroValue0,t3:=Tryz.underlying3,a3:=Tryz.isAgg3,z3:=Tryz.sizeOf3,v3:=Tryz.zeroValue3,t4:=Tryz.underlying4,a4:=Tryz.isAgg4,z4:=Tryz.sizeOf4,v4:=Tryz.zeroValue4,t5:=Tryz.underlying5,a5:=Tryz.isAgg5,z5:=Tryz.sizeOf5,v5:=Tryz.zeroValue5,t9:=Tryz.underlying9,a9:=Tryz.isAgg9,z9:=Tryz.sizeOf9,v9:=Tryz.zeroValue9,t26:=Tryz.underlying155,a26:=Tryz.isAgg155,z26:=Tryz.sizeOf155,v26:=Tryz.zeroValue155,t27:=Tryz.underlying155,a27:=Tryz.isAgg155,z27:=Tryz.sizeOf155,v27:=Tryz.zeroValue155,t29:=Tryz.underlying9,a29:=Tryz.isAgg9,z29:=Tryz.sizeOf9,v29:=Tryz.zeroValue9,t32:=Tryz.underlying174,a32:=Tryz.isAgg174,z32:=Tryz.sizeOf174,v32:=Tryz.zeroValue174,t35:=Tryz.underlying226,a35:=Tryz.isAgg226,z35:=Tryz.sizeOf226,v35:=Tryz.zeroValue226,t36:=Tryz.underlying227,a36:=Tryz.isAgg227,z36:=Tryz.sizeOf227,v36:=Tryz.zeroValue227,t41:=Tryz.underlying210,a41:=Tryz.isAgg210,z41:=Tryz.sizeOf210,v41:=Tryz.zeroValue210,t44:=Tryz.underlying233,a44:=Tryz.isAgg233,z44:=Tryz.sizeOf233,v44:=Tryz.zeroValue233,t46:=Tryz.underlying160,a46:=Tryz.isAgg160,z46:=Tryz.sizeOf160,v46:=Tryz.zeroValue160,t53:=Tryz.underlying258,a53:=Tryz.isAgg258,z53:=Tryz.sizeOf258,v53:=Tryz.zeroValue258,t57:=Tryz.underlying262,a57:=Tryz.isAgg262,z57:=Tryz.sizeOf262,v57:=Tryz.zeroValue262,t63:=Tryz.underlying282,a63:=Tryz.isAgg282,z63:=Tryz.sizeOf282,v63:=Tryz.zeroValue282,t64:=Tryz.underlying283,a64:=Tryz.isAgg283,z64:=Tryz.sizeOf283,v64:=Tryz.zeroValue283}
def Tryz.keys138_ren:Go.Shelf.Ren:=⟨fun|7=>138|10=>154|n=>n,fun|23=>220|26=>9|3=>87|28=>158|0=>0|27=>157|33=>217|4=>4|n=>n,fun|n=>n⟩
theorem Tryz.keys138:Go.Proofs.SlLaysZ.n7 Tryz.prog Tryz.keys138_ren:={mixed:=K_,f7:=⟨Tryz.f138.name,D_,Lq Tryz.func138⟩,f10:=⟨Tryz.f154.name,D_,Lq Tryz.func154⟩,t0:=Tryz.underlying0,a0:=Tryz.isAgg0,z0:=Tryz.sizeOf0,v0:=Tryz.zeroValue0,t4:=Tryz.underlying4,a4:=Tryz.isAgg4,z4:=Tryz.sizeOf4,v4:=Tryz.zeroValue4,t23:=Tryz.underlying220,a23:=Tryz.isAgg220,z23:=Tryz.sizeOf220,v23:=Tryz.zeroValue220,t26:=Tryz.underlying9,a26:=Tryz.isAgg9,z26:=Tryz.sizeOf9,v26:=Tryz.zeroValue9,t27:=Tryz.underlying157,a27:=Tryz.isAgg157,z27:=Tryz.sizeOf157,v27:=Tryz.zeroValue157,t28:=Tryz.underlying158,a28:=Tryz.isAgg158,z28:=Tryz.sizeOf158,v28:=Tryz.zeroValue158,t33:=Tryz.underlying217,a33:=Tryz.isAgg217,z33:=Tryz.sizeOf217,v33:=Tryz.zeroValue217}
theorem zAm (m:Nat):AnyZ.SortsIn Tryz.prog Tryz.sorted48_ren Fence.wide m :=
 ⟨λblk off cap ss W hH hblk hsz=>callsIn_wide.2 (AnyM.slices_Sort_string Tryz.sort75 blk off cap ss W hH hblk hsz),
  λp cap W=>callsIn_wide.2 (AnyM.slices_Sort_string_none Tryz.sort75 p cap W)⟩
abbrev R0:Value->Option (DataW Unit×List MemPlace):=λ_=>some (.nil,[])
theorem z4j (b nn:Nat) (D0:DataW Unit) (w:World) (hown:w.ownsMap Tryz.prog 9 R0 b nn D0) (hmax:Maps.size D0<=maxLen) (hbytes:Maps.size D0*16<=140737488355328) :
    CallsIn Fence.wide 5 Tryz.prog 48 #[.func (.func 154) #[] #[.pointer (some ⟨w.heap.size,0,none⟩)]] (w.alloc (.cells #[.map (some b)] 220)) λe w'=>∃(v:Value) (ss:List (List UInt8)),e= .returned v/\ss.Perm (strKeys D0) /\
     w'.ownsRow (w.alloc (.cells #[.map (some b)] 220)).heap.size 9 1 v ss.length ((ss.mergeSort (λx y=>decide (x<=y))).map encStr)/\(v= .slice none 0 0↔ss=[])/\Below (w.alloc (.cells #[.map (some b)] 220)).heap.size (w.alloc (.cells #[.map (some b)] 220)) w':=by
 have hbl:=hown.lt
 have hseq:SeqGives Fence.wide 2 Tryz.prog 154 #[.pointer (some ⟨w.heap.size,0,none⟩)] encStr (λss=>ss.Perm (strKeys D0)) (Maps.size D0) (w.alloc (.cells #[.map (some b)] 220)) :=
  AnyZ.keys_gives (ρ:=Tryz.keys138_ren) { Tryz.keys138 with } Fence.wide _ trivial rfl O_ w.heap.size b nn D0 _ (by simp) (by simp) (by
   obtain⟨es,clock,hb,Ft,hs,hD⟩:=hown;exact⟨es,clock,(Below.heap_alloc _ _ b hbl).trans hb,Ft,hs,hD⟩)
 exact AnyZ.sorted_in Tryz.sorted48 Fence.wide 5 trivial trivial trivial trivial rfl O_ (zAm _) (enters_of Tryz.func75 K_ rfl) 154 #[.pointer (some ⟨w.heap.size,0,none⟩)] trivial (enters_of Tryz.func154 K_ rfl) _ _ hmax hbytes _ hseq
def ltK (a b:ByteArray):Prop:=a.data.toList<b.data.toList
theorem zwg (a:ByteArray):¬ ltK a a:=List.lt_irrefl _
theorem zql {a b:ByteArray} (h:ltK a b) (h2:ltK b a):False:=List.lt_irrefl _ (List.lt_trans h h2)
theorem z5j {a b:ByteArray} (h:a.data.toList=b.data.toList):a=b:=by
 cases a; cases b; congr; exact Array.toList_inj.1 h
theorem zie {α:Type} {r:α->α->Prop} (irr:∀ a,¬ r a a) (asym:∀ a b,r a b->r b a->False):∀ {l m:List α},l.Pairwise r->m.Pairwise r->(∀ x,x∈l↔x∈m)->l=m
 | [],[],_,_,_=>rfl
 | [],y::m,_,_,h=>by cases (h y).2 (aI ..)
 | x::l,[],_,_,h=>by cases (h x).1 (aI ..)
 | x::l,y::m,hl,hm,h=>by
  obtain⟨l1,l2⟩:=cZ.1 hl;obtain⟨m1,m2⟩:=cZ.1 hm
  have hxy:x=y:=by
   rcases aU.1 ((h x).1 (aI ..)) with e | hx
   ·exact e
   ·rcases aU.1 ((h y).2 (aI ..)) with e | hy
    ·exact e.symm
    ·exact(asym _ _ (l1 y hy) (m1 x hx)).elim
  subst hxy;rw [zie irr asym l2 m2 λz=> ?_];have:=h z;rw [aU,aU] at this;constructor
  ·intro hz;rcases this.1 (.inr hz) with e | e
   ·subst e; exact(irr _ (l1 _ hz)).elim
   ·exact e
  ·intro hz;rcases this.2 (.inr hz) with e | e
   ·subst e; exact(irr _ (m1 _ hz)).elim
   ·exact e
def keyB (e:MapEntry):List UInt8:=match e.key with | .string s=>s.data.toList | _=>[]
theorem zdp:Tryz.prog.underlying 9=some .string:=K_
noncomputable abbrev D0 (es:Array MapEntry):DataW Unit:= .map ((es.toList.map (Go.WideElems.rg Tryz.prog 9 R0)).foldr DataW.insert [])
section
variable {es:Array MapEntry} {c:Nat}
theorem zxg (ok:MOk isKS es c) {e:MapEntry} (he:e∈es.toList):∃ s,e.key= .string s:=ok.all e he
theorem zep (hsz:∀ e∈es.toList,∀ s,e.key= .string s->s.size<=64) (ok:MOk isKS es c) {e:MapEntry} (he:e∈es.toList):Go.WideElems.rd Tryz.prog 9 R0 e=some (.string (keyB e),.nil):=by
 obtain⟨s,hs⟩:=zxg ok he;have h64:=hsz e he s hs;unfold Go.WideElems.rd keyB;rw [hs,Go.WideMaps.keyOf_string_mk zdp (by show s.size<=2 ^ 63 - 1; omega)];simp [ByteArray.toList_eq,R0]
theorem zfp {w:World} {b:Nat} (hb:w.heap[b]? =some (.map es c)) (hsz:∀ e∈es.toList,∀ s,e.key= .string s->s.size<=64) (ok:MOk isKS es c) (hn:es.size<=4294967296):w.ownsMap Tryz.prog 9 R0 b es.size (D0 es) :=
 ⟨es,c,hb,⟨by show es.size<=2 ^ 63 - 1; omega,⟨ok.lt,ok.bnodup,ok.nodup⟩,λx hx=>⟨_,zep hsz ok hx⟩⟩,bC _,rfl⟩
theorem zij (hsz:∀ e∈es.toList,∀ s,e.key= .string s->s.size<=64) (ok:MOk isKS es c):(strKeys (D0 es)).Perm (es.toList.map keyB):=by
 show(List.map (λp=>strOf p.1) (List.foldr DataW.insert [] (es.toList.map (Go.WideElems.rg Tryz.prog 9 R0)))).Perm _;refine((Go.WideShapes.sorted_perm _).map _).trans ?_;rw [dR];refine List.Perm.of_eq (gL λe he=> ?_)
 have e1:Go.WideElems.rg Tryz.prog 9 R0 e=(.string (keyB e),.nil):=by
  unfold Go.WideElems.rg;rw [zep hsz ok he,Option.getD_some]
 rw [Function.comp_apply,e1];simp only [strOf]
theorem z6j:Maps.size (D0 es)=es.size:=by
 show(List.foldr DataW.insert [] _).length=_;rw [(Go.WideShapes.sorted_perm _).length_eq]; simp
theorem z4h (ok:MOk isKS es c) (hsz:∀ e∈es.toList,∀ s,e.key= .string s->s.size<=64) {ss:List (List UInt8)} (hp:ss.Perm (strKeys (D0 es))) :
    ∃ ks:List ByteArray,(ss.mergeSort λx y=>decide (x<=y)).map encStr=ks.map Value.string/\ks.length=ss.length/\ks.Pairwise ltK/\∀ k,k∈ks↔(zQ es (.string k)).isSome=true:=by
 have hpp:(ss.mergeSort λx y=>decide (x<=y)).Perm (es.toList.map keyB):=((List.mergeSort_perm _ _).trans hp).trans (zij hsz ok)
 have hnd:(es.toList.map keyB).Nodup:=by
  refine cN.2 ((cN.1 ok.nodup).imp_of_mem λ{a b} ha hb hab e=>hab ?_);obtain⟨s,hs⟩:=zxg ok ha;obtain⟨t,ht⟩:=zxg ok hb;unfold keyB at e;rw [hs,ht] at e;rw [hs,ht,z5j e]
 have hnd2:=hpp.nodup_iff.2 hnd;have hle:=List.pairwise_mergeSort (le:=λx y:List UInt8=>decide (x<=y)) (λa b c h1 h2=>decide_eq_true (List.le_trans (dT h1) (dT h2))) (λa b=>by simpa using List.le_total a b) ss;refine⟨(ss.mergeSort λx y=>decide (x<=y)).map λl=>⟨l.toArray⟩,by rw [dR]; rfl,by simp,?_,λk=> ?_⟩
 ·refine cN.2 ((hle.and hnd2).imp λ{a b} h=> ?_);obtain⟨h1,h2⟩:=h;show a.toArray.toList<b.toArray.toList;refine bX λhlt=>h2 ?_;exact List.le_antisymm (dT h1) (gH.1 hlt)
 ·rw [aQ,eJ];constructor
  ·rintro⟨l,hl,rfl⟩;obtain⟨e,he,rfl⟩:=aQ.1 (hpp.mem_iff.1 hl);obtain⟨s,hs⟩:=zxg ok he;have:=ok.mem_lk he;refine⟨e.val,?_⟩;rw [<-this,hs];congr 2;unfold keyB;rw [hs]
  ·rintro⟨u,hu⟩;obtain⟨e,he,hk,_⟩:=MOk.lk_mem hu;refine⟨keyB e,hpp.mem_iff.2 (aQ.2 ⟨e,he,rfl⟩),?_⟩;unfold keyB;rw [hk]
end
section
variable {W:World} {w w1 w':World} {l:List zb} {mp:List (Nat×Obj)}
theorem z7j (h:Below w.heap.size w w'):Ext w w':=h
theorem zBm {ks:List ByteArray} {v:Value} {n:Nat} (st:St ⟨W,mp⟩ l w) (ho:w'.ownsRow w.heap.size 9 1 v n (ks.map Value.string)) (hb:Below w.heap.size w w'):∃ sl bs,v=Vs sl/\sl.len=n/\RowC 1 sl (ks.map Value.string) bs/\St ⟨W,mp⟩ (bs++l) w':=by
 obtain⟨h1,h2⟩:=ho;have st':=st.keep (z7j hb);rcases h2 with ⟨rfl,rfl⟩ | ⟨g,cap,cur,rfl,hg,hc,hn,hm,hcs,ht⟩
 ·have:ks.map Value.string=[]:=aX O_;rw [this];exact⟨⟨none,0,0⟩,[],rfl,rfl,RowC.nil,st'⟩
 ·refine⟨⟨some ⟨g,0,none⟩,n,cap⟩,[(g,cur.toList)],rfl,rfl,.inr ⟨g,[],cur.toList.drop (n*1),[],rfl,?_,h1,?_,hn⟩,⟨st'.ext,λp hp=> ?_,λp hp=> ?_,?_,st'.mps⟩⟩
  ·rw [<-ht]; simp
  ·rw [h1,bJ];show n*1+(cur.size - n*1)=cap*1;omega
  ·rcases aU.1 hp with rfl | hp
   ·exact⟨9,0,0,by simpa using hc,rfl,rfl⟩
   ·exact st'.blk p hp
  ·rcases aU.1 hp with rfl | hp
   ·have:=st.ext.size;show W.heap.size<=g;have this:W.heap.size<=w.heap.size:=this;omega
   ·exact st'.own p hp
  ·show(g::l.map (·.1)).Nodup;refine dP.2 ⟨λhm=> ?_,st.nodup⟩;obtain⟨p,hp,he⟩:=aQ.1 hm;have:=(st.blk p hp).lt;omega
theorem s_Zb {r c:Nat} {es:Array MapEntry} {R:Slc->WP} (ok:MOk isKS es c) (hsz:∀ e∈es.toList,∀ s,e.key= .string s->s.size<=64) (hn:es.size<=4294967296) (st:St ⟨W,(r,.map es c)::mp⟩ l w)
    (k:∀ sl (ks:List ByteArray) bs w',RowC 1 sl (ks.map Value.string) bs->sl.len=ks.length->ks.Pairwise ltK->(∀ k,k∈ks↔(zQ es (.string k)).isSome=true)->St ⟨W,(r,.map es c)::mp⟩ (bs++l) w'->R sl w'):C_f (some r) w (λv w1=>C_qc v w1 R):=by
 apply S_d;intro b w1 hb hw;have st1:=(st.alloc (cs:=[Value.map (some r)]) hb hw).drop1;subst hb;have hc:=callsIn_wide.1 (z4j r es.size (D0 es) w (zfp (st.objAt 0 rfl) hsz ok hn) (by rw [z6j]; show es.size<=2 ^ 63 - 1; omega) (by rw [z6j]; omega));subst hw;refine Calls.mono hc ?_;rintro e w2 ⟨v,ss,rfl,hp,ho,_,hbl⟩;obtain⟨ks,h1,h2,h3,h4⟩:=z4h ok hsz hp;rw [h1] at ho;obtain⟨sl,bs,rfl,hsl,ro,st2⟩:=zBm st1 ho hbl;exact⟨sl,rfl,k sl ks bs w2 ro O_ h3 h4 st2⟩
end
set_option maxHeartbeats 4000000
theorem zj.at1 {w:World} {s:Slc} {src:List Value} {i:Nat} {v:Value} (h:zj w s 1 src) (hv:src[i]? =some v):IsAt s.ptr/\i<s.len/\w.cell? ⟨pblk s.ptr,poff s.ptr+i,none⟩=some v:=by
 have hl:=(gSo hv).1;obtain⟨h1,h2 | ⟨a,c⟩⟩:=h
 ·rw [h2] at hl; simp at hl
 ·exact⟨a,O_,zy.1 c i v hv⟩
def hdC (z:ByteArray×Slc):List Value:=[Vt z.1,Vs z.2]
theorem zYb (z:ByteArray×Slc):(hdC z).length=2:=rfl
abbrev HZ:=ByteArray×Slc×List Ver
def hzC (z:HZ):List Value:=[Vt z.1,Vs z.2.1]
theorem zCm (z:HZ):(hzC z).length=2:=rfl
abbrev hzF (zs:List HZ):List HZ:=zs.filter λz=> !z.2.2.isEmpty
theorem z8j (zs:List HZ) (z:HZ):hzF (zs++[z])=hzF zs++(if z.2.2=[] then [] else [z]):=by
 unfold hzF;rw [dZ];cases h:z.2.2 <;> simp [h]
section
variable {W:World} {m0 sm:List (Nat×Obj)} {w:World} {fr bs:List zb} {s:OA} {M:SM}
theorem zrl {m c:Nat} {es:Array MapEntry} {vb:List zb} (ok:MOk isKS es c) (hM:∀ k,KeyV es vb k (M k)) {n:Nat} {K:List ByteArray} (hK:∀ k,M k≠[]->k∈K/\k.size<=64):(∀ e∈es.toList,∀ s,e.key= .string s->s.size<=64)/\es.size<=K.length:=by
 have hne:∀ e∈es.toList,∀ s,e.key= .string s->M s≠[]:=λe he s hs=>by
  have h1:=ok.mem_lk he;rw [hs] at h1;rcases hM s with ⟨h2,_⟩ | ⟨_,_,h3,_⟩
  ·rw [h2] at h1; cases h1
  ·exact h3
 refine⟨λe he s hs=>(hK s (hne e he s hs)).2,?_⟩
 have hl:(es.toList.map (·.key)).length<=(K.map Value.string).length:=List.Nodup.length_le_of_subset ok.nodup λv hv=>by
  obtain⟨e,he,rfl⟩:=aQ.1 hv;obtain⟨s,hs⟩:=ok.all e he;rw [hs];exact aQ.2 ⟨s,(hK s (hne e he s hs)).1,rfl⟩
 simpa using hl
theorem s_gc {m c b:Nat} {es:Array MapEntry} {vb l:List zb} {key:ByteArray} {vs:List Ver} {R:Slc->WP} (ok:MOk isKS es c) (hM:KeyV es vb key vs) (hl:vs.length<=1099511627776) (st:St ⟨W,(m,.map es c)::m0⟩ (l++((b,[Value.map (some m)])::(vb++fr))) w)
    (k:∀ s' rb w',RowC 3 s' (vs.flatMap verC) rb->s'.len=vs.length->St ⟨W,(m,.map es c)::m0⟩ (rb++(l++((b,[Value.map (some m)])::(vb++fr)))) w'->R s' w'):C_Kb (Z0 b) key w R:=by
 apply S_db;unfold F_me;obtain⟨sl,lok,hlk,hin⟩:=hM.lk;refine⟨rfl,some m,(st.blk (b,[Value.map (some m)]) (by simp)).cell rfl,es,sl,lok,.inr ⟨m,c,rfl,st.objAt 0 rfl⟩,ok.all,ok.nodup,⟨_,rfl⟩,hlk,?_⟩;have src:=hin.src (λq hq=>by simp [hq]) st;have hlen:=zub src;exact s_o st src O_ λs' rb w' ro st _ hl'=>k s' rb w' ro hl' st
theorem s_H {m c b:Nat} {es:Array MapEntry} {vb:List zb} {K:List ByteArray} {R:Slc->WP} (ok:MOk isKS es c) (hM:∀ k,KeyV es vb k (M k)) (st:St ⟨W,(m,.map es c)::m0⟩ ((b,[Value.map (some m)])::(vb++fr)) w) (hK:∀ k,M k≠[]->k∈K/\k.size<=64) (hKl:K.length<=16777216)
    (k:∀ sl (ks:List ByteArray) kb w',RowC 1 sl (ks.map Value.string) kb->sl.len=ks.length->ks.Pairwise ltK->(∀ k,k∈ks↔M k≠[])->ks.length<=K.length->St ⟨W,(m,.map es c)::m0⟩ (kb++((b,[Value.map (some m)])::(vb++fr))) w'->R sl w'):C_C (Z0 b) w R:=by
 apply S_Cb;unfold F_Re;obtain⟨hsz,hes⟩:=zrl (m:=m) (n:=0) ok hM hK;refine⟨rfl,some m,st.cell 0 rfl rfl,s_Zb ok hsz O_ st λksl ks kb w1 kro hkl hks hkm st=> ?_⟩
 have hkM:∀ k,k∈ks↔M k≠[]:=λk=>by
  rw [hkm];rcases hM k with ⟨h1,h2⟩ | ⟨s,h1,h2,_⟩
  ·rw [h1,h2]; simp
  ·rw [h1]; simpa using h2
 have hknd:ks.Nodup:=fT (λ{a b} (hab:ltK a b) (e:a=b)=>zwg b (e ▸ hab)) hks;exact k ksl ks kb w1 kro hkl hks hkM (List.Nodup.length_le_of_subset hknd λk hk=>(hK k ((hkM k).1 hk)).1) st
theorem s_0b {K:List ByteArray} {P:ByteArray->List Ver->Prop} {pick:Value} {R:Slc->WP} (o:zpb s M sm bs) (st:St ⟨W,sm++m0⟩ (bs++fr) w) (hK:∀ k,M k≠[]->k∈K/\k.size<=64) (hKl:K.length<=16777216)
    (hpk:∀(key:ByteArray) (l:List zb) (w':World),St ⟨W,sm++m0⟩ (l++(bs++fr)) w'->zw (P:=Tryz.prog) pick #[Vt key] w' (λe w''=>∃ s' rb vs,e=Ending.returned (Vs s')/\RowC 3 s' (vs.flatMap verC) rb/\P key vs/\St ⟨W,sm++m0⟩ (rb++(l++(bs++fr))) w''))
    (k:∀ sl (zs:List HZ) ob vx w',RowC 2 sl ((hzF zs).flatMap hzC) ob->zs.length<=K.length->(zs.map (·.1)).Pairwise ltK->(∀ k,k∈zs.map (·.1)↔M k≠[])->(∀ z∈zs,InC vx z.2.1 z.2.2/\P z.1 z.2.2)->St ⟨W,sm++m0⟩ (ob++(vx++(bs++fr))) w'->R sl w'):C_jb s pick w R:=by
 have o':=o;obtain⟨b,m,es,c,vb,rfl,rfl,rfl,ok,hM⟩:=o;apply S_Bb;unfold F_Qe;refine s_d o' st ⟨N_,λ_=>⟨rfl,s_H ok hM st hK hKl λksl ks kb w1 kro hkl hks hkM hksl st=> ?_⟩⟩;have st:St ⟨W,(m,.map es c)::m0⟩ ([]++([]++(kb++((b,[Value.map (some m)])::(vb++fr))))) w1:=st
 refine⟨λout i w'=>∃(p:Nat) (zs:List HZ) (ob vx:List zb),i=(p:Int)/\p<=ks.length/\zs.map (·.1)=ks.take p/\RowC 2 out ((hzF zs).flatMap hzC) ob/\(∀ z∈zs,InC vx z.2.1 z.2.2/\P z.1 z.2.2)/\St ⟨W,(m,.map es c)::m0⟩ (ob++(vx++(kb++((b,[Value.map (some m)])::(vb++fr))))) w',λ_ i _=>ks.length - i.toNat,
  ⟨0,[],[],[],rfl,O_,rfl,RowC.nil,λz hz=>(by cases hz),st⟩,?_⟩
 clear st;rintro out i w2 ⟨p,zs,ob,vx,rfl,hp,hsk,ro,hin,st⟩
 have hsl:zs.length=p:=by
  have:=congrArg List.length hsk;rw [lM,aZ] at this;omega
 have hol:=ro.len;rw [zc zCm] at hol;have hfl:(hzF zs).length<=zs.length:=cI _ _;unfold F_Zd;refine⟨λhi=> ?_,λhi=> ?_⟩
 ·have hi:=dT hi;obtain⟨key,hy⟩:∃ y,ks[p]? =some y:=⟨_,aA O_⟩
  obtain⟨a1,_,a3⟩:=(kro.srcM (λc hc=>by simp [hc]) st).at1 (i:=p) (v:=Vt key) (by rw [aF,hy]; rfl);have wp:i64.wrap ((p:Int)+1)=((p+1:Nat):Int):=W_;have hc:=hpk key (ob++(vx++kb)) w2 (st.pq);refine⟨a1,O_,hi,key,by rw [tN]; exact a3,zw.mono hc ?_⟩;rintro e' w3 ⟨s',rb,vs,rfl,rro,hpv,st⟩;have hvl:=rro.len;rw [zc verC_len] at hvl;have hmap:(zs++[(key,s',vs)]).map (·.1)=ks.take (p+1):=by rw [aR,hsk,bL,hy]; rfl
  have hin':∀ z∈zs++[(key,s',vs)],InC (rb++vx) z.2.1 z.2.2/\P z.1 z.2.2:=λz hz=>by
   rcases aG.1 hz with hz | hz
   ·exact⟨(hin z hz).1.mono λq hq=>aH _ hq,(hin z hz).2⟩
   ·have:z=(key,s',vs):=by simpa using hz
    rw [this];exact⟨⟨rb,rro,λq hq=>bB _ hq⟩,hpv⟩
  refine⟨s',rfl,λhh=>λb1 w4 hb1 hw4=>⟨hzC (key,s',vs),zJ hb1 hw4 rfl,?_⟩,λhh=> ?_⟩
  ·have hh:=dT hh;have st:St ⟨W,(m,.map es c)::m0⟩ (ob++((rb++vx)++(kb++((b,[Value.map (some m)])::(vb++fr))))) w4:=(st.alloc (cs:=hzC (key,s',vs)) hb1 hw4).drop1.pq;refine ro.append st rfl rfl rfl (by show(out.len+1)*40<=_; omega) λout' ob' w5 ro' st hl'=> ?_;unfold F_Ab;rw [wp];refine⟨⟨p+1,zs++[(key,s',vs)],ob',rb++vx,rfl,O_,hmap,?_,hin',st⟩,L_⟩;rw [z8j,if_neg (show ¬ vs=[] from λe=>by rw [e] at hvl; simp at hvl; omega),bE,aY,dW,bZ]; exact ro'
  ·have hh:=dF hh;unfold F_Ab;rw [wp];refine⟨⟨p+1,zs++[(key,s',vs)],ob,rb++vx,rfl,O_,hmap,?_,hin',st.pq⟩,L_⟩;rw [z8j,if_pos (show vs=[] from aX O_),bZ]; exact ro
 ·have hi:=dF hi;have hpe:p=ks.length:=O_;rw [hpe,cU] at hsk;exact k out zs ob vx w2 ro O_ (by rw [hsk]; exact hks) (λk=>by rw [hsk]; exact hkM k) hin (st.wq kb)
theorem s_1b {K:List ByteArray} {R:Slc->WP} (o:zpb s M sm bs) (st:St ⟨W,sm++m0⟩ (bs++fr) w) (hK:∀ k,M k≠[]->k∈K/\k.size<=64) (hKl:K.length<=16777216) (hml:∀ k,(M k).length<=1099511627776)
    (k:∀ sl (zs:List HZ) ob vx w',RowC 2 sl (zs.flatMap hzC) ob->zs.length<=K.length->(zs.map (·.1)).Pairwise ltK->(∀ k,k∈zs.map (·.1)↔M k≠[])->(∀ z∈zs,InC vx z.2.1 (M z.1))->St ⟨W,sm++m0⟩ (ob++(vx++(bs++fr))) w'->R sl w'):C_hc s w R:=by
 apply S_ec;unfold F_of;refine s_d o st ⟨N_,λ_=> ?_⟩;have o':=o;obtain⟨b,m,es,c,vb,rfl,rfl,rfl,ok,hM⟩:=o;refine⟨rfl,s_0b (P:=λkey vs=>vs=M key) o' st hK hKl (λkey l w' st=>zw.mk (all:=#[Vp (Z0 b),Vt key]) K_ rfl ?_) λsl zs ob vx w' ro hl hp hm hin st=>k sl zs ob vx w' ?_ hl hp hm (λz hz=>by have h:=hin z hz; rw [<-h.2]; exact h.1) st⟩
 ·have key1:C_Kb (Z0 b) key w' (λs' w'=>∃ rb,RowC 3 s' ((M key).flatMap verC) rb/\s'.len=(M key).length/\St ⟨W,(m,.map es c)::m0⟩ (rb++(l++((b,[Value.map (some m)])::(vb++fr)))) w') :=
    s_gc (l:=l) ok (hM key) (hml key) st λs' rb w' a b c=>⟨rb,a,b,c⟩
  refine Calls.mono key1 ?_;rintro e' w3 ⟨s',rfl,rb,rro,hsl',st⟩;exact⟨s',rb,M key,rfl,rro,rfl,st⟩
 ·have e:hzF zs=zs:=fK.2 λz hz=>by
    have h1:=(hin z hz).2;have h2:=(hm z.1).1 (aQ.2 ⟨z,hz,rfl⟩);rw [<-h1] at h2;cases hz2:z.2.2 with
    | nil=>exact absurd hz2 h2
    | cons v r=>rfl
  rw [e] at ro; exact ro
theorem s_I {key:ByteArray} {mark:Int} {R:ByteArray->Bool->WP} (o:zpb s M sm bs) (st:St ⟨W,sm++m0⟩ (bs++fr) w) (hc:∀ k,okC 0 (M k)=true) (hml:∀ k,(M k).length<=1099511627776)
    (k:∀ v ok w',St ⟨W,sm++m0⟩ (bs++fr) w'->R v ok w'):C_Gb s key mark w R:=by
 apply S_fc;unfold F_zf;refine s_d o st ⟨N_,λ_=> ?_⟩;obtain⟨b,m,es,c,vb,rfl,rfl,rfl,ok,hM⟩:=o;obtain⟨sl,lok,hlk,hin⟩:=(hM key).lk;have hsl:∀ {l':List zb} {w':World},St ⟨W,[(m,.map es c)]++m0⟩ (l'++((b,[Value.map (some m)])::vb++fr)) w'->zj w' sl 3 ((M key).flatMap verC):=λ{l' w'} st=>hin.src (λq hq=>by simp [hq]) st;have hlen:=zub (hsl (l':=[]) st);have hm2:=hml key;refine⟨rfl,some m,st.cell 0 rfl rfl,es,sl,lok,.inr ⟨m,c,rfl,st.objAt 0 rfl⟩,ok.all,ok.nodup,⟨_,rfl⟩,hlk,s_fc st hsl O_ (hc key) λv ok1 w2 st b1 w3 hb1 hw3=> ?_⟩;have st:=st.alloc (cs:=verC ⟨0,Be,false⟩) hb1 hw3;refine⟨st.writable 0,λw4 hw4=> ?_⟩;have st:St ⟨W,[(m,.map es c)]++m0⟩ ((b1,verC v)::((b,[Value.map (some m)])::vb++fr)) w4:=st.put0 hw4;exact⟨v.Val,st.cell 0 rfl rfl,λ_=>⟨v.Drop,st.cell 0 rfl rfl,λw5 e5=>k _ _ w5 (st.drop1.keep e5)⟩,λ_ w5 e5=>k _ _ w5 (st.drop1.keep e5)⟩
end
abbrev entT (e:T_e):List Value:=[Vt e.Key,Vt e.Val]
abbrev verT (v:T_h):List Value:=[Vi v.Number,Vt v.Val,Vo v.Drop]
abbrev hldT (h:ByteArray×Slc):List Value:=[Vt h.1,Vs h.2]
set_option maxHeartbeats 4000000
theorem s_2b {w:World} {s:Slc} {xs:List Int} {v:Int} {R:Bool->WP} (hs:zj w s 1 (xs.map Vi)) (hl:s.len<=4398046511104) (k:∀ b,R b w):C_9 s v w R:=by
 apply S_H;unfold F_vd;apply S_Y;unfold F_7d;refine⟨λi w'=>w'=w/\∃ p:Nat,i=(p:Int)/\p<=s.len,λi _=>s.len - i.toNat,⟨rfl,0,rfl,O_⟩,?_⟩;rintro i _ ⟨rfl,p,rfl,hp⟩;unfold F_wd;refine⟨λhi=> ?_,λ_=>k _⟩;have hi:=dT hi;obtain⟨a,x,hx,hc⟩:=hs.get (i:=(p:Int)) O_ hi;have wp:i64.wrap ((p:Int)+1)=((p+1:Nat):Int):=W_;rw [wp];exact⟨a,O_,hi,x,hc,λ_=>k _,λ_=>⟨⟨rfl,p+1,rfl,O_⟩,L_⟩⟩
section
variable {w0:Base} {w:World} {fr:List zb}
theorem s_Eb {l beyond:Slc} {vs:List Ver} {bey:List Int} {at_:Int} {R:Slc->Int->WP} (st:St w0 fr w) (hs:∀ {l':List zb} {w':World},St w0 (l'++fr) w'->zj w' l 3 (vs.flatMap verC)) (hb:∀ {l':List zb} {w':World},St w0 (l'++fr) w'->zj w' beyond 1 (bey.map Vi)) (hl:l.len<=1099511627776) (hcap:l.len<=l.cap) (hbl:beyond.len<=4398046511104) (hc:okC 0 vs=true)
    (k:∀ s' rb (ds:List Ver) w',RowC 3 s' (ds.flatMap verC) rb->ds.length<=vs.length->(∀ d∈ds,d∈vs)->St w0 (rb++fr) w'->R s' 0 w'):C_ld l at_ beyond w R:=by
 apply S_gd;unfold F_Kg;have hs0:=hs (l':=[]) st;have hv:=zub hs0;obtain⟨hr,hm⟩:=zHb.1 hc;refine s_b hs0 O_ λw2 e2=> ?_;rw [if_pos hc];have st2:=st.keep e2;refine⟨N_,λ_=>s_P (hs (l':=[]) st2) O_ hr λw3 e3=> ?_⟩;have st3:=st2.keep e3;have hu:=zef at_ vs;obtain⟨u,hu0⟩:∃ u,upF at_ vs=u:=⟨_,rfl⟩
 rw [hu0] at hu ⊢
 have k0:∀ out ob (ds:List Ver) w',RowC 3 out (ds.flatMap verC) ob->ds.length<=u->(∀ d∈ds,d∈vs)->St w0 (ob++fr) w'->F_td l beyond R (u:Int) out w':=λout ob ds w' ro hd hdm st=>by
  unfold F_td;refine⟨⟨O_,O_,O_,O_⟩,λs hs'=> ?_⟩
  have hsS:∀ {l':List zb} {w':World},St w0 (l'++fr) w'->zj w' s 3 ((vs.drop u).flatMap verC):=λ{l' w'} st=>by
   have h:=(hs st).cut (lo:=(u:Int)) (hi:=((l.len:Nat):Int)) (mx:=((l.cap:Nat):Int)) O_ O_ O_ O_;rw [<-hs',tN,tN,zff verC_len,bF (by rw [zc verC_len,bJ,hv]; exact bC _)] at h;exact h
  have hsl:=zub (hsS st);rw [bJ] at hsl;refine⟨λout i w'=>∃(p:Nat) (ob:List zb) (ds:List Ver),i=(p:Int)/\p<=s.len/\RowC 3 out (ds.flatMap verC) ob/\ds.length<=u+p/\(∀ d∈ds,d∈vs)/\St w0 (ob++fr) w',λ_ i _=>s.len - i.toNat,⟨0,ob,ds,rfl,O_,ro,O_,hdm,st⟩,?_⟩;rintro out i w4 ⟨p,ob,ds,rfl,hp,ro,hd,hdm,st⟩;unfold F_ig;have wp:i64.wrap ((p:Int)+1)=((p+1:Nat):Int):=W_;refine⟨λhi=> ?_,λhi=>k out ob ds w4 ro O_ hdm st⟩;have hi:=dT hi;obtain⟨a,v,hv1,hc1⟩:=zWc (hsS st) (i:=p) O_;refine⟨a,O_,hi,v,by rw [tN]; exact hc1,λb w5 hb5 hw5=> ?_⟩;have st5:=st.alloc (cs:=verC ⟨0,Be,false⟩) hb5 hw5;refine⟨st5.writable 0,λw6 hw6=> ?_⟩;have st6:St w0 ((b,verC v)::(ob++fr)) w6:=st5.put0 hw6;have hol:=ro.len;rw [zc verC_len] at hol;refine⟨v.Number,st6.cell 0 rfl rfl,s_2b (hb (l':=(b,verC v)::ob) st6) hbl λx=>⟨λ_=> ?_,λ_=> ?_⟩⟩
  ·refine⟨v,(st6.get 0 rfl).all,λb1 w7 hb7 hw7=>⟨verC v,zJ hb7 hw7 rfl,?_⟩⟩;have st7:=(st6.drop1.alloc (cs:=verC v) hb7 hw7).drop1;refine ro.append st7 rfl rfl rfl (by show(out.len+1)*32<=_; omega) λout' ob' w8 ro' st8 hl8=> ?_;unfold F_sd;rw [wp];refine⟨⟨p+1,ob',ds++[v],rfl,O_,by rw [bE,zfh]; exact ro',by rw [aB,bT]; omega,λd hd'=> ?_,st8⟩,L_⟩;rcases aG.1 hd' with h | h
   ·exact hdm d h
   ·have:d=v:=by simpa using h
    rw [this];exact dM (mG hv1)
  ·unfold F_sd;rw [wp];exact⟨⟨p+1,ob,ds,rfl,O_,ro,O_,hdm,st6.drop1⟩,L_⟩
 have k00:=λw' st=>k0 ⟨none,0,0⟩ [] [] w' RowC.nil (bU _) (λd hd=>by cases hd) st;refine⟨λh=> ?_,λh=> ?_⟩
 ·have h:=dT h;have wp:i64.wrap ((u:Int) - 1)=((u - 1:Nat):Int):=W_;obtain⟨a,v,hv1,hc1⟩:=zWc (hs (l':=[]) st3) (i:=u - 1) O_;rw [wp];refine⟨a,O_,O_,v.Drop,by rw [tN]; exact zy.1 hc1 2 _ rfl,?_⟩;unfold F_ud;rw [wp];refine⟨λ_=>⟨a,O_,O_,v,by rw [tN]; exact hc1,λb1 w7 hb7 hw7=>⟨verC v,zJ hb7 hw7 rfl,?_⟩⟩,λ_=>k00 w3 st3⟩;have st7:St w0 ([]++fr) w7:=(st3.alloc (cs:=verC v) hb7 hw7).drop1;refine RowC.nil.append st7 rfl rfl rfl (by show(0+1)*32<=_; omega) λout' ob' w8 ro' st8 hl8=> ?_
  exact k0 out' ob' [v] w8 (by rw [zfh]; exact ro') (by show 1<=u; omega) (λd hd=>by
   have:d=v:=by simpa using hd
   rw [this]; exact mG hv1) st8
 ·unfold F_ud;exact⟨N_,λ_=>k00 w3 st3⟩
end
section
variable {W:World} {m0 sm:List (Nat×Obj)} {w:World} {fr bs:List zb} {s:OA} {M:SM} {K:List ByteArray}
theorem s_Fb {mark:Int} {beyond:Slc} {bey:List Int} {R:Slc->WP} (o:zpb s M sm bs) (st:St ⟨W,sm++m0⟩ (bs++fr) w) (hb:∀ {l':List zb} {w':World},St ⟨W,sm++m0⟩ (l'++fr) w'->zj w' beyond 1 (bey.map Vi)) (hbl:beyond.len<=4398046511104) (hK:∀ k,M k≠[]->k∈K/\k.size<=64) (hKl:K.length<=16777216) (hc:∀ k,okC 0 (M k)=true) (hml:∀ k,(M k).length<=1099511627776)
    (k:∀ sl (zs:List HZ) ob vx w',RowC 2 sl ((hzF zs).flatMap hzC) ob->zs.length<=K.length->(∀ z∈zs,InC vx z.2.1 z.2.2/\z.2.2.length<=(M z.1).length/\∀ d∈z.2.2,d∈M z.1)->St ⟨W,sm++m0⟩ (ob++(vx++(bs++fr))) w'->R sl w'):C_cc s mark beyond w R:=by
 apply S_Sb;unfold F_hf;intro b0 w1 hb0 hw1 b1 w2 hb1 hw2 b2 w3 hb2 hw3;have st:St ⟨W,sm++m0⟩ (bs++((b2,[Vs beyond])::(b1,[Vi mark])::(b0,[Vp s])::fr)) w3:=(((st.alloc (cs:=[Vp s]) hb0 hw1).alloc (cs:=[Vi mark]) hb1 hw2).alloc (cs:=[Vs beyond]) hb2 hw3).pq;have o':=o;obtain⟨b,m,es,c,vb,rfl,rfl,rfl,ok,hM⟩:=o;refine⟨_,(st.blk (b0,[Vp (Z0 b)]) (by simp)).cell rfl,s_0b (P:=λkey vs=>vs.length<=(M key).length/\∀ d∈vs,d∈M key) o' st hK hKl (λkey l w' st=>zw.mk (all:=#[Vt key,Vp (Z0 b0),Vp (Z0 b1),Vp (Z0 b2)]) K_ rfl ?_) λsl zs ob vx w' ro hl hp hm hin st=>k sl zs ob vx w' ro hl hin (st.weak [(b2,[Vs beyond]),(b1,[Vi mark]),(b0,[Vp (Z0 b)])] (za λf_=>by simp <;> omega))⟩
 have key1:C_2c key (Z0 b0) (Z0 b1) (Z0 b2) w' (λs' w''=>∃ rb,∃ vs:List Ver,RowC 3 s' (vs.flatMap verC) rb/\(vs.length<=(M key).length/\∀ d∈vs,d∈M key)/\St ⟨W,[(m,.map es c)]++m0⟩ (rb++(l++(((b,[Value.map (some m)])::vb)++((b2,[Vs beyond])::(b1,[Vi mark])::(b0,[Vp (Z0 b)])::fr)))) w''):=by
  apply S_lb;unfold F_Ke;intro w4 e4;have st:=st.drew e4;obtain⟨sl,lok,hlk,hin⟩:=(hM key).lk;have hsl:∀ {l':List zb} {w':World},St ⟨W,[(m,.map es c)]++m0⟩ (l'++(l++(((b,[Value.map (some m)])::vb)++((b2,[Vs beyond])::(b1,[Vi mark])::(b0,[Vp (Z0 b)])::fr)))) w'->zj w' sl 3 ((M key).flatMap verC):=λ{l' w'} st=>hin.src (λq hq=>by simp [hq]) st;have hbb:∀ {l':List zb} {w':World},St ⟨W,[(m,.map es c)]++m0⟩ (l'++(l++(((b,[Value.map (some m)])::vb)++((b2,[Vs beyond])::(b1,[Vi mark])::(b0,[Vp (Z0 b)])::fr)))) w'->zj w' beyond 1 (bey.map Vi):=λ{l' w'} st=>hb (l':=l'++(l++(((b,[Value.map (some m)])::vb)++[(b2,[Vs beyond]),(b1,[Vi mark]),(b0,[Vp (Z0 b)])]))) (by simpa using st);have hlen:=zub (hsl (l':=[]) st);have hm2:=hml key;have cl:∀ {q:zb} {o:Nat} {v:Value},q∈l++(((b,[Value.map (some m)])::vb)++((b2,[Vs beyond])::(b1,[Vi mark])::(b0,[Vp (Z0 b)])::fr))->q.2[o]? =some v->w4.cell? ⟨q.1,o,none⟩=some v:=λ{q o v} hq hv=>(st.blk q hq).cell hv
  have hcap:sl.len<=sl.cap:=by
   obtain⟨rb,a,_⟩:=hin;exact a.cap_le
  refine⟨rfl,_,cl (q:=(b0,[Vp (Z0 b)])) (by simp) rfl,rfl,some m,cl (q:=(b,[Value.map (some m)])) (by simp) rfl,es,sl,lok,.inr ⟨m,c,rfl,st.objAt 0 rfl⟩,ok.all,ok.nodup,⟨_,rfl⟩,hlk,rfl,mark,cl (q:=(b1,[Vi mark])) (by simp) rfl,rfl,beyond,cl (q:=(b2,[Vs beyond])) (by simp) rfl,?_⟩;exact s_Eb st hsl hbb O_ hcap hbl (hc key) λs' rb ds w5 ro hd hdm st=>⟨rb,ds,ro,⟨hd,hdm⟩,st⟩
 refine Calls.mono key1 ?_;rintro e' w4 ⟨s',rfl,rb,vs,rro,hp,st⟩;exact⟨s',rb,vs,rfl,rro,hp,st⟩
def zjj (least:Int) (M:SM):SM:=λkey=>colF least (M key)
theorem s_Z {least:Int} {R:Int->WP} (o:zpb s M sm bs) (st:St ⟨W,sm++m0⟩ (bs++fr) w) (hK:∀ k,M k≠[]->k∈K/\k.size<=64) (hKl:K.length<=16777216) (hc:∀ k,okC 0 (M k)=true) (hml:∀ k,(M k).length<=1099511627776)
    (k:∀ n sm' bs' w',zpb s (zjj least M) sm' bs'->St ⟨W,sm'++m0⟩ (bs'++fr) w'->R n w'):C_Ob s least w R:=by
 classical
 apply S_fb;unfold F_pe;refine s_d o st ⟨N_,λ_=> ?_⟩;obtain⟨b,m,es,c,vb,rfl,rfl,rfl,ok,hM⟩:=o;refine⟨rfl,s_H ok hM st hK hKl λksl ks kb w1 kro hkl hks hkM hksl st=> ?_⟩;have hnd:ks.Nodup:=fT (λ{a b} (hab:ltK a b) (e:a=b)=>zwg b (e ▸ hab)) hks
 refine⟨λ_ i w'=>∃(p:Nat) (es:Array MapEntry) (c:Nat) (vb:List zb),i=(p:Int)/\p<=ks.length/\MOk isKS es c/\(∀ j,KeyV es vb j (if j∈ks.take p then colF least (M j) else M j))/\St ⟨W,(m,.map es c)::m0⟩ (kb++((b,[Value.map (some m)])::(vb++fr))) w',λ_ i _=>ks.length - i.toNat,
  ⟨0,es,c,vb,rfl,O_,ok,λj=>by simpa using hM j,st⟩,?_⟩
 clear st ok hM;rintro n i w2 ⟨p,es,c,vb,rfl,hp,ok,hM,st⟩;unfold F_Fd;refine⟨λhi=> ?_,λhi=> ?_⟩
 ·have hi:=dT hi;obtain⟨key,hy⟩:∃ y,ks[p]? =some y:=⟨_,aA O_⟩
  have wp:i64.wrap ((p:Int)+1)=((p+1:Nat):Int):=W_;obtain⟨a1,_,a3⟩:=(kro.srcM (λc hc=>by simp [hc]) st).at1 (i:=p) (v:=Vt key) (by rw [aF,hy]; rfl)
  have hnt:key∉ks.take p:=λhmem=>by
   obtain⟨j,hj⟩:=bG.1 hmem;rw [dJ] at hj;split at hj
   ·have:=(dG O_ hnd).1 (hj.trans hy.symm);omega
   ·cases hj
  have hMk:=hM key;rw [if_neg hnt] at hMk;obtain⟨sl,lok,hlk,hin⟩:=hMk.lk;have hsl:∀ {l':List zb} {w':World},St ⟨W,(m,.map es c)::m0⟩ (l'++(kb++((b,[Value.map (some m)])::(vb++fr)))) w'->zj w' sl 3 ((M key).flatMap verC):=λ{l' w'} st=>hin.src (λq hq=>by simp [hq]) st;have hlen:=zub (hsl (l':=[]) st);have hm2:=hml key;refine⟨a1,O_,hi,key,by rw [tN]; exact a3,rfl,some m,(st.blk (b,[Value.map (some m)]) (by simp)).cell rfl,es,sl,lok,.inr ⟨m,c,rfl,st.objAt 0 rfl⟩,ok.all,ok.nodup,⟨_,rfl⟩,hlk,?_⟩;refine s_Y st hsl O_ (hc key) λs' rb w3 g ro hg0 hg1 st=> ?_;refine⟨rfl,some m,(st.blk (b,[Value.map (some m)]) (by simp)).cell rfl,m,es,c,rfl,st.objAt 0 rfl,ok.all,ok.nodup,⟨_,rfl⟩,λes2 c2 w5 hset hw5=> ?_⟩;have st:=st.mset0 hw5;obtain⟨ok2,va,vb2⟩:=ok.set ⟨_,rfl⟩ hset;rw [wp];refine⟨⟨p+1,es2,c2,vb++rb,rfl,O_,ok2,λj=> ?_,st.pq⟩,L_⟩;have htk:ks.take (p+1)=ks.take p++[key]:=by rw [bL,hy]; rfl
  by_cases hj:j=key
  ·subst hj;rw [htk,if_pos (by simp)];refine .inr ⟨s',va,λe=> ?_,rb,ro,λq hq=>aH _ hq⟩;have hne:=(hkM j).1 (mG hy);have hu:=zef least (M j);have hl:=congrArg List.length e;unfold colF at hl;rw [bJ,eC] at hl;exact hne (aX O_)
  ·have e:=vb2 (.string j) (λe=>hj (by injection e))
   have hif:(if j∈ks.take (p+1) then colF least (M j) else M j)=(if j∈ks.take p then colF least (M j) else M j):=by
    rw [htk];simp [hj]
   rw [hif];rcases hM j with ⟨h1,h2⟩ | ⟨sj,h1,h2,h3⟩
   ·exact .inl ⟨e.trans h1,h2⟩
   ·exact .inr ⟨sj,e.trans h1,h2,h3.mono λq hq=>bB _ hq⟩
 ·have hi:=dF hi;have hpe:p=ks.length:=O_;rw [hpe,cU] at hM;refine k n [(m,.map es c)] ((b,[Value.map (some m)])::vb) w2 ⟨b,m,es,c,vb,rfl,rfl,rfl,ok,λj=> ?_⟩ (st.wq kb);have h:=hM j;by_cases hj:j∈ks
  ·rw [if_pos hj] at h; exact h
  ·rw [if_neg hj] at h;have hn:M j=[]:=bX λhne=>hj ((hkM j).2 hne);show KeyV es vb j (colF least (M j));rw [hn] at h ⊢;exact h
theorem s_Gb {key end_:ByteArray} {mark:Int} {R:Slc->WP} (o:zpb s M sm bs) (st:St ⟨W,sm++m0⟩ (bs++fr) w) (hK:∀ k,M k≠[]->k∈K/\k.size<=64) (hKl:K.length<=16777216) (hc:∀ k,okC 0 (M k)=true) (hml:∀ k,(M k).length<=1099511627776)
    (k:∀ sl (xs:List T_e) ob w',RowC 2 sl (xs.flatMap entT) ob->xs.length<=K.length->St ⟨W,sm++m0⟩ (ob++(bs++fr)) w'->R sl w'):C_bc s key end_ mark w R:=by
 apply S_Rb;unfold F_gf;refine s_d o st ⟨N_,λ_=> ?_⟩;apply S_hd;unfold F_1f;have o':=o;obtain⟨b,m,es,c,vb,rfl,rfl,rfl,ok,hM⟩:=o;refine .inl ⟨_,rfl,rfl,s_H ok hM st hK hKl λksl ks kb w1 kro hkl hks hkM hksl st=> ?_⟩;unfold F_rd;refine⟨λout i w'=>∃(p:Nat) (xs:List T_e) (ob:List zb),i=(p:Int)/\p<=ks.length/\xs.length<=p/\RowC 2 out (xs.flatMap entT) ob/\St ⟨W,[(m,.map es c)]++m0⟩ (ob++(kb++(((b,[Value.map (some m)])::vb)++fr))) w',λ_ i _=>ks.length - i.toNat,⟨0,[],[],rfl,O_,bU _,RowC.nil,st⟩,?_⟩;clear st;rintro out i w2 ⟨p,xs,ob,rfl,hp,hx,ro,st⟩;unfold F_hg;refine⟨λhi=> ?_,λhi=>k out xs ob w2 ro O_ (st.wq kb)⟩;have hi:=dT hi;obtain⟨key1,hy⟩:∃ y,ks[p]? =some y:=⟨_,aA O_⟩
 have wp:i64.wrap ((p:Int)+1)=((p+1:Nat):Int):=W_;obtain⟨a1,_,a3⟩:=(kro.srcM (λc hc=>by simp [hc]) st).at1 (i:=p) (v:=Vt key1) (by rw [aF,hy]; rfl);have st:St ⟨W,[(m,.map es c)]++m0⟩ (((b,[Value.map (some m)])::vb)++(ob++(kb++fr))) w2:=st.pq;have hol:=ro.len;rw [zc (f:=entT) (sz:=2) (λ_=>rfl)] at hol;refine⟨a1,O_,hi,key1,by rw [tN]; exact a3,⟨_,rfl,s_I o' st hc hml λv okv w3 st=>⟨λ_=>λb1 w4 hb1 hw4=>⟨entT ⟨key1,v⟩,zJ hb1 hw4 rfl,?_⟩,λ_=> ?_⟩⟩⟩
 ·have st:St ⟨W,[(m,.map es c)]++m0⟩ (ob++(kb++(((b,[Value.map (some m)])::vb)++fr))) w4:=(st.alloc (cs:=entT ⟨key1,v⟩) hb1 hw4).drop1.pq;refine ro.append st rfl rfl rfl (by show(out.len+1)*32<=_; omega) λout' ob' w5 ro' st hl'=> ?_;unfold F_qd;rw [wp];exact⟨⟨p+1,xs++[⟨key1,v⟩],ob',rfl,O_,by rw [aB,bT]; omega,by rw [bE,aY,dW,bZ]; exact ro',st⟩,L_⟩
 ·unfold F_qd;rw [wp];exact⟨⟨p+1,xs,ob,rfl,O_,O_,ro,st.pq⟩,L_⟩
end
abbrev verV (v:Ver):List Value:=[Vi v.Number,Vt v.Val,Vo v.Drop]
abbrev Hd:=ByteArray×List Ver
abbrev hdV (k:ByteArray) (s:Slc):List Value:=[Vt k,Vs s]
def InV (h:Hd) (s:Slc) (c:List zb):Prop:=RowC 3 s (h.2.flatMap verV) c
def HdsO (sl:Slc) (hs:List Hd) (cs:List zb):Prop :=
 ∃ vsl tb pb,cs=tb++pb/\RowC 2 sl ((hs.zip vsl).flatMap λp=>hdV p.1.1 p.2) tb/\zzb InV hs vsl pb
theorem HdsO.nil:HdsO ⟨none,0,0⟩ [] []:=⟨[],[],[],rfl,RowC.nil,rfl⟩
theorem zoc {α σ:Type} {f:α×σ->List Value} {sz:Nat} (hf:∀ x,(f x).length=sz) {xs:List α} {sls:List σ} (h:sls.length=xs.length):((xs.zip sls).flatMap f).length=xs.length*sz:=by
 rw [zc hf,List.length_zip,h,Nat.min_self]
theorem zYe {α σ:Type} {f:α×σ->List Value} {xs:List α} {sls:List σ} (h:sls.length=xs.length) (x:α) (s:σ):((xs++[x]).zip (sls++[s])).flatMap f=(xs.zip sls).flatMap f++f (x,s):=by
 rw [List.zip_append h.symm,bE]; simp
abbrev HO:=ByteArray×List T_h×Slc
abbrev hoT (o:HO):List Value:=hldT (o.1,o.2.2)
structure HdAt (w:World) (s:Slc) (os:List HO):Prop where
 src:zj w s 2 (os.flatMap hoT)
 ver:∀ o∈os,zj w o.2.2 3 (o.2.1.flatMap verT)/\o.2.2.len*32<=140737488351232
theorem HdAt.ext {w w':World} {s:Slc} {os:List HO} (h:HdAt w s os) (e:Ext w w'):HdAt w' s os:=⟨e.src h.src,λo ho=>⟨e.src (h.ver o ho).1,(h.ver o ho).2⟩⟩
abbrev rspT (r:T_k):List Value:=[Vi r.To,Vo r.OK,Vs r.Entries,Vs r.Held,Vi r.Count]
structure z9j (w:World) (r:T_k) (es:List T_e) (os:List HO):Prop where
 ent:zj w r.Entries 2 (es.flatMap entT)
 elen:r.Entries.len*32<=140737488351232
 hld:HdAt w r.Held os
 hlen:r.Held.len*40<=140737488351232
theorem z9j.ext {w w':World} {r:T_k} {es:List T_e} {os:List HO} (h:z9j w r es os) (e:Ext w w'):z9j w' r es os:=⟨e.src h.ent,h.elen,h.hld.ext e,h.hlen⟩
theorem z4l:∀ xs:List Int,zv (xs.map Vi)=true
 | []=>rfl
 | x::r=>by
  have:=z4l r;unfold zv at this ⊢;rw [cG,fM,this]; rfl
theorem zgf {w:World} {s:Slc} {sz:Nat} {src:List Value} (hs:zj w s sz src) (hp:s.ptr=none):src=[]:=by
 obtain⟨_,h2 | ⟨h2,_⟩⟩:=hs
 ·exact h2
 ·rw [hp] at h2; cases h2
theorem s_w {w:World} {s:Slc} {xs:List Int} {R:Slc->WP} (hs:zj w s 1 (xs.map Vi)) (hl:s.len*8<=140737488351232)
    (k:∀ s' rb w',RowC 1 s' (xs.map Vi) rb->St ⟨w,[]⟩ rb w'->s'.len=xs.length->R s' w'):C_F s w R:=by
 apply S_X;unfold F_0d;have hlen:=hs.len_eq;refine⟨λh=> ?_,λh=>λb w1 hb hw=> ?_⟩
 ·have hp:s.ptr=none:=by simpa using h
  have hv:xs=[]:=List.map_eq_nil_iff.1 (zgf hs hp);subst hv;exact k _ [] _ RowC.nil (St.start w) rfl
 ·have st2:=(St.start w).alloc hb hw;refine⟨_,st2.ext.src hs,?_⟩;refine(RowC.new (b:=b) (xs:=[]) (n:=0) rfl:RowC 1 ⟨some ⟨b,0,none⟩,0,0⟩ [] [(b,[])]).append st2 (by simp [hlen]) (z4l xs) rfl (by show(0+s.len)*8<=_; omega) λs' rb w' r st' hl'=> ?_;have st3:St ⟨w,[]⟩ rb w':=by simpa using st'
  exact k _ _ _ (by simpa using r) st3 (by rw [hl']; show 0+s.len=_; omega)
theorem z5h:∀ xs:List T_e,zv (xs.flatMap entT)=true
 | []=>rfl
 | x::r=>by
  have:=z5h r;unfold zv at this ⊢;rw [aY,List.all_append,this]; rfl
theorem s_hc {w:World} {s:Slc} {xs:List T_e} {R:Slc->WP} (hs:zj w s 2 (xs.flatMap entT)) (hl:s.len*32<=140737488351232)
    (k:∀ s' rb w',RowC 2 s' (xs.flatMap entT) rb->St ⟨w,[]⟩ rb w'->s'.len=xs.length->R s' w'):C_B s w R:=by
 apply S_s;unfold F_ac;have hlen:=hs.1;have hfl:=zc (f:=entT) (sz:=2) (λ_=>rfl) xs;refine⟨λh=> ?_,λh=>λb w1 hb hw=> ?_⟩
 ·have hp:s.ptr=none:=by simpa using h
  have hv:=zgf hs hp;have hx:xs=[]:=aX (by rw [hv] at hfl; simp at hfl; omega);subst hx;exact k _ [] _ RowC.nil (St.start w) rfl
 ·have st2:=(St.start w).alloc hb hw;refine⟨_,st2.ext.src hs,?_⟩;refine(RowC.new (b:=b) (xs:=[]) (n:=0) rfl:RowC 2 ⟨some ⟨b,0,none⟩,0,0⟩ [] [(b,[])]).append st2 hlen (z5h xs) rfl (by show(0+s.len)*32<=_; omega) λs' rb w' r st' hl'=> ?_;have st3:St ⟨w,[]⟩ rb w':=by simpa using st'
  exact k _ _ _ (by simpa using r) st3 (by rw [hl']; show 0+s.len=_; omega)
theorem zak:∀ xs:List T_h,zv (xs.flatMap verT)=true
 | []=>rfl
 | x::r=>by
  have:=zak r;unfold zv at this ⊢;rw [aY,List.all_append,this]; rfl
theorem s_s {w:World} {s:Slc} {xs:List T_h} {R:Slc->WP} (hs:zj w s 3 (xs.flatMap verT)) (hl:s.len*32<=140737488351232)
    (k:∀ s' rb w',RowC 3 s' (xs.flatMap verT) rb->St ⟨w,[]⟩ rb w'->s'.len=xs.length->R s' w'):C_a s w R:=by
 apply S_b;unfold F_F;have hlen:=hs.1;have hfl:=zc (f:=verT) (sz:=3) (λ_=>rfl) xs;refine⟨λh=> ?_,λh=>λb w1 hb hw=> ?_⟩
 ·have hp:s.ptr=none:=by simpa using h
  have hv:=zgf hs hp;have hx:xs=[]:=aX (by rw [hv] at hfl; simp at hfl; omega);subst hx;exact k _ [] _ RowC.nil (St.start w) rfl
 ·have st2:=(St.start w).alloc hb hw;refine⟨_,st2.ext.src hs,?_⟩;refine(RowC.new (b:=b) (xs:=[]) (n:=0) rfl:RowC 3 ⟨some ⟨b,0,none⟩,0,0⟩ [] [(b,[])]).append st2 hlen (zak xs) rfl (by show(0+s.len)*32<=_; omega) λs' rb w' r st' hl'=> ?_;have st3:St ⟨w,[]⟩ rb w':=by simpa using st'
  exact k _ _ _ (by simpa using r) st3 (by rw [hl']; show 0+s.len=_; omega)
structure Cq where
 kind:Int
 from_:Int
 num:Int
 key:ByteArray
 end_:ByteArray
 bey:List Int
abbrev Ent:=T_e
abbrev entV (e:Ent):List Value:=[Vt e.Key,Vt e.Val]
structure Rp where
 ok:Bool
 ents:List Ent
 held:List Hd
 count:Int
structure Rp.Small (p:Rp):Prop where
 ents:p.ents.length<=1024
 held:p.held.length<=1024
 vers:∀ h∈p.held,h.2.length<=1024
structure TkM where
 number:Int
 cfg:Cfg
 call:T_f
 begun:Bool
 mark:Int
 rest:List (Int×Cq)
 out:Nat
 reps:List Rp
abbrev noStr:ByteArray:=Be
def rqT (q:Cq) (s:Slc):T_d:=⟨q.kind,q.from_,q.num,⟨noStr,noStr,false⟩,q.key,q.end_,s⟩
abbrev rqV (q:Cq) (s:Slc):List Value:=[Vb q.kind,Vi q.from_,Vi q.num,Vt noStr,Vt noStr,Vo false,Vt q.key,Vt q.end_,Vs s]
abbrev zRq:List Value:=[Vb 0,Vi 0,Vi 0,Vt Be,Vt Be,Vo false,Vt Be,Vt Be,Ns]
def zXd (c:T_f):Prop :=
 (c.Kind=1/\1<=c.Key.size/\c.Key.size<=64/\c.End.size=0)\/(c.Kind=2/\c.Key.size<=64/\c.End.size<=64)\/((c.Kind=3\/c.Kind=4)/\c.Key.size=0/\c.End.size=0)
instance (c:T_f):Decidable (zXd c):=inferInstanceAs (Decidable (_\/_))
def zLe (c:T_f):Int:=if zXd c then 0 else 1
def newE (n:Int) (c:Cfg) (x:T_f):Int:=if n>=0 then 1 else if zV c≠0 then 7 else zLe x
def newT (n:Int) (c:Cfg) (x:T_f):TkM:=⟨n,c,x,false,0,[],0,[]⟩
def upL:Int->List Int->Prop
 | _,[]=>True
 | t,n::r=>t<n/\n<=65536/\upL n r
def zgp:∀(t:Int) (l:List Int),Decidable (upL t l)
 | _,[]=>isTrue trivial
 | t,n::r=>by
  unfold upL;have:=zgp n r
  infer_instance
instance (t:Int) (l:List Int):Decidable (upL t l):=zgp t l
def mayB (mark least:Int) (bey:List Int):Prop:=0<=mark/\mark<=65536/\0<=least/\least<=mark/\upL (mark+1) bey
instance (mark least:Int) (bey:List Int):Decidable (mayB mark least bey):=inferInstanceAs (Decidable (_/\_))
def zBb (m:TkM):List Int:=if m.call.Kind=1 then [(zkb m.cfg m.call.Key).1] else(List.range m.cfg.Shards.toNat).map λ(i:Nat)=>((i:Nat):Int)
def reqM (m:TkM) (mark least:Int) (bey:List Int):Cq :=
 if m.call.Kind=1 then⟨2,m.number,mark,m.call.Key,noStr,[]⟩
 else if m.call.Kind=2 then⟨3,m.number,mark,m.call.Key,m.call.End,[]⟩
 else if m.call.Kind=3 then⟨4,m.number,least,noStr,noStr,[]⟩
 else⟨5,m.number,mark,noStr,noStr,bey⟩
def z0b (m:TkM) (mark least:Int) (bey:List Int):List (Int×Cq):=(zBb m).map λk=>(k,reqM m mark least bey)
def zzd (m:Option TkM) (mark least:Int) (bey:List Int):Int×Option TkM :=
 match m with
 | none=>(2,none)
 | some m=>if m.begun then(10,some m) else if mayB mark least bey then(0,some { m with begun:=true,mark:=mark,rest:=z0b m mark least bey }) else(1,some m)
def zgh (m:Option TkM):Int×Option TkM :=
 match m with
 | none=>(2,none)
 | some m=>match m.rest with
  | []=>(9,some m)
  | _::r=>(0,some { m with rest:=r,out:=m.out+1 })
def gotM (m:Option TkM) (to:Int) (p:Rp):Int×Option TkM :=
 match m with
 | none=>(2,none)
 | some m=>if m.reps.length>=m.out then(9,some m) else if to≠m.number then(1,some m) else(0,some { m with reps:=m.reps++[p] })
def allM (m:Option TkM):Bool :=
 match m with
 | none=>false
 | some m=>m.begun&&(m.rest.isEmpty&&decide (m.reps.length=m.out))
structure TkM.Ok (m:TkM):Prop where
 num:m.number<0
 cfg:zih m.cfg
 call:zXd m.call
 idle:m.begun=false->m.rest=[]/\m.out=0
 few:m.rest.length+m.out<=16
 reps:m.reps.length<=m.out
 mark:0<=m.mark/\m.mark<=65536
 bey:∀ q∈m.rest,q.2.bey.length<=65536
 one:m.call.Kind=1->m.rest.length+m.out<=1
 small:∀ r∈m.reps,r.Small
theorem zbk:∀ {l:List Int} {t:Int},upL t l->0<=t->t<=65537->l.length+t<=65537
 | [],t,_,_,h=>by simp; omega
 | n::r,t,h,h0,h1=>by
  have:=zbk h.2.2 (by have:=h.1; omega) (by have:=h.2.1; omega);have h1:=h.1;rw [aV]; omega
theorem TkM.Ok.key {m:TkM} (h:m.Ok):m.call.Key.size<=64/\m.call.End.size<=64:=by
 rcases h.call with h | h | h <;> omega
theorem TkM.Ok.kind {m:TkM} (h:m.Ok):m.call.Kind=1\/m.call.Kind=2\/m.call.Kind=3\/m.call.Kind=4:=by
 rcases h.call with h | h | h <;> omega
theorem zhf {m:TkM} (h:m.Ok):(zBb m).length<=16:=by
 unfold zBb;split
 ·simp
 ·have:=h.cfg.2.1.2;simp; omega
theorem TkM.Ok.begin_ {m:TkM} (h:m.Ok) (hb:m.begun=false) {mark least:Int} {bey:List Int} (hm:mayB mark least bey):TkM.Ok { m with begun:=true,mark:=mark,rest:=z0b m mark least bey }:=by
 have h1:=(h.idle hb).2;have h2:=zhf h;refine⟨h.num,h.cfg,h.call,λh=>by simp at h,?_,h.reps,⟨hm.1,hm.2.1⟩,λq hq=> ?_,λh3=> ?_,h.small⟩
 rotate_left 2
 ·show(z0b m mark least bey).length+m.out<=1;unfold z0b zBb;have h3:m.call.Kind=1:=h3;rw [if_pos h3,lM,bT]; omega
 ·show(z0b m mark least bey).length+m.out<=16;unfold z0b;rw [lM]; omega
 ·have hl:=zbk hm.2.2.2.2 (by have:=hm.1; omega) (by have:=hm.2.1; omega);have hm0:=hm.1;have hq:q∈z0b m mark least bey:=hq;unfold z0b at hq;obtain⟨k,_,rfl⟩:=aQ.1 hq;show(reqM m mark least bey).bey.length<=65536;unfold reqM;split
  ·simp
  split
  ·simp
  split
  ·simp
  ·show bey.length<=65536; omega
theorem TkM.Ok.sent {m:TkM} (h:m.Ok) {q:Int×Cq} {r:List (Int×Cq)} (hr:m.rest=q::r):TkM.Ok { m with rest:=r,out:=m.out+1 }:=by
 have h1:=h.few;have h2:=h.reps;rw [hr,aV] at h1;have h3:=h.one;rw [hr,aV] at h3;refine⟨h.num,h.cfg,h.call,λhb=> ?_,?_,?_,h.mark,λx hx=>h.bey x (by rw [hr]; exact aJ _ hx),λhk=> ?_,h.small⟩
 rotate_left 3
 ·have:=h3 hk;show r.length+(m.out+1)<=1; omega
 ·have:=(h.idle hb).1;rw [hr] at this; cases this
 ·show r.length+(m.out+1)<=16; omega
 ·show m.reps.length<=m.out+1; omega
theorem TkM.Ok.got {m:TkM} (h:m.Ok) (p:Rp) (hp:p.Small) (hl:¬ m.reps.length>=m.out):TkM.Ok { m with reps:=m.reps++[p] }:=by
 refine⟨h.num,h.cfg,h.call,h.idle,h.few,?_,h.mark,h.bey,h.one,λr hr=> ?_⟩
 rotate_left
 ·rcases aG.1 hr with hr | hr
  ·exact h.small r hr
  ·rw [bK.1 hr]; exact hp
 show(m.reps++[p]).length<=m.out;rw [aB,bT]; omega
def InQ (q:Int×Cq) (s:Slc) (c:List zb):Prop:=RowC 1 s (q.2.bey.map Vi) c
def InP (p:Rp) (s:Slc×Slc) (c:List zb):Prop:=∃ ec hc,c=ec++hc/\RowC 2 s.1 (p.ents.flatMap entV) ec/\HdsO s.2 p.held hc
abbrev qV (q:Int×Cq) (s:Slc):List Value:=Vi q.1::rqV q.2 s
abbrev rpV (p:Rp) (s:Slc×Slc):List Value:=[Vi 0,Vo p.ok,Vs s.1,Vs s.2,Vi p.count]
def zkj (sl:Slc) (qs:List (Int×Cq)) (cs:List zb):Prop:=∃ sls tb pb,cs=tb++pb/\RowC 10 sl ((qs.zip sls).flatMap λp=>qV p.1 p.2) tb/\zzb InQ qs sls pb
def zlj (sl:Slc) (ps:List Rp) (cs:List zb):Prop:=∃ sls tb pb,cs=tb++pb/\RowC 5 sl ((ps.zip sls).flatMap λp=>rpV p.1 p.2) tb/\zzb InP ps sls pb
abbrev tkV (n:Int) (c:Cfg) (x:T_f) (begun:Bool) (mark:Int) (rest:Slc) (out:Int) (reps:Slc):List Value :=
 [Vi n,Vi c.Lanes,Vi c.Shards,Vi c.Window,Vi c.Queue,Vb x.Kind,Vt x.Key,Vt x.End,Vo begun,Vi mark,Vs rest,Vi out,Vs reps]
abbrev zTk:List Value:=[Vi 0,Vi 0,Vi 0,Vi 0,Vi 0,Vb 0,Vt Be,Vt Be,Vo false,Vi 0,Ns,Vi 0,Ns]
def TkS (m:TkM) (b:Nat) (cs:List zb):Prop :=
 ∃ rs ps rc pc,m.Ok/\cs=(b,tkV m.number m.cfg m.call m.begun m.mark rs (m.out:Int) ps)::(rc++pc)/\zkj rs m.rest rc/\zlj ps m.reps pc
def TkO (t:OA) (m:Option TkM) (cs:List zb):Prop :=
 match m with
 | none=>(t=none/\cs=[])\/∃ b,t=some ⟨b,0,none⟩/\cs=[(b,zTk)]
 | some m=>∃ b,t=some ⟨b,0,none⟩/\TkS m b cs
theorem zkj.nil:zkj ⟨none,0,0⟩ [] []:=⟨[],[],[],rfl,RowC.nil,rfl⟩
theorem zlj.nil:zlj ⟨none,0,0⟩ [] []:=⟨[],[],[],rfl,RowC.nil,rfl⟩
theorem zkj.len {sl:Slc} {qs:List (Int×Cq)} {cs:List zb} (o:zkj sl qs cs):sl.len=qs.length:=by
 obtain⟨sls,tb,pb,rfl,r,ps⟩:=o;have:=r.len;rw [zoc (sz:=10) (λ_=>rfl) ps.len] at this;omega
theorem zlj.len {sl:Slc} {qs:List Rp} {cs:List zb} (o:zlj sl qs cs):sl.len=qs.length:=by
 obtain⟨sls,tb,pb,rfl,r,ps⟩:=o;have:=r.len;rw [zoc (sz:=5) (λ_=>rfl) ps.len] at this;omega
section
variable {w0:Base} {w:World} {fr cs:List zb} {t:OA} {m:Option TkM}
abbrev zck (c:T_f):List Value:=[Vb c.Kind,Vt c.Key,Vt c.End]
theorem s_A {c:T_f} {R:Int->WP} (k:∀ w',Ext w w'->R (zLe c) w'):C_Oc c w R:=by
 apply S_id;unfold F_Hg;intro b w1 hb hw;have st:St ⟨w,[]⟩ [(b,zck c)] w1:=(St.start w).alloc hb hw;have k:=k w1 st.ext
 have fin:∀ {v:Bool},v=decide (zXd c)->F_s R v w1:=λ{v} hv=>by
  unfold F_s;rw [hv];by_cases h:zXd c
  ·rw [decide_eq_true h];unfold zLe at k; rw [if_pos h] at k;exact⟨λh=>by simp at h,λ_=>k⟩
  ·rw [decide_eq_false h];unfold zLe at k; rw [if_neg h] at k;exact⟨λ_=>k,λh=>by simp at h⟩
 have no:¬ zXd c->F_s R false w1:=λh=>fin (decide_eq_false h).symm;refine⟨c.Kind,st.cell 0 rfl rfl,λh1=>⟨c.Key,st.cell 0 rfl rfl,λh2=>⟨c.Key,st.cell 0 rfl rfl,λh3=>⟨c.End,st.cell 0 rfl rfl,fin ?_⟩,λh3=>no λhc=> ?_⟩,λh2=>no λhc=> ?_⟩,λh1=>⟨λh2=>⟨c.Key,st.cell 0 rfl rfl,λh3=>⟨c.End,st.cell 0 rfl rfl,fin ?_⟩,λh3=>no λhc=> ?_⟩,λh2=> ?_⟩⟩
 ·have h1:c.Kind=1:=by simpa using h1
  rw [zTb,dO,decide_eq_false_iff_not] at h2;have h3:=dT h3;rw [zTb];refine decide_eq_decide.2 ⟨λh=> .inl ⟨h1,O_,O_,h⟩,λh=> ?_⟩;rcases h with h | h | h <;> omega
 ·have h1:c.Kind=1:=by simpa using h1
  have h3:=dF h3;rcases hc with h | h | h <;> omega
 ·have h1:c.Kind=1:=by simpa using h1
  rw [zTb,Bool.not_eq_false',decide_eq_true_eq] at h2;rcases hc with h | h | h <;> omega
 ·have h2:c.Kind=2:=by simpa using h2
  have h3:=dT h3;refine decide_eq_decide.2 ⟨λh=> .inr (.inl ⟨h2,O_,O_⟩),λh=> ?_⟩;rcases h with h | h | h <;> omega
 ·have h2:c.Kind=2:=by simpa using h2
  have h3:=dF h3;rcases hc with h | h | h <;> omega
 ·have h1:c.Kind≠1:=by simpa using h1
  have h2:c.Kind≠2:=by simpa using h2
  have key:∀ {v:Bool},v=decide (c.Kind=3\/c.Kind=4)->F_md R b v w1:=λ{v} hv=>by
   unfold F_md;rw [hv];refine⟨λh=>⟨c.Key,st.cell 0 rfl rfl,λh3=>⟨c.End,st.cell 0 rfl rfl,fin ?_⟩,λh3=>no λhc=> ?_⟩,λh=>no λhc=> ?_⟩
   ·have h:=dT h;rw [zTb,decide_eq_true_eq] at h3;rw [zTb];refine decide_eq_decide.2 ⟨λh5=> .inr (.inr ⟨h,h3,h5⟩),λh=> ?_⟩;rcases h with h | h | h <;> omega
   ·have h:=dT h;rw [zTb,decide_eq_false_iff_not] at h3;rcases hc with h | h | h <;> omega
   ·have h:=dF h;rcases hc with h | h | h <;> omega
  refine⟨λh3=>key ?_,λh3=>key ?_⟩
  ·have h3':c.Kind=3:=by simpa using h3
   rw [h3,decide_eq_true (.inl h3')]
  ·have h3':c.Kind≠3:=by simpa using h3
   by_cases h4:c.Kind=4
   ·rw [decide_eq_true (.inr h4),h4]; rfl
   ·rw [decide_eq_false O_]; simpa using h4
theorem zmj {c:T_f} (h:zLe c=0):zXd c:=by
 unfold zLe at h;by_cases hc:zXd c
 ·exact hc
 ·rw [if_neg hc] at h; cases h
theorem zDm {n:Int} {c:Cfg} {x:T_f} (h:newE n c x=0):(newT n c x).Ok:=by
 unfold newE at h;by_cases h1:n>=0
 ·rw [if_pos h1] at h; cases h
 rw [if_neg h1] at h;by_cases h2:zV c≠0
 ·rw [if_pos h2] at h; cases h
 rw [if_neg h2] at h;exact⟨by show n<0; omega,z7 (Decidable.not_not.1 h2),zmj h,λ_=>⟨rfl,rfl⟩,by show 0+0<=16; omega,bC _,by show(0:Int)<=0/\(0:Int)<=65536; omega,λq hq=>(by cases hq),λ_=>by show 0+0<=1; omega,λr hr=>(by cases hr)⟩
theorem s_ic {n:Int} {c:Cfg} {x:T_f} {R:OA->Int->WP} (st:St w0 fr w)
    (k1:newE n c x≠0->∀ w',St w0 fr w'->R none (newE n c x) w') (k0:newE n c x=0->∀ b cs w',TkO (Z0 b) (some (newT n c x)) cs->St w0 (cs++fr) w'->R (Z0 b) 0 w'):C_vd n c x w R:=by
 apply S_wd;unfold F_Qg;intro b1 w1 hb1 hw1 b2 w2 hb2 hw2;have st2:St w0 ((b2,zck x)::(b1,cfgV c)::fr) w2:=(st.alloc (cs:=cfgV c) hb1 hw1).alloc (cs:=zck x) hb2 hw2;refine⟨λh=> ?_,λh=> ?_⟩
 ·have h:=dT h;have e:newE n c x=1:=by unfold newE; rw [if_pos h]
  rw [e] at k1;exact k1 D_ w2 st2.drop1.drop1
 have h:=dF h;refine⟨c,⟨st2.cell 1 rfl rfl,st2.cell 1 rfl rfl,st2.cell 1 rfl rfl,st2.cell 1 rfl rfl,trivial⟩,s_h λw3 e3=> ?_⟩;have st3:=st2.keep e3;refine⟨λh2=> ?_,λh2=> ?_⟩
 ·have h2:zV c≠0:=by simpa using h2
  have e:newE n c x=7:=by unfold newE; rw [if_neg h,if_pos h2]
  rw [e] at k1;exact k1 D_ w3 st3.drop1.drop1
 have h2:zV c=0:=by simpa using h2
 refine⟨x,⟨st3.cell 0 rfl rfl,st3.cell 0 rfl rfl,st3.cell 0 rfl rfl,trivial⟩,s_A λw4 e4=> ?_⟩;have st4:=st3.keep e4;have e:newE n c x=zLe x:=by unfold newE; rw [if_neg h,if_neg O_]
 rw [e] at k1 k0;refine⟨λh3=> ?_,λh3=> ?_⟩
 ·have h3:zLe x≠0:=by simpa using h3
  have e1:zLe x=1:=by
   unfold zLe at h3 ⊢;split
   ·rename_i hh; rw [if_pos hh] at h3; exact absurd rfl h3
   ·rfl
  rw [e1] at k1;exact k1 D_ w4 st4.drop1.drop1
 have h3:zLe x=0:=by simpa using h3
 refine⟨c,⟨st4.cell 1 rfl rfl,st4.cell 1 rfl rfl,st4.cell 1 rfl rfl,st4.cell 1 rfl rfl,trivial⟩,x,⟨st4.cell 0 rfl rfl,st4.cell 0 rfl rfl,st4.cell 0 rfl rfl,trivial⟩,λb3 w5 hb3 hw5=> ?_⟩;have st5:St w0 ((b3,tkV n c x false 0 ⟨none,0,0⟩ 0 ⟨none,0,0⟩)::(b2,zck x)::(b1,cfgV c)::fr) w5:=st4.alloc hb3 hw5;exact k0 h3 b3 [(b3,tkV n c x false 0 ⟨none,0,0⟩ 0 ⟨none,0,0⟩)] w5 ⟨b3,rfl,⟨none,0,0⟩,⟨none,0,0⟩,[],[],zDm (e.trans h3),rfl,zkj.nil,zlj.nil⟩ (st5.wq [(b2,zck x),(b1,cfgV c)])
theorem s_f {R:Bool->WP} (o:TkO t m cs) (st:St w0 (cs++fr) w) (k:R m.isSome w):C_p t w R:=by
 apply S_gc;unfold F_qf;cases m with
 | none =>
  rcases o with ⟨rfl,rfl⟩ | ⟨b,rfl,rfl⟩
  ·exact⟨N_,λ_=>k⟩
  ·exact⟨λ_=>⟨rfl,0,st.cell 0 rfl rfl,k⟩,N_⟩
 | some m =>
  obtain⟨b,rfl,rs,ps,rc,pc,ok,rfl,hr,hp⟩:=o;refine⟨λ_=>⟨rfl,m.number,st.cell 0 rfl rfl,?_⟩,N_⟩;have:=ok.num;dsimp only; rw [show(m.number != 0)=true from bne_iff_ne.2 O_];exact k
theorem s_Oc {R:Int->WP} (o:TkO t m cs) (st:St w0 (cs++fr) w) (k:∀ cs' d w',TkO t (zgh m).2 cs'->St w0 (cs'++(d++fr)) w'->R (zgh m).1 w'):C_Dc t w R:=by
 apply S_Kc;unfold F_Rf;refine s_f o st ⟨λh=> ?_,λh=> ?_⟩
 ·cases m with
  | none=>exact k cs [] w o st
  | some m=>cases h
 cases m with
 | none=>cases h
 | some m =>
  obtain⟨b,rfl,rs,ps,rc,pc,ok,rfl,hr,hp⟩:=o;have hl:=hr.len;refine⟨rfl,rs,st.cell 0 rfl rfl,λh1=> ?_,λh1=>⟨rfl,rs,st.cell 0 rfl rfl,?_⟩⟩
  ·have h1:rs.len=0:=by have:((rs.len:Nat):Int)=0:=by simpa using h1
                        omega
   have hnil:m.rest=[]:=aX O_;have e:zgh (some m)=(9,some m):=by unfold zgh; simp only [hnil]
   rw [e] at k;exact k _ [] w ⟨b,rfl,rs,ps,rc,pc,ok,rfl,hr,hp⟩ st
  have h1:rs.len≠0:=by have:¬ ((rs.len:Nat):Int)=0:=by simpa using h1
                       omega
  cases hq:m.rest with
  | nil=>rw [hq] at hl; exact absurd hl h1
  | cons q r =>
   have e:zgh (some m)=(0,some { m with rest:=r,out:=m.out+1 }):=by unfold zgh; simp only [hq]
   rw [e] at k;have hfew:=ok.few;obtain⟨sls,tb,pb,rfl,row,parts⟩:=hr;have hcp:=row.cap_le;rw [hq] at parts row hl;have hsl:=parts.len;cases sls with
   | nil=>simp at hsl
   | cons s sls =>
    obtain⟨c,pb',rfl,hi,parts⟩:=parts.cons;have cut:=row.cut (lo:=1) (hi:=((rs.len:Nat):Int)) (mx:=((rs.cap:Nat):Int)) O_ O_ O_ O_ O_
    have e2:(((((q::r).zip (s::sls)).flatMap λp=>qV p.1 p.2).drop ((1:Int).toNat*10)).take (((((rs.len:Nat):Int)).toNat - (1:Int).toNat)*10))=(r.zip sls).flatMap λp=>qV p.1 p.2:=by
     rw [gP,aY,tN,show(1:Int).toNat=1 from rfl,eD (by rfl),bF];rw [zoc (sz:=10) (λ_=>rfl) parts.len];rw [aV] at hl;rw [hl]; omega
    rw [e2] at cut;refine⟨⟨O_,O_,O_,O_⟩,λs' hs'=>⟨rfl,st.writable 0,λw2 hw2=> ?_⟩⟩;rw [<-hs'] at cut;have st2:=st.put0 hw2;refine⟨rfl,(m.out:Int),st2.cell 0 rfl rfl,st2.writable 0,λw3 hw3=> ?_⟩;have wo:i64.wrap ((m.out:Int)+1)=((m.out+1:Nat):Int):=W_;rw [wo] at hw3;have st3:St w0 ((b,tkV m.number m.cfg m.call m.begun m.mark s' ((m.out+1:Nat):Int) ps)::(((tb++(c++pb'))++pc)++fr)) w3:=st2.put0 hw3;refine k ((b,tkV m.number m.cfg m.call m.begun m.mark s' ((m.out+1:Nat):Int) ps)::((tb++pb')++pc)) c w3 ⟨b,rfl,s',ps,tb++pb',pc,ok.sent hq,rfl,⟨sls,tb,pb',rfl,cut,parts⟩,hp⟩ (st3.pq)
theorem s_J {R:Bool->WP} (o:TkO t m cs) (st:St w0 (cs++fr) w) (k:∀ w',St w0 (cs++fr) w'->R (allM m) w'):C_qb t w R:=by
 apply S_Vc;unfold F_ag;intro w1 hw1;have st1:=st.drew hw1;refine s_f o st1 ⟨λh=> ?_,λh=> ?_⟩
 rotate_left
 ·cases m with
  | none=>exact k w1 st1
  | some m=>cases h
 cases m with
 | none=>cases h
 | some m =>
  obtain⟨b,rfl,rs,ps,rc,pc,ok,rfl,hr,hp⟩:=o;have hl:=hr.len;have hl2:=hp.len;have k:=k w1 st1;unfold allM at k;simp only at k;refine⟨rfl,m.begun,st1.cell 0 rfl rfl,λh1=>⟨rfl,rs,st1.cell 0 rfl rfl,λh2=>⟨rfl,ps,st1.cell 0 rfl rfl,rfl,(m.out:Int),st1.cell 0 rfl rfl,?_⟩,λh2=> ?_⟩,λh1=> ?_⟩
  ·have h2:rs.len=0:=by have:((rs.len:Nat):Int)=0:=by simpa using h2
                        omega
   have hnil:m.rest=[]:=aX O_;rw [h1,hnil] at k
   have e:(((ps.len:Nat):Int)==(m.out:Int))=(true&&(List.isEmpty ([]:List (Int×Cq))&&decide (m.reps.length=m.out))):=by
    simp only [List.isEmpty_nil,dS];by_cases hh:m.reps.length=m.out
    ·rw [decide_eq_true hh]; exact beq_iff_eq.2 O_
    ·rw [decide_eq_false hh]; exact beq_eq_false_iff_ne.2 O_
   dsimp only; rw [e]; exact k
  ·have h2:rs.len≠0:=by have:¬ ((rs.len:Nat):Int)=0:=by simpa using h2
                        omega
   cases hq:m.rest with
   | nil=>rw [hq] at hl; exact absurd hl h2
   | cons q r=>rw [h1,hq] at k; exact k
  ·rw [h1] at k; exact k
end
theorem z5l:∀ {bs:List Int} {t:Int} {p:Nat} {x:Int},bs[p]? =some x->(upL t (bs.drop p)↔t<x/\x<=65536/\upL x (bs.drop (p+1))):=by
 intro bs t p x h;obtain⟨hl,rfl⟩:=gSo h;rw [bO hl];exact Iff.rfl
theorem atIv {w:World} {s:Slc} {xs:List Int} {p:Nat} (hs:zj w s 1 (xs.map Vi)) (hp:p<s.len):IsAt s.ptr/\∃ x,xs[p]? =some x/\w.cell? ⟨pblk s.ptr,poff s.ptr+p,none⟩=some (Vi x):=by
 obtain⟨a,c⟩:=zsb.at_ hs O_ D_;have hl:=hs.len_eq;have hx:xs[p]? =some (xs[p]'O_):=aA O_;exact⟨a,_,hx,zy.1 c p _ (by rw [aF,hx]; rfl)⟩
section
variable {w0:Base} {w:World} {fr cs:List zb} {t:OA} {m:Option TkM}
theorem s_jc {l_:Slc} {than:Int} {bs:List Int} {R:Bool->WP} (hb:zj w l_ 1 (bs.map Vi)) (hl:l_.len<=140737488351232) (k:R (decide (upL than bs)) w):C_Ad l_ than w R:=by
 apply S_xd;have hbl:=hb.len_eq;refine⟨λt i w'=>∃ p:Nat,i=(p:Int)/\p<=l_.len/\(upL than bs↔upL t (bs.drop p))/\w'=w,λ_ i _=>l_.len - i.toNat,⟨0,rfl,O_,by rw [fC],rfl⟩,?_⟩;rintro t i w' ⟨p,rfl,hp,hu,rfl⟩;unfold F_Dg;refine⟨λhi=> ?_,λhi=> ?_⟩
 ·have hi:=dT hi;obtain⟨a,x,hx,hc⟩:=atIv hb (p:=p) O_;have ha:=z5l (t:=t) hx;have wp:i64.wrap ((p:Int)+1)=((p+1:Nat):Int):=W_;refine⟨a,O_,hi,x,by rw [tN]; exact hc,λh=> ?_,λh=> ?_⟩
  ·simp only [cE,decide_eq_true_eq] at h;rw [decide_eq_false (λhh=>by have:=ha.1 (hu.1 hh); omega)] at k;exact k
  ·simp only [cD,decide_eq_false_iff_not] at h;rw [wp];exact⟨⟨p+1,rfl,O_,hu.trans (ha.trans ⟨λh=>h.2.2,λh=>⟨O_,O_,h⟩⟩),rfl⟩,L_⟩
 ·have hi:=dF hi;rw [eP O_] at hu;rw [decide_eq_true (hu.2 trivial)] at k;exact k
theorem s_kc {m:TkM} {yv:Value} {tb b:Nat} {R:WP} (K:Nat->WP) (ok:m.Ok)
    (hc:∀ p w',K p w'->w'.cell? ⟨tb,0,none⟩=some (Vp (Z0 b))/\w'.cell? ⟨b,5,none⟩=some (Vb m.call.Kind)/\zf w' b 1 (cfgV m.cfg)/\w'.cell? ⟨b,6,none⟩=some (Vt m.call.Key))
    (he:∀ p w' w'',K p w'->Ext w' w''->K p w'')
    (hy:∀ p k w',(zBb m)[p]? =some k->K p w'->zWb (P:=Tryz.prog) yv #[Vi k] w' (λe W=>∃ bb,e=Ending.returned (Vo bb)/\bb=true/\K (p+1) W))
    (h0:K 0 w) (hend:∀ w',K (zBb m).length w'->R w'):C_Wc yv (Z0 tb) w R:=by
 apply S_nb;unfold F_6c;obtain⟨c1,c2,c3,c4⟩:=hc 0 w h0;refine⟨rfl,_,c1,rfl,m.call.Kind,c2,λh1=> ?_,λh1=> ?_⟩
 ·have h1:m.call.Kind=1:=by simpa using h1
  have hs:zBb m=[(zkb m.cfg m.call.Key).1]:=by unfold zBb; rw [if_pos h1]
  rw [hs] at hy hend;intro w1 hw1;have k1:=he 0 w w1 h0 (Qt.ext hw1);obtain⟨c1,c2,c3,c4⟩:=hc 0 w1 k1;refine⟨rfl,_,c1,rfl,m.cfg,c3,_,c1,rfl,m.call.Key,c4,s_B (by have:=ok.key.1; omega) λw2 e2=> ?_⟩;refine zWb.mono (hy 0 _ w2 rfl (he 0 w1 w2 k1 e2)) ?_;rintro e W ⟨bb,rfl,_,hk⟩;exact⟨bb,rfl,hend W hk⟩
 ·have h1:m.call.Kind≠1:=by simpa using h1
  have hs:zBb m=(List.range m.cfg.Shards.toNat).map λ(i:Nat)=>((i:Nat):Int):=by unfold zBb; rw [if_neg h1]
  have hsh:=ok.cfg.2.1;refine⟨rfl,_,c1,rfl,m.cfg.Shards,c3.2.1,λi w'=>∃ p:Nat,i=(p:Int)/\p<=m.cfg.Shards.toNat/\K p w',λi _=>m.cfg.Shards.toNat - i.toNat,⟨0,rfl,O_,h0⟩,?_⟩;rintro i w1 ⟨p,rfl,hp,hk⟩;unfold F_hb;refine⟨λhi=> ?_,λhi=> ?_⟩
  ·have hi:=dT hi;have wp:i64.wrap ((p:Int)+1)=((p+1:Nat):Int):=W_;refine zWb.mono (hy p (p:Int) w1 (by rw [hs,aF,List.getElem?_range O_]; rfl) hk) ?_;rintro e W ⟨bb,rfl,hbb,hk⟩;refine⟨bb,rfl,λh=>(by rw [hbb] at h; simp at h),λ_=> ?_⟩;rw [wp];exact⟨⟨p+1,rfl,O_,hk⟩,L_⟩
  ·have hi:=dF hi;refine hend w1 ?_;rw [hs,lM,gR,show m.cfg.Shards.toNat=p from by omega];exact hk
set_option maxHeartbeats 1000000 in
theorem s_lc {mark least:Int} {beyond:Slc} {bey:List Int} {R:Int->WP} (o:TkO t m cs) (st:St w0 (cs++fr) w) (hb:∀ B l w',B.w=w0.w->St B (l++fr) w'->zj w' beyond 1 (bey.map Vi)) (hl:beyond.len*8<=140737488351232)
    (k:∀ cs' d w',TkO t (zzd m mark least bey).2 cs'->St w0 (cs'++(d++fr)) w'->R (zzd m mark least bey).1 w'):C_jc t mark least beyond w R:=by
 apply S_hc;unfold F_Qd;intro ba w1 hba hw1 bm w2 hbm hw2 bl w3 hbl hw3 bb w4 hbb hw4;have st4:St w0 ((bb,[Vs beyond])::(bl,[Vi least])::(bm,[Vi mark])::(ba,[Vp t])::(cs++fr)) w4:=(((st.alloc (cs:=[Vp t]) hba hw1).alloc (cs:=[Vi mark]) hbm hw2).alloc (cs:=[Vi least]) hbl hw3).alloc (cs:=[Vs beyond]) hbb hw4;have st4:St w0 (cs++((bb,[Vs beyond])::(bl,[Vi least])::(bm,[Vi mark])::(ba,[Vp t])::fr)) w4:=st4.pq
 have out:∀ {e:Int} {w':World},zzd m mark least bey=(e,m)->St w0 (cs++((bb,[Vs beyond])::(bl,[Vi least])::(bm,[Vi mark])::(ba,[Vp t])::fr)) w'->R e w':=λ{e w'} he st'=>by
  rw [he] at k;exact k cs [(bb,[Vs beyond]),(bl,[Vi least]),(bm,[Vi mark]),(ba,[Vp t])] w' o st'
 have st4c:St w0 ((ba,[Vp t])::(bb,[Vs beyond])::(bl,[Vi least])::(bm,[Vi mark])::(cs++fr)) w4:=st4.pq;refine⟨t,st4c.cell 0 rfl rfl,s_f o st4 ⟨λh=> ?_,λh=>⟨t,st4c.cell 0 rfl rfl,?_⟩⟩⟩
 ·cases m with
  | none=>exact out rfl st4
  | some m=>cases h
 cases m with
 | none=>cases h
 | some m =>
  obtain⟨b,rfl,rs,ps,rc,pc,ok,rfl,hr,hp⟩:=id o;refine⟨rfl,m.begun,st4.cell 0 rfl rfl,λh1=> ?_,λh1=> ?_⟩
  ·exact out (by unfold zzd; simp only; rw [if_pos h1]) st4
  have eb:zzd (some m) mark least bey=if mayB mark least bey then(0,some { m with begun:=true,mark:=mark,rest:=z0b m mark least bey }) else(1,some m):=by
   unfold zzd; simp only; rw [if_neg (by rw [h1]; decide)]
  have bad:¬ mayB mark least bey->∀ {v:Bool},v=true->F_j R ba bm bl bb v w4:=λh {v} hv=>by
   unfold F_j;rw [hv];exact⟨λ_=>out (by rw [eb,if_neg h]) st4,N_⟩
  refine⟨mark,st4c.cell 3 rfl rfl,λh2=> ?_,λh2=>⟨mark,st4c.cell 3 rfl rfl,λh3=> ?_,λh3=>⟨least,st4c.cell 2 rfl rfl,λh4=> ?_,λh4=>⟨least,st4c.cell 2 rfl rfl,mark,st4c.cell 3 rfl rfl,λh5=> ?_,λh5=>⟨beyond,st4c.cell 1 rfl rfl,mark,st4c.cell 3 rfl rfl,?_⟩⟩⟩⟩⟩
  ·exact bad (λh=>by have:=dT h2; have:=h.1; omega) rfl
  ·exact bad (λh=>by have:=dT h3; have:=h.2.1; omega) rfl
  ·exact bad (λh=>by have:=dT h4; have:=h.2.2.1; omega) rfl
  ·exact bad (λh=>by have:=dT h5; have:=h.2.2.2.1; omega) rfl
  have h2:=dF h2;have h3:=dF h3;have h4:=dF h4;have h5:=dF h5;have wm:i64.wrap (mark+1)=mark+1:=i64_in _ O_ O_;dsimp only; rw [wm];have hsrc:∀ {B:Base} {l:List zb} {w':World},B.w=w0.w->St B (l++fr) w'->zj w' beyond 1 (bey.map Vi):=λhB st'=>hb _ _ _ hB st';refine s_jc (hsrc (B:=w0) (l:=((b,tkV m.number m.cfg m.call m.begun m.mark rs (m.out:Int) ps)::(rc++pc))++[(bb,[Vs beyond]),(bl,[Vi least]),(bm,[Vi mark]),(ba,[Vp (Z0 b)])]) rfl (st4.pq)) O_ ?_;by_cases hup:upL (mark+1) bey
  rotate_left
  ·exact bad (λh=>hup h.2.2.2.2) (by rw [decide_eq_false hup]; rfl)
  have hmay:mayB mark least bey:=⟨O_,O_,O_,O_,hup⟩
  rw [eb,if_pos hmay] at k;rw [decide_eq_true hup];obtain⟨hrest,hout⟩:=ok.idle h1;unfold F_j;refine⟨λh=>by simp at h,λ_ w7 hw7=> ?_⟩;have st7:St w0 ((b,tkV m.number m.cfg m.call m.begun m.mark rs (m.out:Int) ps)::(ba,[Vp (Z0 b)])::(bm,[Vi mark])::(bl,[Vi least])::(bb,[Vs beyond])::(rc++(pc++fr))) w7:=(st4.drew hw7).pq;refine⟨_,st7.cell 1 rfl rfl,_,st7.cell 1 rfl rfl,mark,st7.cell 2 rfl rfl,rfl,st7.writable 0,λw8 hw8=> ?_⟩;have st8:St w0 ((b,tkV m.number m.cfg m.call true m.mark rs (m.out:Int) ps)::(ba,[Vp (Z0 b)])::(bm,[Vi mark])::(bl,[Vi least])::(bb,[Vs beyond])::(rc++(pc++fr))) w8:=st7.put0 hw8;refine⟨st8.cell 2 rfl rfl,st8.cell 1 rfl rfl,rfl,st8.writable 0,λw9 hw9=> ?_⟩;have st9:St w0 ((b,tkV m.number m.cfg m.call true mark rs (m.out:Int) ps)::(ba,[Vp (Z0 b)])::(bm,[Vi mark])::(bl,[Vi least])::(bb,[Vs beyond])::(rc++(pc++fr))) w9:=st8.put0 hw9;refine⟨_,st9.cell 1 rfl rfl,?_⟩;apply S_Vb;unfold F_df;intro bs w10 hbs hw10 rec D w11 hD hw11 hB;have st10:=st9.alloc (cs:=[Vp (Z0 b)]) hbs hw10;have hsz:(w10.alloc (.deferred (some []))).heap.size=D+1:=by rw [hD]; exact World.size_alloc ..
  have st11:=(st10.newObj hD (w':=w10.alloc (.deferred (some []))) rfl (λ_ _ _ h=>by cases h)).newObj (b:=D+1) (o:= .loop (rec .ready none)) hsz.symm hw11 (λ_ _ _ h=>by cases h);let Bs:LoopState->Option Code->Base:=λsa pe=>⟨w0.w,(D+1,.loop (rec sa pe))::(D,.deferred (some []))::w0.mp⟩
  let K:Nat->WP:=λp W=>∃ rs sls tb pb d,RowC 10 rs ((((z0b m mark least bey).take p).zip sls).flatMap λp=>qV p.1 p.2) tb/\zzb InQ ((z0b m mark least bey).take p) sls pb/\rs.len=p /\
   St (Bs .ready none) ((b,tkV m.number m.cfg m.call true mark rs (m.out:Int) ps)::(bs,[Vp (Z0 b)])::(ba,[Vp (Z0 b)])::(bm,[Vi mark])::(bl,[Vi least])::(bb,[Vs beyond])::(tb++(pb++(pc++(d++fr))))) W
  refine zw.mk (all:=#[zBc (D+1),Vp (Z0 bs)]) K_ rfl ?_;refine Calls.mono (s_kc (m:=m) (yv:=zBc (D+1)) (tb:=bs) (b:=b) (R:=λw'=>K (zBb m).length w') K ok ?_ ?_ ?_ ?_ (λw' h=>h)) ?_
  ·rintro p w' ⟨rs,sls,tb,pb,d,_,_,_,st'⟩;exact⟨st'.cell 1 rfl rfl,st'.cell 0 rfl rfl,⟨st'.cell 0 rfl rfl,st'.cell 0 rfl rfl,st'.cell 0 rfl rfl,st'.cell 0 rfl rfl,trivial⟩,st'.cell 0 rfl rfl⟩
  ·rintro p w' w'' ⟨rs,sls,tb,pb,d,h1,h2,h3,st'⟩ e;exact⟨rs,sls,tb,pb,d,h1,h2,h3,st'.keep e⟩
  ·rintro p q w' hq ⟨rs,sls,tb,pb,d,row,parts,hrl,st'⟩;have hpl:=(gSo hq).1;have hsl16:=zhf ok;have hqr:(z0b m mark least bey)[p]? =some (q,reqM m mark least bey):=by unfold z0b; rw [aF,hq]; rfl
   refine zWb.mono (hB q w' (λbb' W=>bb'=true/\K (p+1) W) (st'.objAt 0 rfl) ?_) (λe W h=>h);intro w13 hw13;have st13:=St.turn (a:=[]) st' hw13 (o':= .loop (rec .busy none)) (λ_ _ _ h=>by cases h);unfold F_bc;intro w14 hw14;have st14:=st13.drew hw14;refine⟨_,st14.cell 2 rfl rfl,rfl,m.number,st14.cell 0 rfl rfl,mark,st14.cell 3 rfl rfl,λb4 w15 hb4 hw15=> ?_⟩;have st15:=st14.alloc (cs:=zRq) hb4 hw15;refine⟨st15.cell 4 rfl rfl,st15.cell 1 rfl rfl,st15.cell 3 rfl rfl,st15.writable 0 rfl D_,λw16 hw16=> ?_⟩
   have fin:∀ {s:Slc} {rb:List zb} {w17:World},RowC 1 s ((reqM m mark least bey).bey.map Vi) rb ->
       St (Bs .busy none) ((b4,rqV (reqM m mark least bey) s)::(b,tkV m.number m.cfg m.call true mark rs (m.out:Int) ps)::(bs,[Vp (Z0 b)])::(ba,[Vp (Z0 b)])::(bm,[Vi mark])::(bl,[Vi least])::(bb,[Vs beyond])::(rb++(tb++(pb++(pc++(d++fr)))))) w17 ->
       F_m ba D rec (λbb' W=>bb'=true/\K (p+1) W) q b4 w17:=by
    intro s rb w17 rrow st17;unfold F_m;intro w18 hw18;have st18:=st17.drew hw18;refine⟨_,st18.cell 3 rfl rfl,_,st18.cell 3 rfl rfl,rfl,rs,st18.cell 1 rfl rfl,rqT (reqM m mark least bey) s,?_,λb5 w19 hb5 hw19=> ?_⟩
    ·exact(st18.get 0 rfl).all
    have st19:=st18.alloc (cs:=qV (q,reqM m mark least bey) s) hb5 hw19;refine⟨st19.cell 2 rfl rfl,st19.cell 4 rfl rfl,st19.cell 4 rfl rfl,qV (q,reqM m mark least bey) s,zJ hb5 hw19 rfl,?_⟩;have st19:St (Bs .busy none) (tb++((b,tkV m.number m.cfg m.call true mark rs (m.out:Int) ps)::(bs,[Vp (Z0 b)])::(ba,[Vp (Z0 b)])::(bm,[Vi mark])::(bl,[Vi least])::(bb,[Vs beyond])::(rb++(pb++(pc++(d++fr)))))) w19:=st19.wq [(b5,qV (q,reqM m mark least bey) s),(b4,rqV (reqM m mark least bey) s)];refine row.append st19 rfl rfl rfl O_ λrs' tb' w20 row' st20 hl20=> ?_;have st20:St (Bs .busy none) ((b,tkV m.number m.cfg m.call true mark rs (m.out:Int) ps)::(bs,[Vp (Z0 b)])::(ba,[Vp (Z0 b)])::(bm,[Vi mark])::(bl,[Vi least])::(bb,[Vs beyond])::(tb'++(rb++(pb++(pc++(d++fr)))))) w20:=st20.pq;refine⟨st20.cell 2 rfl rfl,rfl,st20.writable 0,λw21 hw21=> ?_⟩;have st21:St (Bs .busy none) ((b,tkV m.number m.cfg m.call true mark rs' (m.out:Int) ps)::(bs,[Vp (Z0 b)])::(ba,[Vp (Z0 b)])::(bm,[Vi mark])::(bl,[Vi least])::(bb,[Vs beyond])::(tb'++(rb++(pb++(pc++(d++fr)))))) w21:=st20.put0 hw21;refine⟨st21.objAt 0 rfl,λw22 hw22=>⟨rfl,?_⟩⟩;have st22:=St.turn (a:=[]) st21 hw22 (o':= .loop (rec .ready none)) (λ_ _ _ h=>by cases h);have hpt:=parts.len;refine⟨rs',sls++[s],tb',pb++rb,d,?_,?_,O_,st22.pq⟩
    ·rw [bL,hqr,show(some (q,reqM m mark least bey)).toList=[(q,reqM m mark least bey)] from rfl,zYe hpt];exact row'
    ·rw [bL,hqr];exact parts.snoc rrow
   have st16:St (Bs .busy none) ((b4,[Vb 0,Vi m.number,Vi mark,Vt noStr,Vt noStr,Vo false,Vt noStr,Vt noStr,Vs ⟨none,0,0⟩])::(b,tkV m.number m.cfg m.call true mark rs (m.out:Int) ps)::(bs,[Vp (Z0 b)])::(ba,[Vp (Z0 b)])::(bm,[Vi mark])::(bl,[Vi least])::(bb,[Vs beyond])::(tb++(pb++(pc++(d++fr))))) w16:=st15.put0 hw16;refine⟨_,st16.cell 3 rfl rfl,rfl,m.call.Kind,st16.cell 1 rfl rfl,λk1=> ?_,λk1=>⟨λk2=> ?_,λk2=>⟨λk3=> ?_,λk3=>⟨λk4=> ?_,λk4=> ?_⟩⟩⟩⟩
   ·have k1:m.call.Kind=1:=by simpa using k1
    intro w23 hw23;have st23:=st16.drew hw23;refine⟨_,st23.cell 3 rfl rfl,rfl,m.call.Key,st23.cell 1 rfl rfl,st23.writable 0,λw24 hw24=> ?_⟩;have st24:=st23.put0 hw24;refine⟨st24.cell 1 rfl rfl,st24.cell 3 rfl rfl,st24.writable 0,λw25 hw25=> ?_⟩;have e:reqM m mark least bey=⟨2,m.number,mark,m.call.Key,noStr,[]⟩:=by unfold reqM; rw [if_pos k1]
    refine fin (s:=⟨none,0,0⟩) (rb:=[]) (by rw [e]; exact RowC.nil) ?_;rw [e];exact st24.put0 hw25
   ·have k1:m.call.Kind≠1:=by simpa using k1
    have k2:m.call.Kind=2:=by simpa using k2
    intro w23 hw23;have st23:=st16.drew hw23;refine⟨_,st23.cell 3 rfl rfl,rfl,m.call.Key,st23.cell 1 rfl rfl,_,st23.cell 3 rfl rfl,rfl,m.call.End,st23.cell 1 rfl rfl,st23.writable 0,λw24 hw24=> ?_⟩;have st24:=st23.put0 hw24;refine⟨st24.cell 1 rfl rfl,st24.cell 3 rfl rfl,st24.cell 1 rfl rfl,st24.cell 3 rfl rfl,st24.writable 0,λw25 hw25=> ?_⟩;have st25:=st24.put0 hw25;refine⟨st25.cell 1 rfl rfl,st25.cell 3 rfl rfl,st25.writable 0,λw26 hw26=> ?_⟩;have e:reqM m mark least bey=⟨3,m.number,mark,m.call.Key,m.call.End,[]⟩:=by unfold reqM; rw [if_neg k1,if_pos k2]
    refine fin (s:=⟨none,0,0⟩) (rb:=[]) (by rw [e]; exact RowC.nil) ?_;rw [e];exact st25.put0 hw26
   ·have k1:m.call.Kind≠1:=by simpa using k1
    have k2:m.call.Kind≠2:=by simpa using k2
    have k3:m.call.Kind=3:=by simpa using k3
    intro w23 hw23;have st23:=st16.drew hw23;refine⟨least,st23.cell 5 rfl rfl,st23.writable 0,λw24 hw24=> ?_⟩;have st24:=st23.put0 hw24;refine⟨st24.cell 5 rfl rfl,st24.writable 0,λw25 hw25=> ?_⟩;have e:reqM m mark least bey=⟨4,m.number,least,noStr,noStr,[]⟩:=by unfold reqM; rw [if_neg k1,if_neg k2,if_pos k3]
    refine fin (s:=⟨none,0,0⟩) (rb:=[]) (by rw [e]; exact RowC.nil) ?_;rw [e];exact st24.put0 hw25
   ·have k1:m.call.Kind≠1:=by simpa using k1
    have k2:m.call.Kind≠2:=by simpa using k2
    have k3:m.call.Kind≠3:=by simpa using k3
    have e:reqM m mark least bey=⟨5,m.number,mark,noStr,noStr,bey⟩:=by unfold reqM; rw [if_neg k1,if_neg k2,if_neg k3]
    refine⟨beyond,st16.cell 6 rfl rfl,?_⟩
    have hs16:zj w16 beyond 1 (bey.map Vi):=by
     generalize hX:(b4,[Vb 0,Vi m.number,Vi mark,Vt noStr,Vt noStr,Vo false,Vt noStr,Vt noStr,Vs ⟨none,0,0⟩])::(b,tkV m.number m.cfg m.call true mark rs (m.out:Int) ps)::(bs,[Vp (Z0 b)])::(ba,[Vp (Z0 b)])::(bm,[Vi mark])::(bl,[Vi least])::(bb,[Vs beyond])::(tb++(pb++(pc++d)))=X;refine hsrc (B:=Bs .busy none) (l:=X) rfl ?_;rw [<-hX];exact st16.pq
    refine s_w hs16 hl λs rb w33 rrow st33 _=> ?_;have st33:=st16.more st33;have st33:St (Bs .busy none) ((b4,[Vb 0,Vi m.number,Vi mark,Vt noStr,Vt noStr,Vo false,Vt noStr,Vt noStr,Vs ⟨none,0,0⟩])::(b,tkV m.number m.cfg m.call true mark rs (m.out:Int) ps)::(bs,[Vp (Z0 b)])::(ba,[Vp (Z0 b)])::(bm,[Vi mark])::(bl,[Vi least])::(bb,[Vs beyond])::(rb++(tb++(pb++(pc++(d++fr)))))) w33:=st33.pq;refine⟨st33.writable 0,λw34 hw34=> ?_⟩;have st34:=st33.put0 hw34;refine⟨st34.writable 0,λw35 hw35=> ?_⟩;refine fin (s:=s) (rb:=rb) (by rw [e]; exact rrow) ?_;rw [e];exact st34.put0 hw35
   ·have k1:m.call.Kind≠1:=by simpa using k1
    have k2:m.call.Kind≠2:=by simpa using k2
    have k3:m.call.Kind≠3:=by simpa using k3
    have k4:m.call.Kind≠4:=by simpa using k4
    have:=ok.kind;omega
  ·obtain⟨sls0,tb0,pb0,rfl,row0,parts0⟩:=hr;rw [hrest] at row0 parts0;refine⟨rs,[],tb0,pb0,[],?_,?_,?_,?_⟩
   ·simpa using row0
   ·cases sls0 with
    | nil=>rw [gO]; exact parts0
    | cons x y=>exact parts0.elim
   ·have:=row0.len;simp at this; omega
   ·exact st11.pq
  ·rintro e w' ⟨rfl,rs',sls,tb,pb,d,row,parts,hrl,st'⟩;refine⟨⟨_,rfl⟩,.ready,none,st'.objAt 0 rfl,by simp,λw39 hw39=>⟨rfl,?_⟩⟩;have st39:=St.turn (a:=[]) st' hw39 (o':= .loop (rec .exhausted none)) (λ_ _ _ h=>by cases h);unfold F_cc;refine⟨st39.objAt 1 rfl,λw40 hw40=> ?_⟩;have st40:=St.turn (a:=[(D+1,.loop (rec .exhausted none))]) (b:=w0.mp) (W:=w0.w) (o:= .deferred (some [])) st39 hw40 (o':= .deferred none) (λ_ _ _ h=>by cases h);have st41:=St.forget (a:=[(D+1,.loop (rec .exhausted none)),(D,.deferred none)]) (b:=w0.mp) (W:=w0.w) st40;have hrl2:(z0b m mark least bey).length=(zBb m).length:=by unfold z0b; rw [lM]
   rw [<-hrl2,cU] at row parts;refine k ((b,tkV m.number m.cfg m.call true mark rs' (m.out:Int) ps)::((tb++pb)++pc)) ((bs,[Vp (Z0 b)])::(ba,[Vp (Z0 b)])::(bm,[Vi mark])::(bl,[Vi least])::(bb,[Vs beyond])::d) w40 ⟨b,rfl,rs',ps,tb++pb,pc,ok.begin_ h1 hmay,rfl,⟨sls,tb,pb,rfl,row,parts⟩,hp⟩ ?_;exact St.perm st41 (za λf_=>by simp <;> omega)
end
def zeroQ:Cq:=⟨0,0,0,noStr,noStr,[]⟩
def zXc (m:Option TkM):Int×Cq×Bool :=
 match m with
 | none=>(0,zeroQ,false)
 | some m=>match m.rest with
  | []=>(0,zeroQ,false)
  | q::_=>(q.1,q.2,true)
section
variable {w0:Base} {w:World} {fr cs:List zb} {t:OA} {m:Option TkM}
theorem s_cb {R:Int->T_d->Bool->WP} (o:TkO t m cs) (st:St w0 (cs++fr) w)
    (k:∀ s rb w',RowC 1 s ((zXc m).2.1.bey.map Vi) rb->St w0 (rb++(cs++fr)) w'->R (zXc m).1 (rqT (zXc m).2.1 s) (zXc m).2.2 w'):C_Sb t w R:=by
 apply S_Jc;unfold F_Lf;intro b1 w1 hb1 hw1;have st1:St w0 ((b1,zRq)::(cs++fr)) w1:=st.alloc hb1 hw1;have st1b:St w0 (cs++((b1,zRq)::fr)) w1:=st1.pq
 have no:zXc m=(0,zeroQ,false)->∀ {v:Bool},v=true->F_jb t R b1 v w1:=λhe {v} hv=>by
  unfold F_jb;rw [hv];refine⟨λ_=>⟨st1.writable 0 rfl D_,λw3 hw3=> ?_⟩,N_⟩;have st3:St w0 ((b1,zRq)::(cs++fr)) w3:=st1.put0 hw3;rw [he] at k;exact⟨rqT zeroQ ⟨none,0,0⟩,(st3.get 0 rfl).all,k ⟨none,0,0⟩ [] w3 RowC.nil st3.drop1⟩
 refine s_f o st1b ⟨λh=> ?_,λh=> ?_⟩
 ·cases m with
  | none=>exact no rfl rfl
  | some m=>cases h
 cases m with
 | none=>cases h
 | some m =>
  obtain⟨b,rfl,rs,ps,rc,pc,ok,rfl,hr,hp⟩:=id o;have hl:=hr.len;refine⟨rfl,rs,st1b.cell 0 rfl rfl,?_⟩;cases hq:m.rest with
  | nil =>
   rw [hq] at hl;refine no (by unfold zXc; simp only [hq]) ?_;have hl:rs.len=0:=hl;rw [hl]; rfl
  | cons q r =>
   rw [hq,aV] at hl;have e:zXc (some m)=(q.1,q.2,true):=by unfold zXc; simp only [hq]
   rw [e] at k;unfold F_jb;refine⟨λh=>absurd h (by rw [beq_iff_eq]; omega),λ_=> ?_⟩;obtain⟨sls,tb,pb,rfl,row,parts⟩:=hr;rw [hq] at row parts;have hsl:=parts.len;cases sls with
   | nil=>simp at hsl
   | cons s sls =>
    obtain⟨c,pb',rfl,hi,parts⟩:=parts.cons;have hi:RowC 1 s (q.2.bey.map Vi) c:=hi
    have at0:∀ {l:List zb} {w':World},St w0 (tb++l) w'->IsAt rs.ptr/\zf w' (pblk rs.ptr) (poff rs.ptr) (qV q s):=λ{l w'} st'=>by
     obtain⟨a,x,hx,hc⟩:=zj.getN (row.src st') (λ_=>rfl) D_ (i:=0) O_ O_;rw [gP] at hx;have hx:(q,s)=x:=by simpa using hx
     subst hx;exact⟨a,by simpa using hc⟩
    have stA:St w0 (tb++((b1,zRq)::(b,tkV m.number m.cfg m.call m.begun m.mark rs (m.out:Int) ps)::(c++(pb'++(pc++fr))))) w1:=st1.pq;obtain⟨a,hc⟩:=at0 stA;refine⟨rfl,rs,stA.perm (l':=(b,tkV m.number m.cfg m.call m.begun m.mark rs (m.out:Int) ps)::(tb++((b1,zRq)::(c++(pb'++(pc++fr)))))) (za λf_=>by simp <;> omega) |>.cell 0 rfl rfl,a,O_,O_,rqT q.2 s,hc.2,λb2 w4 hb2 hw4=> ?_⟩;have st4:=st1.alloc (cs:=zRq) hb2 hw4;refine⟨st4.writable 0 rfl D_,λw5 hw5=> ?_⟩;have st5:St w0 ((b2,rqV q.2 s)::(b1,zRq)::(((b,tkV m.number m.cfg m.call m.begun m.mark rs (m.out:Int) ps)::((tb++(c++pb'))++pc))++fr)) w5:=st4.put0 hw5;refine⟨s,st5.cell 0 rfl rfl,?_⟩;have st5b:St w0 (c++((b2,rqV q.2 s)::(b1,zRq)::(b,tkV m.number m.cfg m.call m.begun m.mark rs (m.out:Int) ps)::(tb++(pb'++(pc++fr))))) w5:=st5.pq;refine s_w (hi.src st5b) ?_ λs' rb w6 r6 st6 _=> ?_
    ·have hbl:=ok.bey q (by rw [hq]; exact aI ..);have hil:=hi.len;rw [lM] at hil; omega
    have st6:=st5.more st6;have st6:St w0 ((b2,rqV q.2 s)::(b1,zRq)::(b,tkV m.number m.cfg m.call m.begun m.mark rs (m.out:Int) ps)::(rb++(tb++(c++(pb'++(pc++fr)))))) w6:=st6.pq;refine⟨st6.writable 0,λw7 hw7 w8 hw8=> ?_⟩;have st7:St w0 ((b2,rqV q.2 s')::(b1,zRq)::(b,tkV m.number m.cfg m.call m.begun m.mark rs (m.out:Int) ps)::(rb++(tb++(c++(pb'++(pc++fr)))))) w7:=st6.put0 hw7;have st8:=st7.drew hw8;have st8b:St w0 (tb++((b2,rqV q.2 s')::(b1,zRq)::(b,tkV m.number m.cfg m.call m.begun m.mark rs (m.out:Int) ps)::(rb++(c++(pb'++(pc++fr)))))) w8:=st8.pq;obtain⟨a2,hc2⟩:=at0 st8b;refine⟨rfl,rs,st8.cell 2 rfl rfl,a2,O_,O_,q.1,hc2.1,rqT q.2 s',(st8.get 0 rfl).all,st8.writable 1 rfl D_,λw9 hw9=> ?_⟩;have st9:St w0 ((b2,rqV q.2 s')::(b1,rqV q.2 s')::(b,tkV m.number m.cfg m.call m.begun m.mark rs (m.out:Int) ps)::(rb++(tb++(c++(pb'++(pc++fr)))))) w9:=st8.put1 hw9;refine⟨rqT q.2 s',(st9.get 1 rfl).all,k s' rb w9 r6 ?_⟩;exact st9.wq [(b2,rqV q.2 s'),(b1,rqV q.2 s')]
end
section
variable {w0:Base} {w:World} {fr cs:List zb} {t:OA} {m:Option TkM} {es:List T_e} {os:List HO}
abbrev hdOf (os:List HO):List Hd:=os.map λo=>(o.1,o.2.1)
abbrev rpOf (r:T_k) (es:List T_e) (os:List HO):Rp:=⟨r.OK,es,hdOf os,r.Count⟩
theorem s_5c {r:T_k} {R:Int->WP} (o:TkO t m cs) (st:St w0 (cs++fr) w) (hs:∀ l w',St w0 (l++fr) w'->z9j w' r es os) (hsm:(rpOf r es os).Small)
    (k:∀ cs' d w',TkO t (gotM m r.To (rpOf r es os)).2 cs'->St w0 (cs'++(d++fr)) w'->R (gotM m r.To (rpOf r es os)).1 w'):C_Zc t r w R:=by
 apply S_Wc;unfold F_fg;intro b1 w1 hb1 hw1;have st1:St w0 ((b1,rspT r)::(cs++fr)) w1:=st.alloc hb1 hw1;have st1b:St w0 (cs++((b1,rspT r)::fr)) w1:=st1.pq;refine s_f o st1b ⟨λh=> ?_,λh=> ?_⟩
 ·cases m with
  | none=>exact k cs [(b1,rspT r)] w1 o st1b
  | some m=>cases h
 cases m with
 | none=>cases h
 | some m =>
  obtain⟨b,rfl,rs,ps,rc,pc,ok,rfl,hr,hp⟩:=id o;have hl2:=hp.len;refine⟨rfl,ps,st1b.cell 0 rfl rfl,rfl,(m.out:Int),st1b.cell 0 rfl rfl,λw3 e3=>⟨λh=> ?_,λh=> ?_⟩⟩
  ·have h:=dT h;have e:gotM (some m) r.To (rpOf r es os)=(9,some m):=by unfold gotM; simp only; rw [if_pos O_]
   rw [e] at k;exact k _ [(b1,rspT r)] w3 o (st1b.keep e3)
  have h:=dF h;have hlt:¬ m.reps.length>=m.out:=O_;have st3:St w0 ((b1,rspT r)::(b,tkV m.number m.cfg m.call m.begun m.mark rs (m.out:Int) ps)::(rc++(pc++fr))) w3:=(st1.keep e3).pq;refine⟨r.To,st3.cell 0 rfl rfl,rfl,m.number,st3.cell 1 rfl rfl,λw4 e4=>⟨λh2=> ?_,λh2=> ?_⟩⟩
  ·have h2:r.To≠m.number:=bne_iff_ne.1 h2;have e:gotM (some m) r.To (rpOf r es os)=(1,some m):=by unfold gotM; simp only; rw [if_neg hlt,if_pos h2]
   rw [e] at k;exact k _ [(b1,rspT r)] w4 o ((st1b.keep e3).keep e4)
  have h2:r.To=m.number:=bne_eq_false_iff_eq.1 h2;have e:gotM (some m) r.To (rpOf r es os)=(0,some { m with reps:=m.reps++[rpOf r es os] }):=by unfold gotM; simp only; rw [if_neg hlt,if_neg O_]
  rw [e] at k;have st4:=st3.keep e4;have src:∀ {l:List zb} {w':World},St w0 (l++fr) w'->z9j w' r es os:=λst'=>hs _ _ st';have st4s:St w0 (((b1,rspT r)::(b,tkV m.number m.cfg m.call m.begun m.mark rs (m.out:Int) ps)::(rc++pc))++fr) w4:=st4.pq;have hln:=(src st4s).hlen;have hel:=(src st4s).elen
  have hhl:r.Held.len=os.length:=by
   have:=(src st4s).hld.src.1;rw [zc (sz:=2) (λ_=>rfl)] at this;omega
  refine⟨r.Held,st4.cell 0 rfl rfl,O_,O_,O_,λb2 w5 hb2 hw5=> ?_⟩;rw [tN] at hw5;have st5:=st4.alloc (cs:=(zp r.Held.len [Vt Be,Ns]).toList) hb2 (by simpa using hw5);have r1:RowC 2 ⟨some ⟨b2,0,none⟩,0,r.Held.len⟩ [] [(b2,(zp r.Held.len [Vt Be,Ns]).toList)]:= .inr ⟨b2,[],(zp r.Held.len [Vt Be,Ns]).toList,[],rfl,by simp,rfl,by simp [zp,eL],by show 0<=_; omega⟩;refine⟨r.Held,st5.cell 1 rfl rfl,λheld i w'=>∃(p:Nat) (vsl:List Slc) (tb vb d:List zb),i=(p:Int)/\p<=r.Held.len/\RowC 2 held ((((hdOf os).take p).zip vsl).flatMap λq=>hdV q.1.1 q.2) tb/\held.len=p/\zzb InV ((hdOf os).take p) vsl vb/\St w0 ((b1,rspT r)::(b,tkV m.number m.cfg m.call m.begun m.mark rs (m.out:Int) ps)::(rc++(pc++(tb++(vb++(d++fr)))))) w',λ_ i _=>r.Held.len - i.toNat,⟨0,[],_,[],[],rfl,O_,r1,rfl,by simpa using zzb.nil,st5.pq⟩,?_⟩;rintro held i w6 ⟨p,vsl,tb,vb,d,rfl,hp2,row2,hhd,ps2,st6⟩;unfold F_ff;have hpl:=ps2.len;refine⟨λhi=> ?_,λhi=> ?_⟩
  ·have hi:=dT hi;have st6s:St w0 (((b1,rspT r)::(b,tkV m.number m.cfg m.call m.begun m.mark rs (m.out:Int) ps)::(rc++(pc++(tb++(vb++d)))))++fr) w6:=st6.pq;obtain⟨a,h,hh,hc⟩:=zj.getN (src st6s).hld.src (λ_=>rfl) D_ (i:=(p:Int)) O_ hi;rw [tN] at hh;have hhd2:(hdOf os)[p]? =some (h.1,h.2.1):=by rw [aF,hh]; rfl
   have wp:i64.wrap ((p:Int)+1)=((p+1:Nat):Int):=W_;refine⟨a,O_,hi,⟨h.1,h.2.2⟩,hc,λb3 w7 hb3 hw7=> ?_⟩;have st7:=st6.alloc (cs:=hldT (Be,⟨none,0,0⟩)) hb3 hw7;refine⟨st7.writable 0 rfl D_,λw8 hw8 w9 hw9=> ?_⟩;have st8:St w0 ((b3,hldT (h.1,h.2.2))::(b1,rspT r)::(b,tkV m.number m.cfg m.call m.begun m.mark rs (m.out:Int) ps)::(rc++(pc++(tb++(vb++(d++fr)))))) w8:=st7.put0 hw8;have st9:=st8.drew hw9;have st9s:St w0 (((b3,hldT (h.1,h.2.2))::(b1,rspT r)::(b,tkV m.number m.cfg m.call m.begun m.mark rs (m.out:Int) ps)::(rc++(pc++(tb++(vb++d)))))++fr) w9:=st9.pq;obtain⟨hsv,hlv⟩:=(src st9s).hld.ver h (mG hh);refine⟨h.1,st9.cell 0 rfl rfl,h.2.2,st9.cell 0 rfl rfl,s_s hsv hlv λs2 rb w10 r10 st10 _=> ?_⟩;have st10:=st9.more st10;have st10:St w0 ((b3,hldT (h.1,h.2.2))::(rb++((b1,rspT r)::(b,tkV m.number m.cfg m.call m.begun m.mark rs (m.out:Int) ps)::(rc++(pc++(tb++(vb++(d++fr)))))))) w10:=st10.pq;refine⟨st10.cell 0 rfl rfl,λb4 w11 hb4 hw11=> ?_⟩;have st11:=st10.alloc (cs:=hldT (h.1,s2)) hb4 hw11;refine⟨hldT (h.1,s2),zJ hb4 hw11 rfl,?_⟩;have st11:St w0 (tb++(rb++((b1,rspT r)::(b,tkV m.number m.cfg m.call m.begun m.mark rs (m.out:Int) ps)::(rc++(pc++(vb++(d++fr))))))) w11:=st11.wq [(b4,hldT (h.1,s2)),(b3,hldT (h.1,h.2.2))];refine row2.append st11 rfl rfl rfl (by show(held.len+1)*40<=_; omega) λheld' tb' w12 row' st12 hl12=> ?_;rw [wp];refine⟨⟨p+1,vsl++[s2],tb',vb++rb,d,rfl,O_,?_,O_,?_,st12.pq⟩,L_⟩
   ·rw [bL,hhd2,show(some (h.1,h.2.1)).toList=[(h.1,h.2.1)] from rfl,zYe hpl];exact row'
   ·rw [bL,hhd2,show(some (h.1,h.2.1)).toList=[(h.1,h.2.1)] from rfl];exact ps2.snoc r10
  ·have hi:=dF hi;rw [bF (by rw [lM]; omega)] at row2 ps2 hpl;intro w13 hw13;have st13:=st6.drew hw13;have st13s:St w0 (((b1,rspT r)::(b,tkV m.number m.cfg m.call m.begun m.mark rs (m.out:Int) ps)::(rc++(pc++(tb++(vb++d)))))++fr) w13:=st13.pq;refine⟨rfl,ps,st13.cell 1 rfl rfl,r.OK,st13.cell 0 rfl rfl,r.Entries,st13.cell 0 rfl rfl,r.Count,st13.cell 0 rfl rfl,s_hc (src st13s).ent hel λs2 rb w14 r14 st14 _=> ?_⟩;have st14:=st13.more st14;have st14:St w0 ((b1,rspT r)::(b,tkV m.number m.cfg m.call m.begun m.mark rs (m.out:Int) ps)::(rb++(rc++(pc++(tb++(vb++(d++fr))))))) w14:=st14.pq;refine⟨st14.cell 0 rfl rfl,st14.cell 0 rfl rfl,st14.cell 1 rfl rfl,λb4 w15 hb4 hw15=> ?_⟩;have st15:=st14.alloc (cs:=rpV (rpOf r es os) (s2,held)) hb4 hw15;obtain⟨sls,tp,pb,rfl,row,parts⟩:=hp;have hfew:=ok.few;refine⟨st15.cell 2 rfl rfl,rpV (rpOf r es os) (s2,held),zJ hb4 hw15 rfl,?_⟩;have st15:St w0 (tp++((b,tkV m.number m.cfg m.call m.begun m.mark rs (m.out:Int) ps)::(rc++(pb++(rb++(tb++(vb++((b1,rspT r)::(d++fr))))))))) w15:=st15.wq [(b4,rpV (rpOf r es os) (s2,held))];refine row.append st15 rfl rfl rfl O_ λps' tp' w16 row' st16 hl16=> ?_;have st16:St w0 ((b,tkV m.number m.cfg m.call m.begun m.mark rs (m.out:Int) ps)::(rc++(tp'++(pb++(rb++(tb++(vb++((b1,rspT r)::(d++fr))))))))) w16:=st16.pq;refine⟨rfl,st16.writable 0,λw17 hw17=> ?_⟩;have st17:St w0 ((b,tkV m.number m.cfg m.call m.begun m.mark rs (m.out:Int) ps')::(rc++(tp'++(pb++(rb++(tb++(vb++((b1,rspT r)::(d++fr))))))))) w17:=st16.put0 hw17;refine k ((b,tkV m.number m.cfg m.call m.begun m.mark rs (m.out:Int) ps')::(rc++(tp'++(pb++(rb++(tb++vb)))))) ((b1,rspT r)::d) w17 ⟨b,rfl,rs,ps',rc,tp'++(pb++(rb++(tb++vb))),ok.got _ hsm hlt,rfl,hr,⟨sls++[(s2,held)],tp',pb++(rb++(tb++vb)),rfl,?_,parts.snoc ⟨rb,tb++vb,rfl,r14,vsl,tb,vb,rfl,row2,ps2⟩⟩⟩ (st17.pq);rw [zYe parts.len];exact row'
end
section
variable {w0:Base} {w:World} {fr cs:List zb} {t:OA} {m:Option TkM}
def zMe (m:Option TkM):Int×Bool :=
 match m with
 | none=>(0,false)
 | some m=>if m.begun then(m.mark,true) else(0,false)
theorem s_x {R:Int->Bool->WP} (o:TkO t m cs) (st:St w0 (cs++fr) w) (k:R (zMe m).1 (zMe m).2 w):C_eb t w R:=by
 apply S_Ic;unfold F_Kf;refine s_f o st ⟨λh=> ?_,λh=> ?_⟩
 ·cases m with
  | none=>exact⟨λ_=>k,N_⟩
  | some m=>cases h
 cases m with
 | none=>cases h
 | some m =>
  obtain⟨b,rfl,rs,ps,rc,pc,ok,rfl,hr,hp⟩:=o;unfold zMe at k;simp only at k;refine⟨rfl,m.begun,st.cell 0 rfl rfl,?_⟩;unfold F_fd;refine⟨λh=> ?_,λh=>⟨rfl,m.mark,st.cell 0 rfl rfl,?_⟩⟩
  ·rw [if_neg (by simpa using h)] at k; exact k
  ·rw [if_pos (by simpa using h)] at k; exact k
end
set_option maxHeartbeats 4000000
def InB (yb:List zb) (s:Slc):Prop:=∃(l:List Int) (rb:List zb),RowC 1 s (l.map Vi) rb/\(∀ c∈rb,c∈yb)/\l.length<=65536
theorem InB.mono {yb yb':List zb} {s:Slc} (h:InB yb s) (hm:∀ c∈yb,c∈yb'):InB yb' s:=by
 obtain⟨l,rb,a,b,c⟩:=h;exact⟨l,rb,a,λq hq=>hm q (b q hq),c⟩
def zSb (o_:OA) (M:SM) (cap:Nat) (q:List Rq) (sm:List (Nat×Obj)) (bs:List zb):Prop :=
 ∃ b sp rp sbs rbs yb,o_=some ⟨b,0,none⟩/\bs=(b,[Vp sp,Vp rp])::(sbs++(rbs++yb))/\zpb sp M sm sbs/\ReqO rp cap q rbs/\∀ x∈q,InB yb x.Beyond
section
variable {W:World} {m0 sm:List (Nat×Obj)} {w:World} {fr bs:List zb} {o_:OA} {M:SM} {cap:Nat} {q:List Rq}
theorem s_3b {i c:Nat} {p:OA} {pc:Nat} {R:OA->Int->WP} (st:St ⟨W,m0⟩ fr w) (hi:i<16) (h1:1<=c) (h2:c<=16)
    (k:∀ o_ sm bs w',zSb o_ (λ_=>[]) c [] sm bs->St ⟨W,sm++m0⟩ (bs++fr) w'->R o_ 0 w'):C_pd (i:Int) (c:Int) ⟨p,0,pc⟩ w R:=by
 apply S_md;unfold F_Mg;refine⟨λh=>(by simp only [cE,decide_eq_true_eq] at h; omega),λ_=>s_z st λs sm sbs w1 so st=>⟨N_,λ_=>s_4c st h1 O_ λr rbs w2 ro st=>⟨N_,λ_=>λb w3 hb hw=> ?_⟩⟩⟩;have st:=st.alloc hb hw;exact k _ sm _ w3 ⟨b,s,r,sbs,rbs,[],rfl,rfl,so,ro,λx hx=>(by cases hx)⟩ (st.pq)
theorem s_g {R:Bool->WP} (o:zSb o_ M cap q sm bs) (st:St ⟨W,sm++m0⟩ (bs++fr) w) (k:R true w):C_s o_ w R:=by
 apply S_Db;unfold F_Oe;obtain⟨b,sp,rp,sbs,rbs,yb,rfl,rfl,⟨b1,m,es,c,vb,rfl,_⟩,ro,_⟩:=o;exact⟨λ_=>⟨rfl,_,st.cell 0 rfl rfl,k⟩,N_⟩
theorem s_Hb {R:Int->WP} (o:zSb o_ M cap q sm bs) (st:St ⟨W,sm++m0⟩ (bs++fr) w) (k:∀ w',St ⟨W,sm++m0⟩ (bs++fr) w'->R ((cap:Int) - q.length) w'):C_6b o_ w R:=by
 apply S_Wb;unfold F_8e;refine s_g o st ⟨N_,λ_=> ?_⟩;obtain⟨b,sp,rp,sbs,rbs,yb,rfl,rfl,so,ro,hy⟩:=o;have st':St ⟨W,sm++m0⟩ (rbs++((b,[Vp sp,Vp rp])::(sbs++(yb++fr)))) w:=st.pq;exact⟨rfl,rp,st.cell 0 rfl rfl,s_bb st' ro λw1 st=>k w1 (st.pq)⟩
theorem s_4b {R:Int->WP} (o:zSb o_ M cap q sm bs) (st:St ⟨W,sm++m0⟩ (bs++fr) w) (k:R (q.length:Int) w):C_kc o_ w R:=by
 apply S_kc;unfold F_uf;refine s_g o st ⟨N_,λ_=> ?_⟩;obtain⟨b,sp,rp,sbs,rbs,yb,rfl,rfl,so,ro,hy⟩:=o;have st':St ⟨W,sm++m0⟩ (rbs++((b,[Vp sp,Vp rp])::(sbs++(yb++fr)))) w:=st.pq;exact⟨rfl,rp,st.cell 0 rfl rfl,s_vb st' ro k⟩
theorem zif:(Be.toList==Be.toList)=true:=by rw [zjb]; rfl
def insR (s:Slc) (num n:Int) (x:Wr):T_d:=⟨1,num,n,x,noStr,noStr,s⟩
theorem s_5b {w0:Base} {s:Slc} {num n:Int} {x:Wr} {R:Bool->WP} (st:St w0 fr w) (h1:1<=num) (h2:1<=n/\n<=65536) (hx:zYc x) (hs:s.len=0) (k:∀ w',St w0 fr w'->R true w'):C_sc (insR s num n x) w R:=by
 apply S_sc;unfold F_2e;intro b w1 hb hw;have st:St w0 ((b,reqV (insR s num n x))::fr) w1:=st.alloc (cs:=reqV (insR s num n x)) hb hw;obtain⟨x1,x2,x3,x4⟩:=hx;refine⟨n,st.cell 0 rfl rfl,λ_=>⟨n,st.cell 0 rfl rfl,?_⟩,λh=>(by have:=dF h; omega)⟩;unfold F_ic;refine⟨Be,st.cell 0 rfl rfl,λh=>(by rw [zif] at h; cases h),λ_=>⟨Be,st.cell 0 rfl rfl,λ_=>⟨Be,st.cell 0 rfl rfl,λw2 e2=> ?_⟩,λh=>(by rw [zif] at h; cases h)⟩⟩;have st:=st.keep e2;rw [zif,decide_eq_true (show n<=65536 by omega)];unfold F_K;have hnum:(num != 0)=true:=by simp; omega
 have go:∀ rd:Bool,F_hc R b true false true rd w2:=λrd=>by
  unfold F_hc;refine⟨1,st.cell 0 rfl rfl,λ_=>⟨s,st.cell 0 rfl rfl,?_⟩,N_⟩;unfold F_Yc;refine⟨λh=>(by have:=dT h; omega),λ_=>⟨x,⟨st.cell 0 rfl rfl,st.cell 0 rfl rfl,st.cell 0 rfl rfl,trivial⟩,λb1 w3 hb1 hw3=> ?_⟩⟩;have st:=st.alloc hb1 hw3;refine⟨st.writable 0 rfl (by simp),λw4 hw4=> ?_⟩;have st:St w0 ((b1,wV x)::(b,reqV (insR s num n x))::fr) w4:=st.put0 hw4;refine⟨1,st.cell 1 rfl rfl,λ_=>⟨num,st.cell 1 rfl rfl,λ_=>⟨n,st.cell 1 rfl rfl,λ_=>⟨x.Key,st.cell 0 rfl rfl,λ_=>⟨x.Key,st.cell 0 rfl rfl,λ_=>⟨x.Val,st.cell 0 rfl rfl,λ_=>⟨x.Drop,st.cell 0 rfl rfl,λ_=>k w4 st.drop1.drop1,λhd=>⟨x.Val,st.cell 0 rfl rfl,?_⟩⟩,λh=> ?_⟩,λh=> ?_⟩,λh=> ?_⟩,λh=> ?_⟩,λh=> ?_⟩,N_⟩
  ·have hd:x.Drop=true:=by simpa using hd
   dsimp only; rw [zjb,decide_eq_true (x4 hd)];exact k w4 st.drop1.drop1
  ·have:=dF h; omega
  ·have:=dF h; omega
  ·rw [zjb,decide_eq_false O_] at h; cases h
  ·rw [decide_eq_true (show n>0 by omega)] at h; cases h
  ·rw [decide_eq_true (show num>0 by omega)] at h; cases h
 refine⟨num,st.cell 0 rfl rfl,λ_=>⟨x,⟨st.cell 0 rfl rfl,st.cell 0 rfl rfl,st.cell 0 rfl rfl,trivial⟩,go _⟩,λh=>(by rw [hnum] at h; cases h)⟩
structure Cq.ok (q:Cq):Prop where
 frm:q.from_<0
 num:0<=q.num/\q.num<=65536
 kd:(q.kind=2/\1<=q.key.size/\q.key.size<=64/\q.end_.size=0/\q.bey=[])\/(q.kind=3/\q.key.size<=64/\q.end_.size<=64/\q.bey=[])\/(q.kind=4/\q.key.size=0/\q.end_.size=0/\q.bey=[])\/(q.kind=5/\q.key.size=0/\q.end_.size=0/\upL q.num q.bey)
theorem s_pb {l_:Slc} {than:Int} {bs:List Int} {R:Bool->WP} (hb:zj w l_ 1 (bs.map Vi)) (hl:l_.len<=140737488351232) (hu:upL than bs) (k:R true w):C_bd l_ than w R:=by
 apply S_9c;unfold F_Eg;have hlen:=hb.len_eq;refine⟨λt i w'=>w'=w/\∃ p:Nat,i=(p:Int)/\p<=l_.len/\upL t (bs.drop p),λ_ i _=>l_.len - i.toNat,⟨rfl,0,rfl,O_,hu⟩,?_⟩;rintro t i _ ⟨rfl,p,rfl,hp,hu⟩;unfold F_Sf;refine⟨λhi=> ?_,λ_=>k⟩;have hi:=dT hi;obtain⟨a,x,hx,hc⟩:=hb.get (i:=(p:Int)) O_ hi;rw [tN] at hx;have wp:i64.wrap ((p:Int)+1)=((p+1:Nat):Int):=W_;obtain⟨u1,u2,u3⟩:=(z5l hx).1 hu;refine⟨a,O_,hi,x,hc,λh=> ?_,λ_=> ?_⟩
 ·rw [decide_eq_false (show ¬ x<=t by omega),decide_eq_false (show ¬ x>65536 by omega)] at h; cases h
 ·rw [wp]; exact⟨⟨rfl,p+1,rfl,O_,u3⟩,L_⟩
theorem s_db {w0:Base} {q:Cq} {s:Slc} {R:Bool->WP} (st:St w0 fr w) (ok:q.ok) (hb:∀ {l':List zb} {w':World},St w0 (l'++fr) w'->zj w' s 1 (q.bey.map Vi)) (hl:s.len<=4398046511104) (k:∀ w',St w0 fr w'->R true w'):C_sc (rqT q s) w R:=by
 have hs0:=(hb (l':=[]) st).len_eq;obtain⟨kind,frm,num,key,end_,bey⟩:=q;obtain⟨o1,⟨o2,o3⟩,o4⟩:=ok;simp only at o1 o2 o3 o4 hb hs0;apply S_sc;unfold F_2e;intro b w1 hb1 hw1;have st1:St w0 ((b,rqV ⟨kind,frm,num,key,end_,bey⟩ s)::fr) w1:=st.alloc hb1 hw1;have hfrm:(frm != 0)=true:=by simp; omega
 have k3:∀ {ky br:Bool} {w':World},ky=(decide (1<=key.size)&&decide (key.size<=64))->br=(decide (key.size=0)&&decide (end_.size=0))->St w0 ((b,rqV ⟨kind,frm,num,key,end_,bey⟩ s)::fr) w'->F_Yc R b true ky br true false w':=λ{ky br w'} hky hbr st=>by
  unfold F_Yc;refine⟨N_,λ_=>⟨⟨noStr,noStr,false⟩,⟨st.cell 0 rfl rfl,st.cell 0 rfl rfl,st.cell 0 rfl rfl,trivial⟩,λb1 w6 hb6 hw6=> ?_⟩⟩;have st:=st.alloc (cs:=wV ⟨noStr,noStr,false⟩) hb6 hw6;refine⟨st.writable 0,λw7 hw7=> ?_⟩;have st:St w0 ((b1,wV ⟨noStr,noStr,false⟩)::(b,rqV ⟨kind,frm,num,key,end_,bey⟩ s)::fr) w7:=st.put0 hw7;have k:=k w7 st.drop1.drop1;rcases o4 with ⟨rfl,a1,a2,a3,rfl⟩ | ⟨rfl,a1,a2,rfl⟩ | ⟨rfl,a1,a2,rfl⟩ | ⟨rfl,a1,a2,a3⟩
  ·rw [decide_eq_true a1,decide_eq_true a2] at hky;subst hky;refine⟨2,st.cell 1 rfl rfl,N_,λ_=>⟨λ_=>⟨λ_=>⟨end_,st.cell 1 rfl rfl,?_⟩,N_⟩,N_⟩⟩;dsimp only; rw [zjb,decide_eq_true a3]; exact k
  ·refine⟨3,st.cell 1 rfl rfl,N_,λ_=>⟨N_,λ_=>⟨λ_=>⟨λ_=>⟨key,st.cell 1 rfl rfl,λ_=>⟨end_,st.cell 1 rfl rfl,?_⟩,λh=>(by have:=dF h; omega)⟩,N_⟩,N_⟩⟩⟩;dsimp only; rw [decide_eq_true (show((end_.size:Nat):Int)<=64 by omega)]; exact k
  ·rw [decide_eq_true a1,decide_eq_true a2] at hbr;subst hbr;exact⟨4,st.cell 1 rfl rfl,N_,λ_=>⟨N_,λ_=>⟨N_,λ_=>⟨λ_=>k,N_⟩⟩⟩⟩
  ·rw [decide_eq_true a1,decide_eq_true a2] at hbr;subst hbr;refine⟨5,st.cell 1 rfl rfl,N_,λ_=>⟨N_,λ_=>⟨N_,λ_=>⟨N_,λ_=>⟨λ_=>⟨λ_=>⟨s,st.cell 1 rfl rfl,num,st.cell 1 rfl rfl,?_⟩,N_⟩,N_⟩⟩⟩⟩⟩;exact s_pb (hb (l':=[(b1,_),(b,_)]) st) O_ a3 k
 have k1:∀ {ky br:Bool} {w':World},ky=(decide (1<=key.size)&&decide (key.size<=64))->br=(decide (key.size=0)&&decide (end_.size=0))->St w0 ((b,rqV ⟨kind,frm,num,key,end_,bey⟩ s)::fr) w'->F_K R b true ky br w':=λ{ky br w'} hky hbr st=>by
  unfold F_K;refine⟨frm,st.cell 0 rfl rfl,λ_=>⟨⟨noStr,noStr,false⟩,⟨st.cell 0 rfl rfl,st.cell 0 rfl rfl,st.cell 0 rfl rfl,trivial⟩,?_⟩,λh=>(by rw [hfrm] at h; cases h)⟩;unfold F_hc;refine⟨kind,st.cell 0 rfl rfl,λh5=>⟨s,st.cell 0 rfl rfl,?_⟩,λ_=>k3 hky hbr st⟩;have h5:kind≠5:=by simpa using h5
  have hb0:bey=[]:=by
   rcases o4 with h | h | h | h
   ·exact h.2.2.2.2
   ·exact h.2.2.2
   ·exact h.2.2.2
   ·exact absurd h.1 h5
  rw [hb0] at hs0;dsimp only; rw [decide_eq_false (show ¬ ((s.len:Nat):Int)>0 by simp at hs0; omega)];exact k3 hky hbr st
 refine⟨num,st1.cell 0 rfl rfl,λ_=>⟨num,st1.cell 0 rfl rfl,?_⟩,λh=>(by have:=dF h; omega)⟩;dsimp only; rw [decide_eq_true o3];unfold F_ic;refine⟨key,st1.cell 0 rfl rfl,λh1=>⟨key,st1.cell 0 rfl rfl,key,st1.cell 0 rfl rfl,λh2=> ?_,λh2 w9 e9=> ?_⟩,λh1=>⟨key,st1.cell 0 rfl rfl,λh2=>⟨end_,st1.cell 0 rfl rfl,λw9 e9=> ?_⟩,λh2=> ?_⟩⟩
 ·rw [h2] at h1; cases h1
 ·rw [zjb] at h1 h2;have h2:=dF h2;refine k1 ?_ ?_ (st1.keep e9)
  ·rw [decide_eq_true (show 1<=key.size by omega),dS,decide_eq_decide]; omega
  ·rw [decide_eq_false h2]; rfl
 ·rw [zjb] at h1 h2;have h2:=dT h2;refine k1 ?_ ?_ (st1.keep e9)
  ·rw [decide_eq_false (show ¬ 1<=key.size by omega)]; rfl
  ·rw [zjb,decide_eq_true h2,dS]
 ·rw [h2] at h1; cases h1
def bySl (r:T_d) (s:Slc):T_d:={ r with Beyond:=s }
theorem s_K {r:T_d} {bey:List Int} {R:Bool->Int->WP} (o:zSb o_ M cap q sm bs) (st:St ⟨W,sm++m0⟩ (bs++fr) w) (hb:∀ {l':List zb} {w':World},St ⟨W,sm++m0⟩ (l'++fr) w'->zj w' r.Beyond 1 (bey.map Vi)) (hbl:bey.length<=65536)
    (hmay:∀ {fr':List zb} {w':World} {R':Bool->WP},St ⟨W,sm++m0⟩ (fr'++fr) w'->(∀ w'',St ⟨W,sm++m0⟩ (fr'++fr) w''->R' true w'')->C_sc r w' R') (hq:q.length<cap)
    (k:∀ s' bs' w',s'.len=bey.length->zSb o_ M cap (q++[bySl r s']) sm bs'->St ⟨W,sm++m0⟩ (bs'++fr) w'->R true 0 w'):C_Db o_ r w R:=by
 apply S_jc;unfold F_tf;intro b_ w1 hb_ hw;have st:St ⟨W,sm++m0⟩ (bs++((b_,reqV r)::fr)) w1:=(st.alloc (cs:=reqV r) hb_ hw).mid;refine s_g o st ⟨N_,λ_=> ?_⟩;obtain⟨b,sp,rp,sbs,rbs,yb,rfl,rfl,so,ro,hy⟩:=o;have st:St ⟨W,sm++m0⟩ (((b_,reqV r)::(b,[Vp sp,Vp rp])::(rbs++(sbs++yb)))++fr) w1:=st.pq;refine⟨r,(st.get 0 rfl).all,hmay st λw2 st=>⟨N_,λ_=>⟨r.Beyond,st.cell 0 rfl rfl,?_⟩⟩⟩;have hsrc:=hb st;have hsl:=hsrc.len_eq;refine s_w hsrc O_ λs' nb w3 nr st3 hl3=> ?_;have st:St ⟨W,sm++m0⟩ ((b_,reqV r)::(nb++((b,[Vp sp,Vp rp])::(rbs++(sbs++(yb++fr)))))) w3:=(st.join st3).pq;refine⟨st.writable 0,λw4 hw4 w5 e5=> ?_⟩;have st:St ⟨W,sm++m0⟩ ((b_,reqV (bySl r s'))::(nb++((b,[Vp sp,Vp rp])::(rbs++(sbs++(yb++fr)))))) w5:=(st.put0 hw4).drew e5;refine⟨rfl,rp,(st.blk (b,[Vp sp,Vp rp]) (by simp)).cell rfl,bySl r s',(st.get 0 rfl).all,?_⟩;have st:St ⟨W,sm++m0⟩ (rbs++((b_,reqV (bySl r s'))::(nb++((b,[Vp sp,Vp rp])::(sbs++(yb++fr)))))) w5:=st.pq;refine s_3c st ro hq λrbs' w6 ro' st=>k s' ((b,[Vp sp,Vp rp])::(sbs++(rbs'++(nb++yb)))) w6 hl3 ⟨b,sp,rp,sbs,rbs',nb++yb,rfl,rfl,so,ro',λx hx=> ?_⟩ (st.wq [(b_,reqV (bySl r s'))]);rcases aG.1 hx with hx | hx
 ·exact(hy x hx).mono λc hc=>aH _ hc
 ·have:x=bySl r s':=by simpa using hx
  rw [this];exact⟨bey,nb,nr,λc hc=>bB _ hc,hbl⟩
end
set_option maxHeartbeats 4000000
def zN (r:T_k):List Value:=[Vi r.To,Vo r.OK,Vs r.Entries,Vs r.Held,Vi r.Count]
def zab (to:Int):T_k:=⟨to,true,⟨none,0,0⟩,⟨none,0,0⟩,0⟩
def zhp (b3:Nat):List Value:=[Value.nilFunc,Value.func (.func 248) #[] #[Vp (Z0 b3)],Value.func (.func 250) #[] #[Vp (Z0 b3)],Value.func (.func 252) #[] #[Vp (Z0 b3)],Value.func (.func 254) #[] #[Vp (Z0 b3)],Value.func (.func 256) #[] #[Vp (Z0 b3)]]
section
variable {W:World} {m0 sm:List (Nat×Obj)} {w:World} {fr bs:List zb} {o_:OA} {M:SM} {cap:Nat} {q:List Rq}
theorem s_r {r:Rq} {kd:Nat} {Q:T_k->SM->List zb->Prop} {R:T_k->Int->WP} (hk:r.Kind=(kd:Int)) (hk6:kd<6) (o:zSb o_ M cap (r::q) sm bs) (st:St ⟨W,sm++m0⟩ (bs++fr) w)
    (hcl:∀(b b2 b3:Nat) (sp:OA) (rp:Value) (sbs rest:List zb) (w':World),zpb sp M sm sbs->InB rest r.Beyond->St ⟨W,sm++m0⟩ (sbs++((b3,[Vp (Z0 b)])::(b2,zN (zab r.From))::(b,[Vp sp,rp])::rest)) w' ->
     zw (P:=Tryz.prog) ((zhp b3).getD kd Value.nilFunc) #[Value.agg (reqV r).toArray,Vp (Z0 b2)] w' (λe' w''=>e'=Ending.returned (Value.tuple #[])/\∃ p M' rc sm' sbs',Q p M' rc/\zpb sp M' sm' sbs'/\St ⟨W,sm'++m0⟩ (sbs'++(rc++((b2,zN p)::(b,[Vp sp,rp])::rest))) w''))
    (k:∀ p M' rc sm' bs' w',Q p M' rc->zSb o_ M' cap q sm' bs'->St ⟨W,sm'++m0⟩ (bs'++(rc++fr)) w'->R p 0 w'):C_D o_ w R:=by
 apply S_Eb;unfold F_jd;intro b_ w1 hb hw;have st:St ⟨W,sm++m0⟩ (bs++((b_,zN ⟨0,false,⟨none,0,0⟩,⟨none,0,0⟩,0⟩)::fr)) w1:=(st.alloc (cs:=zN ⟨0,false,⟨none,0,0⟩,⟨none,0,0⟩,0⟩) hb hw).mid;refine s_g o st ⟨N_,λ_=> ?_⟩;obtain⟨b,sp,rp,sbs,rbs,yb,rfl,rfl,so,ro,hy⟩:=o;refine⟨rfl,rp,st.cell 0 rfl rfl,?_⟩;have st:St ⟨W,sm++m0⟩ (rbs++((b,[Vp sp,Vp rp])::(b_,zN ⟨0,false,⟨none,0,0⟩,⟨none,0,0⟩,0⟩)::(sbs++(yb++fr)))) w1:=st.pq;refine s_Nc st ro λrbs' w2 ro' st b1 w3 hb1 hw3=> ?_;have st:St ⟨W,sm++m0⟩ ((b1,reqV zeroReq)::(b,[Vp sp,Vp rp])::(b_,zN ⟨0,false,⟨none,0,0⟩,⟨none,0,0⟩,0⟩)::(rbs'++(sbs++(yb++fr)))) w3:=(st.alloc (cs:=reqV zeroReq) hb1 hw3).pq;refine⟨st.writable 0,λw4 hw4=>⟨N_,λ_=> ?_⟩⟩;have st:St ⟨W,sm++m0⟩ ((b1,reqV r)::(b,[Vp sp,Vp rp])::(b_,zN ⟨0,false,⟨none,0,0⟩,⟨none,0,0⟩,0⟩)::(rbs'++(sbs++(yb++fr)))) w4:=st.put0 hw4;refine⟨r.From,st.cell 0 rfl rfl,λb2 w5 hb2 hw5=> ?_⟩;have st:=st.alloc (cs:=zN ⟨0,false,⟨none,0,0⟩,⟨none,0,0⟩,0⟩) hb2 hw5;refine⟨st.writable 0,λw6 hw6 w7 e7=> ?_⟩;have st:St ⟨W,sm++m0⟩ ((b2,zN (zab r.From))::(b1,reqV r)::(b,[Vp sp,Vp rp])::(b_,zN ⟨0,false,⟨none,0,0⟩,⟨none,0,0⟩,0⟩)::(rbs'++(sbs++(yb++fr)))) w7:=(st.put0 hw6).drew e7;refine⟨r.Kind,st.cell 1 rfl rfl,r,(st.get 1 rfl).all,?_⟩;apply S_ob;unfold F_He;intro b3 w8 hb3 hw8 b4 w9 hb4 hw9;have st:=(st.alloc hb3 hw8).alloc hb4 hw9;refine⟨st.writable 0,λw10 hw10=> ?_⟩;have st:=st.put0 hw10;have ek:r.Kind.toNat=kd:=by rw [hk]; rfl
 refine⟨⟨_,_,_,_,_,_⟩,(st.get 0 rfl).all,(st.get 3 rfl).all,st.cell 3 rfl rfl,O_,O_,?_⟩;rw [ek];have st:St ⟨W,sm++m0⟩ (sbs++((b3,[Vp (Z0 b)])::(b2,zN (zab r.From))::(b,[Vp sp,Vp rp])::((b_,zN ⟨0,false,⟨none,0,0⟩,⟨none,0,0⟩,0⟩)::(rbs'++(yb++fr))))) w10:=st.drop1.wq [(b1,reqV r)];refine zw.mono (hcl b b2 b3 sp _ sbs _ w10 so ((hy r (aI ..)).mono λc hc=>by simp [hc]) st) ?_;rintro e' w11 ⟨rfl,p,M',rc,sm',sbs',hQ,so',st⟩;have st:St ⟨W,sm'++m0⟩ ((b2,zN p)::(b_,zN ⟨0,false,⟨none,0,0⟩,⟨none,0,0⟩,0⟩)::(b,[Vp sp,Vp rp])::(sbs'++(rc++(rbs'++(yb++fr))))) w11:=st.pq;refine⟨(),rfl,p,(st.get 0 rfl).all,st.writable 1,λw12 hw12=> ?_⟩;have st:St ⟨W,sm'++m0⟩ ((b2,zN p)::(b_,zN p)::(b,[Vp sp,Vp rp])::(sbs'++(rc++(rbs'++(yb++fr))))) w12:=st.put 1 rfl hw12;exact⟨p,(st.get 1 rfl).all,k p M' rc sm' ((b,[Vp sp,Vp rp])::(sbs'++(rbs'++yb))) w12 hQ ⟨b,sp,rp,sbs',rbs',yb,rfl,rfl,so',ro',λx hx=>hy x (aJ _ hx)⟩ (st.wq [(b2,zN p),(b_,zN p)])⟩
theorem s_qb {s:Slc} {num n:Int} {x:Wr} {R:T_k->Int->WP} (o:zSb o_ M cap (insR s num n x::q) sm bs) (st:St ⟨W,sm++m0⟩ (bs++fr) w) (hk:mayK x.Key) (hx:mayV ⟨n,x.Val,x.Drop⟩=true) (hc:okC 0 (M x.Key)=true) (hl:(M x.Key).length<=1099511627776) (hn:∀ y∈M x.Key,y.Number≠n)
    (k:∀ sm' bs' w',zSb o_ (M.put x.Key ⟨n,x.Val,x.Drop⟩) cap q sm' bs'->St ⟨W,sm'++m0⟩ (bs'++fr) w'->R (zab num) 0 w'):C_D o_ w R:=by
 refine s_r (kd:=1) (Q:=λp M' rc=>p=zab num/\M'=M.put x.Key ⟨n,x.Val,x.Drop⟩/\rc=[]) rfl D_ o st (λb b2 b3 sp rp sbs rest w' so hy st=>zw.mk (all:=#[Value.agg (reqV (insR s num n x)).toArray,Vp (Z0 b2),Vp (Z0 b3)]) K_ rfl ?_) λp M' rc sm' bs' w' hQ o' st=>by
  obtain⟨rfl,rfl,rfl⟩:=hQ;exact k sm' bs' w' o' st
 have key:C_tc (insR s num n x) (Z0 b2) (Z0 b3) w' (λw''=>∃ sm' sbs',zpb sp (M.put x.Key ⟨n,x.Val,x.Drop⟩) sm' sbs'/\St ⟨W,sm'++m0⟩ (sbs'++((b2,zN (zab num))::(b,[Vp sp,rp])::rest)) w''):=by
  apply S_Z;unfold F_2d;intro b5 w11 hb5 hw11 w12 e12;have st:St ⟨W,sm++m0⟩ (sbs++((b3,[Vp (Z0 b)])::(b2,zN (zab num))::(b,[Vp sp,rp])::rest)) w':=st;have st:St ⟨W,sm++m0⟩ ((b5,reqV (insR s num n x))::_) w12:=(st.alloc (cs:=reqV (insR s num n x)) hb5 hw11).drew e12;have st:St ⟨W,sm++m0⟩ ((b5,reqV (insR s num n x))::(b3,[Vp (Z0 b)])::(b2,zN (zab num))::(b,[Vp sp,rp])::(sbs++rest)) w12:=st.pq;refine⟨rfl,_,st.cell 1 rfl rfl,rfl,sp,st.cell 3 rfl rfl,n,st.cell 0 rfl rfl,x,⟨st.cell 0 rfl rfl,st.cell 0 rfl rfl,st.cell 0 rfl rfl,trivial⟩,?_⟩;have st:St ⟨W,sm++m0⟩ (sbs++((b5,reqV (insR s num n x))::(b3,[Vp (Z0 b)])::(b2,zN (zab num))::(b,[Vp sp,rp])::rest)) w12:=st.pq;refine s_X so st hk hx hc hl hn λsm' sbs' w13 so' st=> ?_;have st:St ⟨W,sm'++m0⟩ ((b2,zN (zab num))::(sbs'++((b5,reqV (insR s num n x))::(b3,[Vp (Z0 b)])::(b,[Vp sp,rp])::rest))) w13:=st.pq;refine⟨rfl,st.writable 0,λw14 hw14=> ?_⟩;have st:St ⟨W,sm'++m0⟩ ((b2,zN (zab num))::(sbs'++((b5,reqV (insR s num n x))::(b3,[Vp (Z0 b)])::(b,[Vp sp,rp])::rest))) w14:=st.put0 hw14;exact⟨sm',sbs',so',st.weak [(b5,reqV (insR s num n x)),(b3,[Vp (Z0 b)])] (za λf_=>by simp <;> omega)⟩
 refine Calls.mono key ?_;rintro e' w11 ⟨rfl,sm',sbs',so',st⟩;exact⟨rfl,zab num,_,[],sm',sbs',⟨rfl,rfl,rfl⟩,so',st⟩
def RspW (N:Nat) (rc:List zb) (p:T_k):Prop:=∃(es:List T_e) (os:List HO),(∃ rb,RowC 2 p.Entries (es.flatMap entT) rb/\∀ c∈rb,c∈rc)/\es.length<=N/\(∃ rb,RowC 2 p.Held (os.flatMap hoT) rb/\∀ c∈rb,c∈rc)/\os.length<=N/\∀ o∈os,InC rc o.2.2 o.2.1/\o.2.1.length<=N
theorem RspW.no {N:Nat} {rc:List zb} {to n:Int} {b:Bool}:RspW N rc ⟨to,b,⟨none,0,0⟩,⟨none,0,0⟩,n⟩:=⟨[],[],⟨[],RowC.nil,λc hc=>(by cases hc)⟩,bU _,⟨[],RowC.nil,λc hc=>(by cases hc)⟩,bU _,λo ho=>(by cases ho)⟩
theorem RspW.ents {N:Nat} {rc rb:List zb} {to n:Int} {b:Bool} {sl:Slc} {es:List T_e} (h:RowC 2 sl (es.flatMap entT) rb) (hl:es.length<=N) (hm:∀ c∈rb,c∈rc):RspW N rc ⟨to,b,sl,⟨none,0,0⟩,n⟩:=⟨es,[],⟨rb,h,hm⟩,hl,⟨[],RowC.nil,λc hc=>(by cases hc)⟩,bU _,λo ho=>(by cases ho)⟩
def srvM (q:Cq) (M:SM):SM:=if q.kind=4 then zjj q.num M else M
theorem s_eb {K:List ByteArray} {N:Nat} {q':Cq} {s:Slc} {R:T_k->Int->WP} (ok:q'.ok) (o:zSb o_ M cap (rqT q' s::q) sm bs) (st:St ⟨W,sm++m0⟩ (bs++fr) w) (hK:∀ k,M k≠[]->k∈K/\k.size<=64) (hKl:K.length<=N) (hN:1<=N/\N<=1048576) (hc:∀ k,okC 0 (M k)=true) (hml:∀ k,(M k).length<=N)
    (k:∀ p rc sm' bs' w',RspW N rc p->p.To=q'.from_->zSb o_ (srvM q' M) cap q sm' bs'->St ⟨W,sm'++m0⟩ (bs'++(rc++fr)) w'->R p 0 w'):C_D o_ w R:=by
 have hml':∀ k,(M k).length<=1099511627776:=λk=>by have:=hml k; omega
 have fin:∀ {kd:Nat},q'.kind=(kd:Int)->kd<6->(∀(b b2 b3:Nat) (sp:OA) (rp:Value) (sbs rest:List zb) (w':World),zpb sp M sm sbs->InB rest s->St ⟨W,sm++m0⟩ (sbs++((b3,[Vp (Z0 b)])::(b2,zN (zab q'.from_))::(b,[Vp sp,rp])::rest)) w' ->
     zw (P:=Tryz.prog) ((zhp b3).getD kd Value.nilFunc) #[Value.agg (reqV (rqT q' s)).toArray,Vp (Z0 b2)] w' (λe' w''=>e'=Ending.returned (Value.tuple #[])/\∃ p rc sm' sbs',(RspW N rc p/\p.To=q'.from_)/\zpb sp (srvM q' M) sm' sbs'/\St ⟨W,sm'++m0⟩ (sbs'++(rc++((b2,zN p)::(b,[Vp sp,rp])::rest))) w''))->C_D o_ w R:=λ{kd} hk hk6 h =>
  s_r (kd:=kd) (Q:=λp M' rc=>M'=srvM q' M/\RspW N rc p/\p.To=q'.from_) hk hk6 o st (λb b2 b3 sp rp sbs rest w' so hy st=>zw.mono (h b b2 b3 sp rp sbs rest w' so hy st) λe' w'' hh=>by
   obtain⟨rfl,p,rc,sm',sbs',hp,so',st'⟩:=hh;exact⟨rfl,p,_,rc,sm',sbs',⟨rfl,hp⟩,so',st'⟩) λp M' rc sm' bs' w' hQ o' st=>by
   obtain⟨rfl,h1,h2⟩:=hQ;exact k p rc sm' bs' w' h1 h2 o' st
 obtain⟨o1,⟨o2,o3⟩,o4⟩:=ok;have mid:∀ {sbs rest:List zb} {b b2 b3 b5:Nat} {sp:OA} {rp:Value} {w':World} {cs:List Value},St ⟨W,sm++m0⟩ ((b5,cs)::(sbs++((b3,[Vp (Z0 b)])::(b2,zN (zab q'.from_))::(b,[Vp sp,rp])::rest))) w'->St ⟨W,sm++m0⟩ (sbs++((b5,cs)::(b3,[Vp (Z0 b)])::(b2,zN (zab q'.from_))::(b,[Vp sp,rp])::rest)) w':=λst=>st.pq;rcases o4 with ⟨hk,a1,a2,a3,a4⟩ | ⟨hk,a1,a2,a4⟩ | ⟨hk,a1,a2,a4⟩ | ⟨hk,a1,a2,a3⟩
 ·refine fin (kd:=2) hk D_ λb b2 b3 sp rp sbs rest w' so hy st=>zw.mk (all:=#[Value.agg (reqV (rqT q' s)).toArray,Vp (Z0 b2),Vp (Z0 b3)]) K_ rfl ?_;have eM:srvM q' M=M:=by unfold srvM; rw [if_neg O_]
  rw [eM]
  have key:C_uc (rqT q' s) (Z0 b2) (Z0 b3) w' (λw''=>∃ p rc sm' sbs',(RspW N rc p/\p.To=q'.from_)/\zpb sp M sm' sbs'/\St ⟨W,sm'++m0⟩ (sbs'++(rc++((b2,zN p)::(b,[Vp sp,rp])::rest))) w''):=by
   apply S_0;unfold F_3d;intro b5 w11 hb5 hw11 w12 e12;have st:=mid ((st.alloc (cs:=reqV (rqT q' s)) hb5 hw11).drew e12);have cl:∀ {x:zb} {o:Nat} {v:Value},x∈(b5,reqV (rqT q' s))::(b3,[Vp (Z0 b)])::(b2,zN (zab q'.from_))::(b,[Vp sp,rp])::rest->x.2[o]? =some v->w12.cell? ⟨x.1,o,none⟩=some v:=λ{x o v} hx hv=>(st.blk x (aH _ hx)).cell hv;refine⟨rfl,_,cl (x:=(b3,[Vp (Z0 b)])) (by simp) rfl,rfl,sp,cl (x:=(b,[Vp sp,rp])) (by simp) rfl,q'.key,cl (x:=(b5,reqV (rqT q' s))) (by simp) rfl,q'.num,cl (x:=(b5,reqV (rqT q' s))) (by simp) rfl,s_I so st hc hml' λv okv w13 st=> ?_⟩;have st:St ⟨W,sm++m0⟩ ((b2,zN (zab q'.from_))::(b5,reqV (rqT q' s))::(sbs++((b3,[Vp (Z0 b)])::(b,[Vp sp,rp])::rest))) w13:=st.pq;refine⟨rfl,st.writable 0,λw14 hw14=> ?_⟩;have st:St ⟨W,sm++m0⟩ ((b2,zN ⟨q'.from_,okv,⟨none,0,0⟩,⟨none,0,0⟩,0⟩)::(b5,reqV (rqT q' s))::(sbs++((b3,[Vp (Z0 b)])::(b,[Vp sp,rp])::rest))) w14:=st.put0 hw14;refine⟨λ_=>⟨q'.key,st.cell 1 rfl rfl,λb1 w15 hb1 hw15=>⟨rfl,?_⟩⟩,λ_=>⟨⟨q'.from_,okv,⟨none,0,0⟩,⟨none,0,0⟩,0⟩,[],sm,sbs,⟨RspW.no,rfl⟩,so,st.weak [(b5,reqV (rqT q' s)),(b3,[Vp (Z0 b)])] (za λf_=>by simp <;> omega)⟩⟩;have st:=st.alloc (cs:=entT ⟨q'.key,v⟩) hb1 hw15;refine⟨st.writable 1,λw16 hw16=> ?_⟩;have st:St ⟨W,sm++m0⟩ ((b1,entT ⟨q'.key,v⟩)::(b2,zN ⟨q'.from_,okv,⟨some ⟨b1,0,none⟩,1,1⟩,⟨none,0,0⟩,0⟩)::(b5,reqV (rqT q' s))::(sbs++((b3,[Vp (Z0 b)])::(b,[Vp sp,rp])::rest))) w16:=st.put1 hw16;exact⟨⟨q'.from_,okv,⟨some ⟨b1,0,none⟩,1,1⟩,⟨none,0,0⟩,0⟩,[(b1,entT ⟨q'.key,v⟩)],sm,sbs,⟨RspW.ents (es:=[⟨q'.key,v⟩]) (RowC.new (n:=1) rfl) hN.1 (λc hc=>hc),rfl⟩,so,st.weak [(b5,reqV (rqT q' s)),(b3,[Vp (Z0 b)])] (za λf_=>by simp <;> omega)⟩
  refine Calls.mono key ?_;rintro e' w11 ⟨rfl,h⟩;exact⟨rfl,h⟩
 ·refine fin (kd:=3) hk D_ λb b2 b3 sp rp sbs rest w' so hy st=>zw.mk (all:=#[Value.agg (reqV (rqT q' s)).toArray,Vp (Z0 b2),Vp (Z0 b3)]) K_ rfl ?_;have eM:srvM q' M=M:=by unfold srvM; rw [if_neg O_]
  rw [eM]
  have key:C_vc (rqT q' s) (Z0 b2) (Z0 b3) w' (λw''=>∃ p rc sm' sbs',(RspW N rc p/\p.To=q'.from_)/\zpb sp M sm' sbs'/\St ⟨W,sm'++m0⟩ (sbs'++(rc++((b2,zN p)::(b,[Vp sp,rp])::rest))) w''):=by
   apply S_1;unfold F_4d;intro b5 w11 hb5 hw11 w12 e12;have st:=mid ((st.alloc (cs:=reqV (rqT q' s)) hb5 hw11).drew e12);have cl:∀ {x:zb} {o:Nat} {v:Value},x∈(b5,reqV (rqT q' s))::(b3,[Vp (Z0 b)])::(b2,zN (zab q'.from_))::(b,[Vp sp,rp])::rest->x.2[o]? =some v->w12.cell? ⟨x.1,o,none⟩=some v:=λ{x o v} hx hv=>(st.blk x (aH _ hx)).cell hv;refine⟨rfl,_,cl (x:=(b3,[Vp (Z0 b)])) (by simp) rfl,rfl,sp,cl (x:=(b,[Vp sp,rp])) (by simp) rfl,q'.key,cl (x:=(b5,reqV (rqT q' s))) (by simp) rfl,q'.end_,cl (x:=(b5,reqV (rqT q' s))) (by simp) rfl,q'.num,cl (x:=(b5,reqV (rqT q' s))) (by simp) rfl,s_Gb so st hK O_ hc hml' λsl xs ob w13 ro hxl st=> ?_⟩;have st:St ⟨W,sm++m0⟩ ((b2,zN (zab q'.from_))::(ob++(sbs++((b5,reqV (rqT q' s))::(b3,[Vp (Z0 b)])::(b,[Vp sp,rp])::rest)))) w13:=st.pq;refine⟨rfl,st.writable 0,λw14 hw14=> ?_⟩;have st:St ⟨W,sm++m0⟩ ((b2,zN ⟨q'.from_,true,sl,⟨none,0,0⟩,0⟩)::(ob++(sbs++((b5,reqV (rqT q' s))::(b3,[Vp (Z0 b)])::(b,[Vp sp,rp])::rest)))) w14:=st.put0 hw14;exact⟨⟨q'.from_,true,sl,⟨none,0,0⟩,0⟩,ob,sm,sbs,⟨RspW.ents ro O_ (λc hc=>hc),rfl⟩,so,st.weak [(b5,reqV (rqT q' s)),(b3,[Vp (Z0 b)])] (za λf_=>by simp <;> omega)⟩
  refine Calls.mono key ?_;rintro e' w11 ⟨rfl,h⟩;exact⟨rfl,h⟩
 ·refine fin (kd:=4) hk D_ λb b2 b3 sp rp sbs rest w' so hy st=>zw.mk (all:=#[Value.agg (reqV (rqT q' s)).toArray,Vp (Z0 b2),Vp (Z0 b3)]) K_ rfl ?_;have eM:srvM q' M=zjj q'.num M:=by unfold srvM; rw [if_pos hk]
  rw [eM]
  have key:C_wc (rqT q' s) (Z0 b2) (Z0 b3) w' (λw''=>∃ p rc sm' sbs',(RspW N rc p/\p.To=q'.from_)/\zpb sp (zjj q'.num M) sm' sbs'/\St ⟨W,sm'++m0⟩ (sbs'++(rc++((b2,zN p)::(b,[Vp sp,rp])::rest))) w''):=by
   apply S_2;unfold F_5d;intro b5 w11 hb5 hw11 w12 e12;have st:=mid ((st.alloc (cs:=reqV (rqT q' s)) hb5 hw11).drew e12);have cl:∀ {x:zb} {o:Nat} {v:Value},x∈(b5,reqV (rqT q' s))::(b3,[Vp (Z0 b)])::(b2,zN (zab q'.from_))::(b,[Vp sp,rp])::rest->x.2[o]? =some v->w12.cell? ⟨x.1,o,none⟩=some v:=λ{x o v} hx hv=>(st.blk x (aH _ hx)).cell hv;refine⟨rfl,_,cl (x:=(b3,[Vp (Z0 b)])) (by simp) rfl,rfl,sp,cl (x:=(b,[Vp sp,rp])) (by simp) rfl,q'.num,cl (x:=(b5,reqV (rqT q' s))) (by simp) rfl,s_Z so st hK O_ hc hml' λn sm' sbs' w13 so' st=> ?_⟩;have st:St ⟨W,sm'++m0⟩ ((b2,zN (zab q'.from_))::(sbs'++((b5,reqV (rqT q' s))::(b3,[Vp (Z0 b)])::(b,[Vp sp,rp])::rest))) w13:=st.pq;refine⟨rfl,st.writable 0,λw14 hw14=> ?_⟩;have st:St ⟨W,sm'++m0⟩ ((b2,zN ⟨q'.from_,true,⟨none,0,0⟩,⟨none,0,0⟩,n⟩)::(sbs'++((b5,reqV (rqT q' s))::(b3,[Vp (Z0 b)])::(b,[Vp sp,rp])::rest))) w14:=st.put0 hw14;exact⟨⟨q'.from_,true,⟨none,0,0⟩,⟨none,0,0⟩,n⟩,[],sm',sbs',⟨RspW.no,rfl⟩,so',st.weak [(b5,reqV (rqT q' s)),(b3,[Vp (Z0 b)])] (za λf_=>by simp <;> omega)⟩
  refine Calls.mono key ?_;rintro e' w11 ⟨rfl,h⟩;exact⟨rfl,h⟩
 ·refine fin (kd:=5) hk D_ λb b2 b3 sp rp sbs rest w' so hy st=>zw.mk (all:=#[Value.agg (reqV (rqT q' s)).toArray,Vp (Z0 b2),Vp (Z0 b3)]) K_ rfl ?_;have eM:srvM q' M=M:=by unfold srvM; rw [if_neg O_]
  rw [eM];obtain⟨bey,yb,yr,yi,yl⟩:=hy
  have key:C_xc (rqT q' s) (Z0 b2) (Z0 b3) w' (λw''=>∃ p rc sm' sbs',(RspW N rc p/\p.To=q'.from_)/\zpb sp M sm' sbs'/\St ⟨W,sm'++m0⟩ (sbs'++(rc++((b2,zN p)::(b,[Vp sp,rp])::rest))) w''):=by
   apply S_3;unfold F_6d;intro b5 w11 hb5 hw11 w12 e12;have st:=mid ((st.alloc (cs:=reqV (rqT q' s)) hb5 hw11).drew e12);have cl:∀ {x:zb} {o:Nat} {v:Value},x∈(b5,reqV (rqT q' s))::(b3,[Vp (Z0 b)])::(b2,zN (zab q'.from_))::(b,[Vp sp,rp])::rest->x.2[o]? =some v->w12.cell? ⟨x.1,o,none⟩=some v:=λ{x o v} hx hv=>(st.blk x (aH _ hx)).cell hv;have hyl:=yr.len;rw [lM,aW] at hyl;refine⟨rfl,_,cl (x:=(b3,[Vp (Z0 b)])) (by simp) rfl,rfl,sp,cl (x:=(b,[Vp sp,rp])) (by simp) rfl,q'.num,cl (x:=(b5,reqV (rqT q' s))) (by simp) rfl,s,cl (x:=(b5,reqV (rqT q' s))) (by simp) rfl,s_Fb so st (bey:=bey) (λ{l' w'} st=>yr.srcM (λc hc=>by simp [yi c hc]) st) O_ hK O_ hc hml' λsl zs ob vx w13 ro hzl hin st=> ?_⟩;have st:St ⟨W,sm++m0⟩ ((b2,zN (zab q'.from_))::(ob++(vx++(sbs++((b5,reqV (rqT q' s))::(b3,[Vp (Z0 b)])::(b,[Vp sp,rp])::rest))))) w13:=st.pq;refine⟨rfl,st.writable 0,λw14 hw14=> ?_⟩;have st:St ⟨W,sm++m0⟩ ((b2,zN ⟨q'.from_,true,⟨none,0,0⟩,sl,0⟩)::(ob++(vx++(sbs++((b5,reqV (rqT q' s))::(b3,[Vp (Z0 b)])::(b,[Vp sp,rp])::rest))))) w14:=st.put0 hw14;have hfl:(hzF zs).length<=zs.length:=cI _ _;refine⟨⟨q'.from_,true,⟨none,0,0⟩,sl,0⟩,ob++vx,sm,sbs,⟨⟨[],(hzF zs).map λz=>(z.1,z.2.2,z.2.1),⟨[],RowC.nil,λc hc=>(by cases hc)⟩,bU _,⟨ob,by rw [gW]; exact ro,λc hc=>bB _ hc⟩,by rw [lM]; omega,λo ho=> ?_⟩,rfl⟩,so,st.weak [(b5,reqV (rqT q' s)),(b3,[Vp (Z0 b)])] (za λf_=>by simp <;> omega)⟩;obtain⟨z,hz,rfl⟩:=aQ.1 ho;obtain⟨h1,h2,_⟩:=hin z (bR.1 hz).1;exact⟨h1.mono λc hc=>aH _ hc,cH h2 (hml _)⟩
  refine Calls.mono key ?_;rintro e' w11 ⟨rfl,h⟩;exact⟨rfl,h⟩
theorem s_6b {K:List ByteArray} {R:Slc->WP} (o:zSb o_ M cap q sm bs) (st:St ⟨W,sm++m0⟩ (bs++fr) w) (hK:∀ k,M k≠[]->k∈K/\k.size<=64) (hKl:K.length<=16777216) (hml:∀ k,(M k).length<=1099511627776)
    (k:∀ sl (zs:List HZ) ob vx w',RowC 2 sl (zs.flatMap hzC) ob->zs.length<=K.length->(zs.map (·.1)).Pairwise ltK->(∀ k,k∈zs.map (·.1)↔M k≠[])->(∀ z∈zs,InC vx z.2.1 (M z.1))->St ⟨W,sm++m0⟩ (ob++(vx++(bs++fr))) w'->R sl w'):C_gc o_ w R:=by
 apply S_ic;unfold F_nf;refine s_g o st ⟨N_,λ_=> ?_⟩;obtain⟨b,sp,rp,sbs,rbs,yb,rfl,rfl,so,ro,hy⟩:=o;refine⟨rfl,sp,st.cell 0 rfl rfl,?_⟩;have st':St ⟨W,sm++m0⟩ (sbs++((b,[Vp sp,Vp rp])::(rbs++(yb++fr)))) w:=st.pq;exact s_1b so st' hK hKl hml λsl hs ob vx w' a b c d e st=>k sl hs ob vx w' a b c d e (st.pq)
end
abbrev hT (h:T_l):List Value:=hldT (h.Key,h.Versions)
theorem z1b {i j:Nat} (h:i+j<=4611686018427387904):i64.wrap (Int.fdiv (u64.wrap (i64.wrap ((i:Int)+(j:Int)))) (2 ^ 1))=(((i+j) / 2:Nat):Int):=by
 rw [i64_in ((i:Int)+(j:Int)) O_ O_,zrh _ O_ O_,show(i:Int)+(j:Int)=((i+j:Nat):Int) from by omega];rw [show Int.fdiv ((i+j:Nat):Int) (2 ^ 1)=(((i+j) / 2:Nat):Int) from z0e (i+j) 2,i64_in _ O_ O_]
section
variable {w0:Base} {w:World} {sz:Nat} {α:Type} {f:α->List Value}
theorem RowC.setE {s:Slc} {ys:List α} {bs l:List zb} {i:Nat} (hf:∀ x,(f x).length=sz) (hz:0<sz) (h:RowC sz s (ys.flatMap f) bs) (st:St w0 (bs++l) w) (hi:i<s.len) (y:α) :
    IsAt s.ptr/\zr w (pblk s.ptr) (poff s.ptr+i*sz) sz/\∀ w',w'=World.puts (pblk s.ptr) (poff s.ptr+i*sz) (f y) w->∃ bs',RowC sz s ((ys.set i y).flatMap f) bs'/\St w0 (bs'++l) w':=by
 rcases h with ⟨hp,hl,hcz,hnil,rfl⟩ | ⟨b,pre,rest,suf,hp,rfl,hx,hr,hle⟩
 ·omega
 have hlen:ys.length=s.len:=fD hz (by rw [<-hx,zc hf]);have hil:i<ys.length:=O_;have hm:(i+1)*sz<=s.len*sz:=bV _ hi;rw [cR,Nat.one_mul] at hm
 have e0:ys.flatMap f=(ys.take i).flatMap f++(f ys[i]++(ys.drop (i+1)).flatMap f):=by
  conv=>lhs; rw [<-bM i ys,bO hil,bE,aY]
 have e1:(ys.set i y).flatMap f=(ys.take i).flatMap f++(f y++(ys.drop (i+1)).flatMap f):=by
  rw [fQ,if_pos hil,bE,aY]
 rw [hp];refine⟨rfl,st.writable 0 rfl (by show pre.length+i*sz+sz<=_; rw [aB,aB]; omega),λw' hw=> ?_⟩;have hn:=st.put0 hw;refine⟨[(b,pre++((ys.set i y).flatMap f++(rest++suf)))],.inr ⟨b,pre,rest,suf,hp,rfl,?_,?_,hle⟩,?_⟩
 ·rw [zc hf,aK,hlen]
 ·rw [zc hf,aK,hlen,<-hx]; exact hr
 have hl:(pre++(ys.take i).flatMap f).length=pre.length+i*sz:=by rw [aB,zc hf,aZ,eV O_]
 have:=zdb (pre++(ys.take i).flatMap f) (f ys[i]) ((ys.drop (i+1)).flatMap f++(rest++suf)) (f y) (by rw [hf,hf]);rw [hl] at this
 have e:putL (poff (some ⟨b,pre.length,none⟩:OA)+i*sz) (f y) (pre++(ys.flatMap f++(rest++suf)))=pre++((ys.set i y).flatMap f++(rest++suf)):=by
  rw [e0,e1];simp only [aN] at this ⊢;exact this
 rw [e] at hn;exact hn
end
end Go.Proofs.YtofjmclceflgiaaGreat
