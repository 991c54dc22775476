/-
  A part of the proof of TopCollects.
  Conditions: none.
-/
import Derived.Test.YtofjmclceflgiaaGreatM2
import Derived.Test.YtofjmclceflgiaaGreatG1
import Derived.Test.YtofjmclceflgiaaGreatG2
import Derived.Test.YtofjmclceflgiaaGreatG3
import Derived.Shelf.SlSortCmp.WholeK
import Derived.Shelf.SlSortCmp.NoneTotal
import Derived.Shelf.Small.Strs
import Derived.Ground.SlsfProg
import Derived.Ground.NamesProg
namespace Go.Proofs.YtofjmclceflgiaaGreat
open Go
open Go.IntKind (i64 u64 u32 u8)
set_option linter.unusedVariables false
set_option linter.unusedSimpArgs false
set_option maxHeartbeats 4000000
section
variable {w0:Base} {w:World} {fr:List zb} {data:Slc} {l:List T_l} {cmp:Value}
def AmH (w0:Base) (fr:List zb) (data:Slc) (l:List T_l) (w:World):Prop:=∃(l':List T_l) (d:List zb),l'.Perm l/\RowC 2 data (l'.flatMap hT) d/\St w0 (d++fr) w
def CmH (cmp:Value):Prop:=∀(x y:T_l) (w:World),zw (P:=Tryz.prog) cmp #[Value.agg (hT x).toArray,Value.agg (hT y).toArray] w λe' w'=>∃ v:Int,e'=Ending.returned (Vi v)/\Ext w w'
theorem AmH.keep {w':World} (h:AmH w0 fr data l w) (e:Ext w w'):AmH w0 fr data l w':=by
 obtain⟨l',d,p,r,st⟩:=h;exact⟨l',d,p,r,st.keep e⟩
theorem AmH.drew {w':World} (h:AmH w0 fr data l w) (e:∃ k,w'=w.drewN k):AmH w0 fr data l w':=h.keep (Qt.ext e)
theorem AmH.len (h:AmH w0 fr data l w):data.len=l.length:=by
 obtain⟨l',d,p,r,st⟩:=h;have:=r.len;rw [zc (sz:=2) (λ_=>rfl)] at this;have:=p.length_eq;omega
theorem AmH.cmpr (h:AmH w0 fr data l w) (hc:CmH cmp) {I J:Nat} (hI:I<l.length) (hJ:J<l.length) {X:Int->WP} (hX:∀ v w',AmH w0 fr data l w'->X v w') :
    IsAt data.ptr/\(0<=(I:Int)/\(I:Int)<((data.len:Nat):Int)/\∃ v:T_l,zf w (pblk data.ptr) (poff data.ptr+(I:Int).toNat*2) (hT v)/\(IsAt data.ptr/\(0<=(J:Int)/\(J:Int)<((data.len:Nat):Int)/\∃ u:T_l,zf w (pblk data.ptr) (poff data.ptr+(J:Int).toNat*2) (hT u) /\
     zw (P:=Tryz.prog) cmp #[Value.agg (hT v).toArray,Value.agg (hT u).toArray] w (λe' w'=>∃ x:Int,e'=Ending.returned (Vi x)/\X x w')))):=by
 have hl:=h.len;have h':=h;obtain⟨l',d,p,r,st⟩:=h;have hpl:=p.length_eq;obtain⟨a,v,_,c1⟩:=zj.getN (r.src st) (λ_=>rfl) D_ (i:=(I:Int)) O_ O_;obtain⟨_,u,_,c2⟩:=zj.getN (r.src st) (λ_=>rfl) D_ (i:=(J:Int)) O_ O_;refine⟨a,O_,O_,v,c1,a,O_,O_,u,c2,zw.mono (hc v u w) ?_⟩;rintro e' w' ⟨x,rfl,e⟩;exact⟨x,rfl,hX x w' (h'.keep e)⟩
theorem AmH.swp (h:AmH w0 fr data l w) {I J:Nat} (hI:I<l.length) (hJ:J<l.length) {X:WP} (hX:∀ w',AmH w0 fr data l w'->X w') :
    IsAt data.ptr/\0<=(J:Int)/\(J:Int)<((data.len:Nat):Int)/\∃ v:T_l,zf w (pblk data.ptr) (poff data.ptr+(J:Int).toNat*2) (hT v)/\IsAt data.ptr/\0<=(I:Int)/\(I:Int)<((data.len:Nat):Int)/\∃ u:T_l,zf w (pblk data.ptr) (poff data.ptr+(I:Int).toNat*2) (hT u) /\
     IsAt data.ptr/\0<=(I:Int)/\(I:Int)<((data.len:Nat):Int)/\zr w (pblk data.ptr) (poff data.ptr+(I:Int).toNat*2) 2/\∀ w1,w1=World.puts (pblk data.ptr) (poff data.ptr+(I:Int).toNat*2) (hT v) w ->
      IsAt data.ptr/\0<=(J:Int)/\(J:Int)<((data.len:Nat):Int)/\zr w1 (pblk data.ptr) (poff data.ptr+(J:Int).toNat*2) 2/\∀ w2,w2=World.puts (pblk data.ptr) (poff data.ptr+(J:Int).toNat*2) (hT u) w1->X w2:=by
 have hl:=h.len;obtain⟨l',d,p,r,st⟩:=h;have hpl:=p.length_eq;obtain⟨a,v,hv,c1⟩:=zj.getN (r.src st) (λ_=>rfl) D_ (i:=(J:Int)) O_ O_;obtain⟨_,u,hu,c2⟩:=zj.getN (r.src st) (λ_=>rfl) D_ (i:=(I:Int)) O_ O_;obtain⟨_,wr1,s1⟩:=RowC.setE (sz:=2) (f:=hT) (i:=I) (λ_=>rfl) D_ r st O_ v;refine⟨a,O_,O_,v,c1,a,O_,O_,u,c2,a,O_,O_,by rw [tN]; exact wr1,λw1 hw1=> ?_⟩;rw [tN] at hw1 hv hu;obtain⟨d1,r1,st1⟩:=s1 w1 hw1;obtain⟨_,wr2,s2⟩:=RowC.setE (sz:=2) (f:=hT) (i:=J) (λ_=>rfl) D_ r1 st1 O_ u;refine⟨a,O_,O_,by rw [tN]; exact wr2,λw2 hw2=> ?_⟩;rw [tN] at hw2;obtain⟨d2,r2,st2⟩:=s2 w2 hw2;obtain⟨i1,rfl⟩:=gSo hv;obtain⟨i2,rfl⟩:=gSo hu;exact hX w2 ⟨_,d2,(List.set_set_perm i2 i1).trans p,r2,st2⟩
theorem s_lb {a b n:Nat} {R:WP} (h:AmH w0 fr data l w) (h1:a+n<=l.length) (h2:b+n<=l.length) (hl:l.length<=1152921504606846976) (k:∀ w',AmH w0 fr data l w'->R w'):C_i data (a:Int) (b:Int) (n:Int) cmp w R:=by
 apply S_r;unfold F_9b;refine⟨λi w'=>∃ p:Nat,i=(p:Int)/\p<=n/\AmH w0 fr data l w',λi _=>n - i.toNat,⟨0,rfl,O_,h⟩,?_⟩;clear h;rintro i w1 ⟨p,rfl,hp,h⟩;unfold F_yb;refine⟨λhi w2 hw2=> ?_,λhi=>k w1 h⟩;have hi:=dT hi;have wa:i64.wrap ((a:Int)+(p:Int))=((a+p:Nat):Int):=W_;have wb:i64.wrap ((b:Int)+(p:Int))=((b+p:Nat):Int):=W_;have wp:i64.wrap ((p:Int)+1)=((p+1:Nat):Int):=W_;rw [wa,wb,wp];exact(h.drew hw2).swp (I:=a+p) (J:=b+p) O_ O_ λw' h=>⟨⟨p+1,rfl,O_,h⟩,L_⟩
theorem s_td {a m b:Nat} {R:WP} (h:AmH w0 fr data l w) (h1:a<m) (h2:m<b) (h3:b<=l.length) (hl:l.length<=1152921504606846976) (k:∀ w',AmH w0 fr data l w'->R w'):C_L data (a:Int) (m:Int) (b:Int) cmp w R:=by
 apply S_B;unfold F_Bc;refine⟨λi j w'=>∃ p q:Nat,i=(p:Int)/\j=(q:Int)/\0<p/\0<q/\p<=m/\m+q<=l.length/\AmH w0 fr data l w',λi j _=>i.toNat+j.toNat,⟨m - a,b - m,?_,?_,O_,O_,O_,O_,h⟩,?_⟩
 ·rw [i64_in _ O_ O_]; omega
 ·rw [i64_in _ O_ O_]; omega
 clear h;rintro i j w1 ⟨p,q,rfl,rfl,hp,hq,hpm,hqm,h⟩;unfold F_8b;have e1:i64.wrap ((m:Int) - (p:Int))=((m - p:Nat):Int):=W_;rw [e1];refine⟨λhne=>⟨λhgt=> ?_,λhgt=> ?_⟩,λheq=> ?_⟩
 ·have hgt:=dT hgt;have e2:i64.wrap ((p:Int) - (q:Int))=((p - q:Nat):Int):=W_;rw [e2];exact s_lb h O_ O_ hl λw' h=>⟨⟨p - q,q,rfl,rfl,O_,hq,O_,hqm,h⟩,by show Int.toNat _+Int.toNat _<Int.toNat _+Int.toNat _; omega⟩
 ·have hgt:=dF hgt;have hne:(p:Int)≠(q:Int):=bne_iff_ne.1 hne;have e2:i64.wrap ((q:Int) - (p:Int))=((q - p:Nat):Int):=W_
  have e3:i64.wrap (i64.wrap ((m:Int)+(q:Int)) - (p:Int))=((m+q - p:Nat):Int):=by
   rw [i64_in ((m:Int)+(q:Int)) O_ O_,i64_in _ O_ O_]; omega
  rw [e2,e3];exact s_lb h O_ O_ hl λw' h=>⟨⟨p,q - p,rfl,rfl,hp,O_,hpm,O_,h⟩,by show Int.toNat _+Int.toNat _<Int.toNat _+Int.toNat _; omega⟩
 ·have heq:(p:Int)=(q:Int):=bne_eq_false_iff_eq.1 heq;exact s_lb h O_ O_ hl k
theorem s_uc {a b:Nat} {R:WP} (hc:CmH cmp) (h:AmH w0 fr data l w) (h3:b<=l.length) (ha:a<=l.length) (hl:l.length<=1152921504606846976) (k:∀ w',AmH w0 fr data l w'->R w'):C_l data (a:Int) (b:Int) cmp w R:=by
 apply S_k;unfold F_kb;refine⟨λi w'=>∃ p:Nat,i=(p:Int)/\a+1<=p/\p<=l.length+1/\AmH w0 fr data l w',λi _=>l.length+1 - i.toNat,⟨a+1,?_,O_,O_,h⟩,?_⟩
 ·rw [i64_in _ O_ O_]; omega
 clear h;rintro i w1 ⟨p,rfl,hp,hp2,h⟩;unfold F_6;refine⟨λhi=> ?_,λhi=>k w1 h⟩;have hi:=dT hi;have wp:i64.wrap ((p:Int)+1)=((p+1:Nat):Int):=W_;refine⟨λj w'=>∃ q:Nat,j=(q:Int)/\a<=q/\q<=p/\AmH w0 fr data l w',λj _=>j.toNat,⟨p,rfl,O_,O_,h⟩,?_⟩;clear h;rintro j w2 ⟨q,rfl,hq,hq2,h⟩;unfold F_5;intro w3 e3;have h:=h.drew e3
 have out:∀ {A B:Int->WP},(∀ w',AmH w0 fr data l w'->A ((p+1:Nat):Int) w')->∀ w',AmH w0 fr data l w'->F_e data (p:Int) A (q:Int) B false w':=λhA w' h=>by
  unfold F_e;refine⟨N_,λ_=> ?_⟩;rw [wp];exact hA w' h
 have nx:∀ w',AmH w0 fr data l w'->(∃ p':Nat,((p+1:Nat):Int)=(p':Int)/\a+1<=p'/\p'<=l.length+1/\AmH w0 fr data l w')/\l.length+1 - ((p+1:Nat):Int).toNat<l.length+1 - (p:Int).toNat:=λw' h=>⟨⟨p+1,rfl,O_,O_,h⟩,O_⟩
 refine⟨λhgt=> ?_,λ_=>out nx w3 h⟩;have hgt:=dT hgt;have wq:i64.wrap ((q:Int) - 1)=((q - 1:Nat):Int):=W_;rw [wq];refine h.cmpr hc (I:=q) (J:=q - 1) O_ O_ λv w4 h=> ?_;cases hv:decide (v<0) with
 | false=>exact out nx w4 h
 | true =>
  unfold F_e;refine⟨λ_ w5 e5=> ?_,N_⟩;rw [wq];exact(h.drew e5).swp (I:=q) (J:=q - 1) O_ O_ λw' h=>⟨⟨q - 1,rfl,O_,O_,h⟩,M_⟩
theorem s_M (hc:CmH cmp) (hl:l.length<=1152921504606846976):∀(N:Nat) {a m b:Nat} {w:World} {R:WP},b - a<=N->a<m->m<b->b<=l.length->AmH w0 fr data l w->(∀ w',AmH w0 fr data l w'->R w')->C_d data (a:Int) (m:Int) (b:Int) cmp w R
 | 0,a,m,b,w,R,hN,h1,h2,h3,h,k=>by omega
 | N+1,a,m,b,w,R,hN,h1,h2,h3,h,k=>by
  apply S_u;unfold F_gc;have e1:i64.wrap ((m:Int) - (a:Int))=((m - a:Nat):Int):=W_;have e2:i64.wrap ((b:Int) - (m:Int))=((b - m:Nat):Int):=W_;rw [e1,e2];refine⟨λ_=> ?_,λn1=>⟨λ_=> ?_,λn2=> ?_⟩⟩
  ·refine⟨λi j w'=>∃ p q:Nat,i=(p:Int)/\j=(q:Int)/\m<=p/\p<=q/\q<=b/\AmH w0 fr data l w',λi j _=>(j - i).toNat,⟨m,b,rfl,rfl,O_,O_,O_,h⟩,?_⟩;clear h;rintro i j w1 ⟨p,q,rfl,rfl,p1,p2,p3,h⟩;unfold F_Eb;rw [z1b O_];refine⟨λhi w2 hw2=> ?_,λhi=> ?_⟩
   ·have hi:=dT hi;have wc:i64.wrap ((((p+q) / 2:Nat):Int)+1)=(((p+q) / 2+1:Nat):Int):=W_;rw [wc];exact(h.drew hw2).cmpr hc (I:=(p+q) / 2) (J:=a) O_ O_ λv w3 h=>⟨λ_=>⟨⟨_,q,rfl,rfl,O_,O_,p3,h⟩,M_⟩,λ_=>⟨⟨p,_,rfl,rfl,p1,O_,O_,h⟩,M_⟩⟩
   ·have wi:i64.wrap ((p:Int) - 1)=((p - 1:Nat):Int):=W_;refine⟨λk_ w'=>∃ r:Nat,k_=(r:Int)/\AmH w0 fr data l w',λk_ _=>p - k_.toNat,⟨a,rfl,h⟩,?_⟩;rintro k_ w2 ⟨r,rfl,h⟩;unfold F_Db;rw [wi];refine⟨λhr w3 hw3=> ?_,λ_=>k w2 h⟩;have hr:=dT hr;have wr:i64.wrap ((r:Int)+1)=((r+1:Nat):Int):=W_;rw [wr];exact(h.drew hw3).swp (I:=r) (J:=r+1) O_ O_ λw' h=>⟨⟨r+1,rfl,h⟩,L_⟩
  ·refine⟨λi j w'=>∃ p q:Nat,i=(p:Int)/\j=(q:Int)/\a<=p/\p<=q/\q<=m/\AmH w0 fr data l w',λi j _=>(j - i).toNat,⟨a,m,rfl,rfl,O_,O_,O_,h⟩,?_⟩;clear h;rintro i j w1 ⟨p,q,rfl,rfl,p1,p2,p3,h⟩;unfold F_Gb;rw [z1b O_];refine⟨λhi w2 hw2=> ?_,λhi=> ?_⟩
   ·have hi:=dT hi;have wc:i64.wrap ((((p+q) / 2:Nat):Int)+1)=(((p+q) / 2+1:Nat):Int):=W_;rw [wc];exact(h.drew hw2).cmpr hc (I:=m) (J:=(p+q) / 2) O_ O_ λv w3 h=>⟨λ_=>⟨⟨_,q,rfl,rfl,O_,O_,p3,h⟩,M_⟩,λ_=>⟨⟨p,_,rfl,rfl,p1,O_,O_,h⟩,M_⟩⟩
   ·refine⟨λk_ w'=>∃ r:Nat,k_=(r:Int)/\r<=m/\AmH w0 fr data l w',λk_ _=>k_.toNat,⟨m,rfl,O_,h⟩,?_⟩;rintro k_ w2 ⟨r,rfl,hrm,h⟩;unfold F_Fb;refine⟨λhr w3 hw3=> ?_,λ_=>k w2 h⟩;have hr:=dT hr;have wr:i64.wrap ((r:Int) - 1)=((r - 1:Nat):Int):=W_;rw [wr];exact(h.drew hw3).swp (I:=r) (J:=r - 1) O_ O_ λw' h=>⟨⟨r - 1,rfl,O_,h⟩,M_⟩
  ·have n1:m - a≠1:=λe=>by rw [e] at n1; cases n1
   have n2:b - m≠1:=λe=>by rw [e] at n2; cases n2
   have eh:=z1b (i:=a) (j:=b) O_;obtain⟨c,hcd⟩:∃ c,(a+b) / 2=c:=⟨_,rfl⟩
   rw [hcd] at eh;have en:i64.wrap ((c:Int)+(m:Int))=((c+m:Nat):Int):=W_
   have main:∀ {s0 r0:Nat} {w:World},a<=s0->s0<=r0->r0<=m->c+m<=b+s0->r0<=c\/r0=m/\m<=c->AmH w0 fr data l w->F_w data (a:Int) (m:Int) (b:Int) cmp R (s0:Int) (r0:Int) w:=λ{s0 r0 w} q1 q2 q3 q4 q5 h=>by
    unfold F_w;refine⟨λi j w'=>∃ p q:Nat,i=(p:Int)/\j=(q:Int)/\s0<=p/\p<=q/\q<=r0/\AmH w0 fr data l w',λi j _=>(j - i).toNat,⟨s0,r0,rfl,rfl,O_,O_,O_,h⟩,?_⟩;clear h;rintro i j w1 ⟨p,q,rfl,rfl,p1,p2,p3,h⟩;unfold F_Hb;rw [eh,en,z1b (i:=p) (j:=q) O_];have ee:i64.wrap (((c+m:Nat):Int) - (p:Int))=((c+m - p:Nat):Int):=W_;rw [ee];refine⟨λhi w2 hw2=> ?_,λhi=> ?_⟩
    ·have hi:=dT hi;have wc:i64.wrap ((((p+q) / 2:Nat):Int)+1)=(((p+q) / 2+1:Nat):Int):=W_
     have wd:i64.wrap (i64.wrap (((c+m:Nat):Int) - 1) - (((p+q) / 2:Nat):Int))=((c+m - 1 - (p+q) / 2:Nat):Int):=by
      rw [i64_in (((c+m:Nat):Int) - 1) O_ O_,i64_in _ O_ O_]; omega
     rw [wc,wd];exact(h.drew hw2).cmpr hc (I:=c+m - 1 - (p+q) / 2) (J:=(p+q) / 2) O_ O_ λv w3 h=>⟨λ_=>⟨⟨_,q,rfl,rfl,O_,O_,p3,h⟩,M_⟩,λ_=>⟨⟨p,_,rfl,rfl,p1,O_,O_,h⟩,M_⟩⟩
    ·have k7:∀ w',AmH w0 fr data l w'->F_u data (a:Int) (m:Int) (b:Int) cmp R (p:Int) w':=λw' h=>by
       unfold F_u;rw [eh,en,ee];refine⟨λhh=> ?_,λ_=>k w' h⟩;simp only [aD,decide_eq_true_eq] at hh;exact s_M hc hl N O_ O_ O_ h3 h k
     have k6:∀ w',AmH w0 fr data l w'->F_v data (a:Int) (m:Int) (b:Int) cmp R (p:Int) w':=λw' h=>by
      unfold F_v;rw [eh];refine⟨λhh=> ?_,λ_=>k7 w' h⟩;simp only [aD,decide_eq_true_eq] at hh;exact s_M hc hl N O_ O_ O_ O_ h k7
     refine⟨λhh=> ?_,λ_=>k6 w1 h⟩;simp only [aD,decide_eq_true_eq] at hh;exact s_td h O_ O_ O_ hl k6
   rw [eh,en];refine⟨λhh=> ?_,λhh=> ?_⟩
   ·have hh:=dT hh;have e5:i64.wrap (((c+m:Nat):Int) - (b:Int))=((c+m - b:Nat):Int):=W_;rw [e5];exact main O_ O_ O_ O_ (.inl O_) h
   ·have hh:=dF hh;exact main O_ O_ O_ O_ (.inr ⟨rfl,O_⟩) h
theorem s_Ec {R:WP} (hc:CmH cmp) (h:AmH w0 fr data l w) (hl:l.length<=1125899906842624) (k:∀ w',AmH w0 fr data l w'->R w'):C_h data cmp w R:=by
 apply S_h;unfold F_8;apply S_A;unfold F_Ac;have hdl:=h.len;rw [hdl];refine⟨λi j w'=>∃ p:Nat,i=(p:Int)/\j=((p+20:Nat):Int)/\p<=l.length/\AmH w0 fr data l w',λi j _=>l.length - i.toNat,⟨0,rfl,rfl,O_,h⟩,?_⟩;clear h;rintro i j w1 ⟨p,rfl,rfl,hp,h⟩;unfold F_6b;refine⟨λhi=> ?_,λhi=> ?_⟩
 ·have hi:=dT hi;have wb:i64.wrap (((p+20:Nat):Int)+20)=((p+20+20:Nat):Int):=W_;rw [wb];exact s_uc hc h O_ O_ O_ λw' h=>⟨⟨p+20,rfl,rfl,O_,h⟩,L_⟩
 refine s_uc hc h O_ O_ O_ λw2 h=> ?_;refine⟨λs w'=>∃ b:Nat,s=(b:Int)/\1<=b/\b<=2*l.length+20/\AmH w0 fr data l w',λs _=>l.length - s.toNat,⟨20,rfl,O_,O_,h⟩,?_⟩;clear h;rintro s w3 ⟨b,rfl,hb,hb2,h⟩;unfold F_5b;refine⟨λhi=> ?_,λhi=>k w3 h⟩;have hi:=dT hi;have w2b:i64.wrap (2*(b:Int))=((2*b:Nat):Int):=W_;have wb2:i64.wrap ((b:Int)*2)=((2*b:Nat):Int):=W_;rw [w2b];refine⟨λi j w'=>∃ p:Nat,i=(p:Int)/\j=((p+2*b:Nat):Int)/\p<=l.length/\AmH w0 fr data l w',λi j _=>l.length - i.toNat,⟨0,rfl,by simp,O_,h⟩,?_⟩;clear h;rintro i j w4 ⟨p,rfl,rfl,hp,h⟩;unfold F_4b;have wm:i64.wrap ((p:Int)+(b:Int))=((p+b:Nat):Int):=W_;have wj:i64.wrap (((p+2*b:Nat):Int)+((2*b:Nat):Int))=((p+2*b+2*b:Nat):Int):=W_;rw [wm,w2b,wj]
 have k3:∀ {A:Int->WP},(∀ w',AmH w0 fr data l w'->A ((2*b:Nat):Int) w')->∀ w',AmH w0 fr data l w'->F_A (b:Int) A w':=λhA w' h=>by
  unfold F_A;rw [wb2];exact hA w' h
 have nx:∀ w',AmH w0 fr data l w'->(∃ b':Nat,((2*b:Nat):Int)=(b':Int)/\1<=b'/\b'<=2*l.length+20/\AmH w0 fr data l w')/\l.length - ((2*b:Nat):Int).toNat<l.length - (b:Int).toNat:=λw' h=>⟨⟨2*b,rfl,O_,O_,h⟩,O_⟩
 refine⟨λhj=> ?_,λhj=>⟨λhm=> ?_,λhm=>k3 nx w4 h⟩⟩
 ·have hj:=dT hj;exact s_M hc O_ _ (bC _) O_ O_ O_ h λw' h=>⟨⟨p+2*b,rfl,rfl,O_,h⟩,L_⟩
 ·have hj:=dF hj;have hm:=dT hm;exact s_M hc O_ _ (bC _) O_ O_ O_ h (k3 nx)
end
section
variable {w0:Base} {w:World} {fr:List zb} {data:Slc} {l:List T_e} {cmp:Value}
def AmE (w0:Base) (fr:List zb) (data:Slc) (l:List T_e) (w:World):Prop:=∃(l':List T_e) (d:List zb),l'.Perm l/\RowC 2 data (l'.flatMap entT) d/\St w0 (d++fr) w
def CmE (cmp:Value):Prop:=∀(x y:T_e) (w:World),zw (P:=Tryz.prog) cmp #[Value.agg (entT x).toArray,Value.agg (entT y).toArray] w λe' w'=>∃ v:Int,e'=Ending.returned (Vi v)/\Ext w w'
theorem AmE.keep {w':World} (h:AmE w0 fr data l w) (e:Ext w w'):AmE w0 fr data l w':=by
 obtain⟨l',d,p,r,st⟩:=h;exact⟨l',d,p,r,st.keep e⟩
theorem AmE.drew {w':World} (h:AmE w0 fr data l w) (e:∃ k,w'=w.drewN k):AmE w0 fr data l w':=h.keep (Qt.ext e)
theorem AmE.len (h:AmE w0 fr data l w):data.len=l.length:=by
 obtain⟨l',d,p,r,st⟩:=h;have:=r.len;rw [zc (sz:=2) (λ_=>rfl)] at this;have:=p.length_eq;omega
theorem AmE.cmpr (h:AmE w0 fr data l w) (hc:CmE cmp) {I J:Nat} (hI:I<l.length) (hJ:J<l.length) {X:Int->WP} (hX:∀ v w',AmE w0 fr data l w'->X v w') :
    IsAt data.ptr/\(0<=(I:Int)/\(I:Int)<((data.len:Nat):Int)/\∃ v:T_e,zf w (pblk data.ptr) (poff data.ptr+(I:Int).toNat*2) (entT v)/\(IsAt data.ptr/\(0<=(J:Int)/\(J:Int)<((data.len:Nat):Int)/\∃ u:T_e,zf w (pblk data.ptr) (poff data.ptr+(J:Int).toNat*2) (entT u) /\
     zw (P:=Tryz.prog) cmp #[Value.agg (entT v).toArray,Value.agg (entT u).toArray] w (λe' w'=>∃ x:Int,e'=Ending.returned (Vi x)/\X x w')))):=by
 have hl:=h.len;have h':=h;obtain⟨l',d,p,r,st⟩:=h;have hpl:=p.length_eq;obtain⟨a,v,_,c1⟩:=zj.getN (r.src st) (λ_=>rfl) D_ (i:=(I:Int)) O_ O_;obtain⟨_,u,_,c2⟩:=zj.getN (r.src st) (λ_=>rfl) D_ (i:=(J:Int)) O_ O_;refine⟨a,O_,O_,v,c1,a,O_,O_,u,c2,zw.mono (hc v u w) ?_⟩;rintro e' w' ⟨x,rfl,e⟩;exact⟨x,rfl,hX x w' (h'.keep e)⟩
theorem AmE.swp (h:AmE w0 fr data l w) {I J:Nat} (hI:I<l.length) (hJ:J<l.length) {X:WP} (hX:∀ w',AmE w0 fr data l w'->X w') :
    IsAt data.ptr/\0<=(J:Int)/\(J:Int)<((data.len:Nat):Int)/\∃ v:T_e,zf w (pblk data.ptr) (poff data.ptr+(J:Int).toNat*2) (entT v)/\IsAt data.ptr/\0<=(I:Int)/\(I:Int)<((data.len:Nat):Int)/\∃ u:T_e,zf w (pblk data.ptr) (poff data.ptr+(I:Int).toNat*2) (entT u) /\
     IsAt data.ptr/\0<=(I:Int)/\(I:Int)<((data.len:Nat):Int)/\zr w (pblk data.ptr) (poff data.ptr+(I:Int).toNat*2) 2/\∀ w1,w1=World.puts (pblk data.ptr) (poff data.ptr+(I:Int).toNat*2) (entT v) w ->
      IsAt data.ptr/\0<=(J:Int)/\(J:Int)<((data.len:Nat):Int)/\zr w1 (pblk data.ptr) (poff data.ptr+(J:Int).toNat*2) 2/\∀ w2,w2=World.puts (pblk data.ptr) (poff data.ptr+(J:Int).toNat*2) (entT u) w1->X w2:=by
 have hl:=h.len;obtain⟨l',d,p,r,st⟩:=h;have hpl:=p.length_eq;obtain⟨a,v,hv,c1⟩:=zj.getN (r.src st) (λ_=>rfl) D_ (i:=(J:Int)) O_ O_;obtain⟨_,u,hu,c2⟩:=zj.getN (r.src st) (λ_=>rfl) D_ (i:=(I:Int)) O_ O_;obtain⟨_,wr1,s1⟩:=RowC.setE (sz:=2) (f:=entT) (i:=I) (λ_=>rfl) D_ r st O_ v;refine⟨a,O_,O_,v,c1,a,O_,O_,u,c2,a,O_,O_,by rw [tN]; exact wr1,λw1 hw1=> ?_⟩;rw [tN] at hw1 hv hu;obtain⟨d1,r1,st1⟩:=s1 w1 hw1;obtain⟨_,wr2,s2⟩:=RowC.setE (sz:=2) (f:=entT) (i:=J) (λ_=>rfl) D_ r1 st1 O_ u;refine⟨a,O_,O_,by rw [tN]; exact wr2,λw2 hw2=> ?_⟩;rw [tN] at hw2;obtain⟨d2,r2,st2⟩:=s2 w2 hw2;obtain⟨i1,rfl⟩:=gSo hv;obtain⟨i2,rfl⟩:=gSo hu;exact hX w2 ⟨_,d2,(List.set_set_perm i2 i1).trans p,r2,st2⟩
theorem s_mb {a b n:Nat} {R:WP} (h:AmE w0 fr data l w) (h1:a+n<=l.length) (h2:b+n<=l.length) (hl:l.length<=1152921504606846976) (k:∀ w',AmE w0 fr data l w'->R w'):C_g data (a:Int) (b:Int) (n:Int) cmp w R:=by
 apply S_o;unfold F_Ub;refine⟨λi w'=>∃ p:Nat,i=(p:Int)/\p<=n/\AmE w0 fr data l w',λi _=>n - i.toNat,⟨0,rfl,O_,h⟩,?_⟩;clear h;rintro i w1 ⟨p,rfl,hp,h⟩;unfold F_nb;refine⟨λhi w2 hw2=> ?_,λhi=>k w1 h⟩;have hi:=dT hi;have wa:i64.wrap ((a:Int)+(p:Int))=((a+p:Nat):Int):=W_;have wb:i64.wrap ((b:Int)+(p:Int))=((b+p:Nat):Int):=W_;have wp:i64.wrap ((p:Int)+1)=((p+1:Nat):Int):=W_;rw [wa,wb,wp];exact(h.drew hw2).swp (I:=a+p) (J:=b+p) O_ O_ λw' h=>⟨⟨p+1,rfl,O_,h⟩,L_⟩
theorem s_ud {a m b:Nat} {R:WP} (h:AmE w0 fr data l w) (h1:a<m) (h2:m<b) (h3:b<=l.length) (hl:l.length<=1152921504606846976) (k:∀ w',AmE w0 fr data l w'->R w'):C_I data (a:Int) (m:Int) (b:Int) cmp w R:=by
 apply S_y;unfold F_rc;refine⟨λi j w'=>∃ p q:Nat,i=(p:Int)/\j=(q:Int)/\0<p/\0<q/\p<=m/\m+q<=l.length/\AmE w0 fr data l w',λi j _=>i.toNat+j.toNat,⟨m - a,b - m,?_,?_,O_,O_,O_,O_,h⟩,?_⟩
 ·rw [i64_in _ O_ O_]; omega
 ·rw [i64_in _ O_ O_]; omega
 clear h;rintro i j w1 ⟨p,q,rfl,rfl,hp,hq,hpm,hqm,h⟩;unfold F_Tb;have e1:i64.wrap ((m:Int) - (p:Int))=((m - p:Nat):Int):=W_;rw [e1];refine⟨λhne=>⟨λhgt=> ?_,λhgt=> ?_⟩,λheq=> ?_⟩
 ·have hgt:=dT hgt;have e2:i64.wrap ((p:Int) - (q:Int))=((p - q:Nat):Int):=W_;rw [e2];exact s_mb h O_ O_ hl λw' h=>⟨⟨p - q,q,rfl,rfl,O_,hq,O_,hqm,h⟩,by show Int.toNat _+Int.toNat _<Int.toNat _+Int.toNat _; omega⟩
 ·have hgt:=dF hgt;have hne:(p:Int)≠(q:Int):=bne_iff_ne.1 hne;have e2:i64.wrap ((q:Int) - (p:Int))=((q - p:Nat):Int):=W_
  have e3:i64.wrap (i64.wrap ((m:Int)+(q:Int)) - (p:Int))=((m+q - p:Nat):Int):=by
   rw [i64_in ((m:Int)+(q:Int)) O_ O_,i64_in _ O_ O_]; omega
  rw [e2,e3];exact s_mb h O_ O_ hl λw' h=>⟨⟨p,q - p,rfl,rfl,hp,O_,hpm,O_,h⟩,by show Int.toNat _+Int.toNat _<Int.toNat _+Int.toNat _; omega⟩
 ·have heq:(p:Int)=(q:Int):=bne_eq_false_iff_eq.1 heq;exact s_mb h O_ O_ hl k
theorem s_vc {a b:Nat} {R:WP} (hc:CmE cmp) (h:AmE w0 fr data l w) (h3:b<=l.length) (ha:a<=l.length) (hl:l.length<=1152921504606846976) (k:∀ w',AmE w0 fr data l w'->R w'):C_j data (a:Int) (b:Int) cmp w R:=by
 apply S_i;unfold F_cb;refine⟨λi w'=>∃ p:Nat,i=(p:Int)/\a+1<=p/\p<=l.length+1/\AmE w0 fr data l w',λi _=>l.length+1 - i.toNat,⟨a+1,?_,O_,O_,h⟩,?_⟩
 ·rw [i64_in _ O_ O_]; omega
 clear h;rintro i w1 ⟨p,rfl,hp,hp2,h⟩;unfold F_Y;refine⟨λhi=> ?_,λhi=>k w1 h⟩;have hi:=dT hi;have wp:i64.wrap ((p:Int)+1)=((p+1:Nat):Int):=W_;refine⟨λj w'=>∃ q:Nat,j=(q:Int)/\a<=q/\q<=p/\AmE w0 fr data l w',λj _=>j.toNat,⟨p,rfl,O_,O_,h⟩,?_⟩;clear h;rintro j w2 ⟨q,rfl,hq,hq2,h⟩;unfold F_X;intro w3 e3;have h:=h.drew e3
 have out:∀ {A B:Int->WP},(∀ w',AmE w0 fr data l w'->A ((p+1:Nat):Int) w')->∀ w',AmE w0 fr data l w'->F_d data (p:Int) A (q:Int) B false w':=λhA w' h=>by
  unfold F_d;refine⟨N_,λ_=> ?_⟩;rw [wp];exact hA w' h
 have nx:∀ w',AmE w0 fr data l w'->(∃ p':Nat,((p+1:Nat):Int)=(p':Int)/\a+1<=p'/\p'<=l.length+1/\AmE w0 fr data l w')/\l.length+1 - ((p+1:Nat):Int).toNat<l.length+1 - (p:Int).toNat:=λw' h=>⟨⟨p+1,rfl,O_,O_,h⟩,O_⟩
 refine⟨λhgt=> ?_,λ_=>out nx w3 h⟩;have hgt:=dT hgt;have wq:i64.wrap ((q:Int) - 1)=((q - 1:Nat):Int):=W_;rw [wq];refine h.cmpr hc (I:=q) (J:=q - 1) O_ O_ λv w4 h=> ?_;cases hv:decide (v<0) with
 | false=>exact out nx w4 h
 | true =>
  unfold F_d;refine⟨λ_ w5 e5=> ?_,N_⟩;rw [wq];exact(h.drew e5).swp (I:=q) (J:=q - 1) O_ O_ λw' h=>⟨⟨q - 1,rfl,O_,O_,h⟩,M_⟩
theorem s_N (hc:CmE cmp) (hl:l.length<=1152921504606846976):∀(N:Nat) {a m b:Nat} {w:World} {R:WP},b - a<=N->a<m->m<b->b<=l.length->AmE w0 fr data l w->(∀ w',AmE w0 fr data l w'->R w')->C_c data (a:Int) (m:Int) (b:Int) cmp w R
 | 0,a,m,b,w,R,hN,h1,h2,h3,h,k=>by omega
 | N+1,a,m,b,w,R,hN,h1,h2,h3,h,k=>by
  apply S_q;unfold F_7b;have e1:i64.wrap ((m:Int) - (a:Int))=((m - a:Nat):Int):=W_;have e2:i64.wrap ((b:Int) - (m:Int))=((b - m:Nat):Int):=W_;rw [e1,e2];refine⟨λ_=> ?_,λn1=>⟨λ_=> ?_,λn2=> ?_⟩⟩
  ·refine⟨λi j w'=>∃ p q:Nat,i=(p:Int)/\j=(q:Int)/\m<=p/\p<=q/\q<=b/\AmE w0 fr data l w',λi j _=>(j - i).toNat,⟨m,b,rfl,rfl,O_,O_,O_,h⟩,?_⟩;clear h;rintro i j w1 ⟨p,q,rfl,rfl,p1,p2,p3,h⟩;unfold F_ub;rw [z1b O_];refine⟨λhi w2 hw2=> ?_,λhi=> ?_⟩
   ·have hi:=dT hi;have wc:i64.wrap ((((p+q) / 2:Nat):Int)+1)=(((p+q) / 2+1:Nat):Int):=W_;rw [wc];exact(h.drew hw2).cmpr hc (I:=(p+q) / 2) (J:=a) O_ O_ λv w3 h=>⟨λ_=>⟨⟨_,q,rfl,rfl,O_,O_,p3,h⟩,M_⟩,λ_=>⟨⟨p,_,rfl,rfl,p1,O_,O_,h⟩,M_⟩⟩
   ·have wi:i64.wrap ((p:Int) - 1)=((p - 1:Nat):Int):=W_;refine⟨λk_ w'=>∃ r:Nat,k_=(r:Int)/\AmE w0 fr data l w',λk_ _=>p - k_.toNat,⟨a,rfl,h⟩,?_⟩;rintro k_ w2 ⟨r,rfl,h⟩;unfold F_tb;rw [wi];refine⟨λhr w3 hw3=> ?_,λ_=>k w2 h⟩;have hr:=dT hr;have wr:i64.wrap ((r:Int)+1)=((r+1:Nat):Int):=W_;rw [wr];exact(h.drew hw3).swp (I:=r) (J:=r+1) O_ O_ λw' h=>⟨⟨r+1,rfl,h⟩,L_⟩
  ·refine⟨λi j w'=>∃ p q:Nat,i=(p:Int)/\j=(q:Int)/\a<=p/\p<=q/\q<=m/\AmE w0 fr data l w',λi j _=>(j - i).toNat,⟨a,m,rfl,rfl,O_,O_,O_,h⟩,?_⟩;clear h;rintro i j w1 ⟨p,q,rfl,rfl,p1,p2,p3,h⟩;unfold F_wb;rw [z1b O_];refine⟨λhi w2 hw2=> ?_,λhi=> ?_⟩
   ·have hi:=dT hi;have wc:i64.wrap ((((p+q) / 2:Nat):Int)+1)=(((p+q) / 2+1:Nat):Int):=W_;rw [wc];exact(h.drew hw2).cmpr hc (I:=m) (J:=(p+q) / 2) O_ O_ λv w3 h=>⟨λ_=>⟨⟨_,q,rfl,rfl,O_,O_,p3,h⟩,M_⟩,λ_=>⟨⟨p,_,rfl,rfl,p1,O_,O_,h⟩,M_⟩⟩
   ·refine⟨λk_ w'=>∃ r:Nat,k_=(r:Int)/\r<=m/\AmE w0 fr data l w',λk_ _=>k_.toNat,⟨m,rfl,O_,h⟩,?_⟩;rintro k_ w2 ⟨r,rfl,hrm,h⟩;unfold F_vb;refine⟨λhr w3 hw3=> ?_,λ_=>k w2 h⟩;have hr:=dT hr;have wr:i64.wrap ((r:Int) - 1)=((r - 1:Nat):Int):=W_;rw [wr];exact(h.drew hw3).swp (I:=r) (J:=r - 1) O_ O_ λw' h=>⟨⟨r - 1,rfl,O_,h⟩,M_⟩
  ·have n1:m - a≠1:=λe=>by rw [e] at n1; cases n1
   have n2:b - m≠1:=λe=>by rw [e] at n2; cases n2
   have eh:=z1b (i:=a) (j:=b) O_;obtain⟨c,hcd⟩:∃ c,(a+b) / 2=c:=⟨_,rfl⟩
   rw [hcd] at eh;have en:i64.wrap ((c:Int)+(m:Int))=((c+m:Nat):Int):=W_
   have main:∀ {s0 r0:Nat} {w:World},a<=s0->s0<=r0->r0<=m->c+m<=b+s0->r0<=c\/r0=m/\m<=c->AmE w0 fr data l w->F_r data (a:Int) (m:Int) (b:Int) cmp R (s0:Int) (r0:Int) w:=λ{s0 r0 w} q1 q2 q3 q4 q5 h=>by
    unfold F_r;refine⟨λi j w'=>∃ p q:Nat,i=(p:Int)/\j=(q:Int)/\s0<=p/\p<=q/\q<=r0/\AmE w0 fr data l w',λi j _=>(j - i).toNat,⟨s0,r0,rfl,rfl,O_,O_,O_,h⟩,?_⟩;clear h;rintro i j w1 ⟨p,q,rfl,rfl,p1,p2,p3,h⟩;unfold F_xb;rw [eh,en,z1b (i:=p) (j:=q) O_];have ee:i64.wrap (((c+m:Nat):Int) - (p:Int))=((c+m - p:Nat):Int):=W_;rw [ee];refine⟨λhi w2 hw2=> ?_,λhi=> ?_⟩
    ·have hi:=dT hi;have wc:i64.wrap ((((p+q) / 2:Nat):Int)+1)=(((p+q) / 2+1:Nat):Int):=W_
     have wd:i64.wrap (i64.wrap (((c+m:Nat):Int) - 1) - (((p+q) / 2:Nat):Int))=((c+m - 1 - (p+q) / 2:Nat):Int):=by
      rw [i64_in (((c+m:Nat):Int) - 1) O_ O_,i64_in _ O_ O_]; omega
     rw [wc,wd];exact(h.drew hw2).cmpr hc (I:=c+m - 1 - (p+q) / 2) (J:=(p+q) / 2) O_ O_ λv w3 h=>⟨λ_=>⟨⟨_,q,rfl,rfl,O_,O_,p3,h⟩,M_⟩,λ_=>⟨⟨p,_,rfl,rfl,p1,O_,O_,h⟩,M_⟩⟩
    ·have k7:∀ w',AmE w0 fr data l w'->F_p data (a:Int) (m:Int) (b:Int) cmp R (p:Int) w':=λw' h=>by
       unfold F_p;rw [eh,en,ee];refine⟨λhh=> ?_,λ_=>k w' h⟩;simp only [aD,decide_eq_true_eq] at hh;exact s_N hc hl N O_ O_ O_ h3 h k
     have k6:∀ w',AmE w0 fr data l w'->F_q data (a:Int) (m:Int) (b:Int) cmp R (p:Int) w':=λw' h=>by
      unfold F_q;rw [eh];refine⟨λhh=> ?_,λ_=>k7 w' h⟩;simp only [aD,decide_eq_true_eq] at hh;exact s_N hc hl N O_ O_ O_ O_ h k7
     refine⟨λhh=> ?_,λ_=>k6 w1 h⟩;simp only [aD,decide_eq_true_eq] at hh;exact s_ud h O_ O_ O_ hl k6
   rw [eh,en];refine⟨λhh=> ?_,λhh=> ?_⟩
   ·have hh:=dT hh;have e5:i64.wrap (((c+m:Nat):Int) - (b:Int))=((c+m - b:Nat):Int):=W_;rw [e5];exact main O_ O_ O_ O_ (.inl O_) h
   ·have hh:=dF hh;exact main O_ O_ O_ O_ (.inr ⟨rfl,O_⟩) h
theorem s_Fc {R:WP} (hc:CmE cmp) (h:AmE w0 fr data l w) (hl:l.length<=1125899906842624) (k:∀ w',AmE w0 fr data l w'->R w'):C_n data cmp w R:=by
 apply S_f;unfold F_V;apply S_x;unfold F_qc;have hdl:=h.len;rw [hdl];refine⟨λi j w'=>∃ p:Nat,i=(p:Int)/\j=((p+20:Nat):Int)/\p<=l.length/\AmE w0 fr data l w',λi j _=>l.length - i.toNat,⟨0,rfl,rfl,O_,h⟩,?_⟩;clear h;rintro i j w1 ⟨p,rfl,rfl,hp,h⟩;unfold F_Sb;refine⟨λhi=> ?_,λhi=> ?_⟩
 ·have hi:=dT hi;have wb:i64.wrap (((p+20:Nat):Int)+20)=((p+20+20:Nat):Int):=W_;rw [wb];exact s_vc hc h O_ O_ O_ λw' h=>⟨⟨p+20,rfl,rfl,O_,h⟩,L_⟩
 refine s_vc hc h O_ O_ O_ λw2 h=> ?_;refine⟨λs w'=>∃ b:Nat,s=(b:Int)/\1<=b/\b<=2*l.length+20/\AmE w0 fr data l w',λs _=>l.length - s.toNat,⟨20,rfl,O_,O_,h⟩,?_⟩;clear h;rintro s w3 ⟨b,rfl,hb,hb2,h⟩;unfold F_Rb;refine⟨λhi=> ?_,λhi=>k w3 h⟩;have hi:=dT hi;have w2b:i64.wrap (2*(b:Int))=((2*b:Nat):Int):=W_;have wb2:i64.wrap ((b:Int)*2)=((2*b:Nat):Int):=W_;rw [w2b];refine⟨λi j w'=>∃ p:Nat,i=(p:Int)/\j=((p+2*b:Nat):Int)/\p<=l.length/\AmE w0 fr data l w',λi j _=>l.length - i.toNat,⟨0,rfl,by simp,O_,h⟩,?_⟩;clear h;rintro i j w4 ⟨p,rfl,rfl,hp,h⟩;unfold F_Qb;have wm:i64.wrap ((p:Int)+(b:Int))=((p+b:Nat):Int):=W_;have wj:i64.wrap (((p+2*b:Nat):Int)+((2*b:Nat):Int))=((p+2*b+2*b:Nat):Int):=W_;rw [wm,w2b,wj]
 have k3:∀ {A:Int->WP},(∀ w',AmE w0 fr data l w'->A ((2*b:Nat):Int) w')->∀ w',AmE w0 fr data l w'->F_z (b:Int) A w':=λhA w' h=>by
  unfold F_z;rw [wb2];exact hA w' h
 have nx:∀ w',AmE w0 fr data l w'->(∃ b':Nat,((2*b:Nat):Int)=(b':Int)/\1<=b'/\b'<=2*l.length+20/\AmE w0 fr data l w')/\l.length - ((2*b:Nat):Int).toNat<l.length - (b:Int).toNat:=λw' h=>⟨⟨2*b,rfl,O_,O_,h⟩,O_⟩
 refine⟨λhj=> ?_,λhj=>⟨λhm=> ?_,λhm=>k3 nx w4 h⟩⟩
 ·have hj:=dT hj;exact s_N hc O_ _ (bC _) O_ O_ O_ h λw' h=>⟨⟨p+2*b,rfl,rfl,O_,h⟩,L_⟩
 ·have hj:=dF hj;have hm:=dT hm;exact s_N hc O_ _ (bC _) O_ O_ O_ h (k3 nx)
end
open Go Go.Shelf Go.RowKit Go.Lib Go.Sort
set_option maxHeartbeats 1000000
def Tryz.sortH_ren:Go.Shelf.Ren:=⟨fun|6=>31|15=>53|14=>52|28=>88|29=>89|20=>80|21=>81|22=>82|23=>83|24=>84|25=>85|26=>86|27=>87|46=>108|47=>109|48=>110|49=>111|50=>112|57=>139|n=>n,fun|22=>57|24=>89|25=>108|3=>3|39=>174|0=>0|53=>233|55=>160|4=>4|46=>227|45=>226|50=>210|5=>5|9=>9|66=>258|70=>262|76=>282|77=>283|n=>n,fun|n=>n⟩
theorem Tryz.sortH:Go.Proofs.SlLaysF0.n6 Tryz.prog Tryz.sortH_ren:={mixed:=K_,f6:=⟨Tryz.f31.name,D_,Lq Tryz.func31⟩,f14:=⟨Tryz.f52.name,D_,Lq Tryz.func52⟩,f15:=Lq Tryz.func53,f20:=⟨Tryz.f80.name,D_,Lq Tryz.func80⟩,f21:=⟨Tryz.f81.name,D_,Lq Tryz.func81⟩,f22:=⟨Tryz.f82.name,D_,Lq Tryz.func82⟩,f23:=⟨Tryz.f83.name,D_,Lq Tryz.func83⟩,f24:=⟨Tryz.f84.name,D_,Lq Tryz.func84⟩,f25:=⟨Tryz.f85.name,D_,Lq Tryz.func85⟩,f26:=⟨Tryz.f86.name,D_,Lq Tryz.func86⟩,f27:=⟨Tryz.f87.name,D_,Lq Tryz.func87⟩,f28:=Lq Tryz.func88,f29:=Lq Tryz.func89,f46:=⟨Tryz.f108.name,D_,Lq Tryz.func108⟩,f47:=Lq Tryz.func109,f48:=Lq Tryz.func110,f49:=⟨Tryz.f111.name,D_,Lq Tryz.func111⟩,f50:=⟨Tryz.f112.name,D_,Lq Tryz.func112⟩,f57:=⟨Tryz.f139.name,D_,Lq Tryz.func139⟩,t0:=Tryz.underlying0,a0:=Tryz.isAgg0,z0:=Tryz.sizeOf0,v0:=Tryz.zeroValue0,t3:=Tryz.underlying3,a3:=Tryz.isAgg3,z3:=Tryz.sizeOf3,v3:=Tryz.zeroValue3,t4:=Tryz.underlying4,a4:=Tryz.isAgg4,z4:=Tryz.sizeOf4,v4:=Tryz.zeroValue4,t5:=Tryz.underlying5,a5:=Tryz.isAgg5,z5:=Tryz.sizeOf5,v5:=Tryz.zeroValue5,t9:=Tryz.underlying9,a9:=Tryz.isAgg9,z9:=Tryz.sizeOf9,v9:=Tryz.zeroValue9,t22:=Tryz.underlying57,a22:=Tryz.isAgg57,z22:=Tryz.sizeOf57,v22:=Tryz.zeroValue57,t25:=Tryz.underlying108,a25:=Tryz.isAgg108,z25:=Tryz.sizeOf108,v25:=Tryz.zeroValue108,t39:=Tryz.underlying174,a39:=Tryz.isAgg174,z39:=Tryz.sizeOf174,v39:=Tryz.zeroValue174,t45:=Tryz.underlying226,a45:=Tryz.isAgg226,z45:=Tryz.sizeOf226,v45:=Tryz.zeroValue226,t46:=Tryz.underlying227,a46:=Tryz.isAgg227,z46:=Tryz.sizeOf227,v46:=Tryz.zeroValue227,t50:=Tryz.underlying210,a50:=Tryz.isAgg210,z50:=Tryz.sizeOf210,v50:=Tryz.zeroValue210,t53:=Tryz.underlying233,a53:=Tryz.isAgg233,z53:=Tryz.sizeOf233,v53:=Tryz.zeroValue233,t55:=Tryz.underlying160,a55:=Tryz.isAgg160,z55:=Tryz.sizeOf160,v55:=Tryz.zeroValue160,t66:=Tryz.underlying258,a66:=Tryz.isAgg258,z66:=Tryz.sizeOf258,v66:=Tryz.zeroValue258,t70:=Tryz.underlying262,a70:=Tryz.isAgg262,z70:=Tryz.sizeOf262,v70:=Tryz.zeroValue262,t76:=Tryz.underlying282,a76:=Tryz.isAgg282,z76:=Tryz.sizeOf282,v76:=Tryz.zeroValue282,t77:=Tryz.underlying283,a77:=Tryz.isAgg283,z77:=Tryz.sizeOf283,v77:=Tryz.zeroValue283}
def Tryz.laysCompare_ren:Go.Shelf.Ren:=⟨fun|106=>33|213=>54|265=>90|n=>n,fun|9=>9|3=>3|n=>n,fun|n=>n⟩
theorem Tryz.laysCompare:Go.Proofs.Lays.n106 Tryz.prog Tryz.laysCompare_ren:={mixed:=K_,f106:=Lq Tryz.func33,f213:=Lq Tryz.func54,f265:=Lq Tryz.func90,t3:=Tryz.underlying3,a3:=Tryz.isAgg3,z3:=Tryz.sizeOf3,v3:=Tryz.zeroValue3,t9:=Tryz.underlying9,a9:=Tryz.isAgg9,z9:=Tryz.sizeOf9,v9:=Tryz.zeroValue9}
instance:Inhabited (ByteArray×Slc):=⟨(Be,⟨none,0,0⟩)⟩
abbrev Hs:=ByteArray×Slc
def cfH (x y:Hs):Int:=Lib.compareBytes x.1.data.toList y.1.data.toList
theorem zWj:∀ x y:List UInt8,decide (Lib.compareBytes x y<0)=decide (x<y)
 | [],[]=>by simp [Lib.compareBytes]
 | [],_::_=>by simp [Lib.compareBytes]
 | _::_,[]=>by simp [Lib.compareBytes]
 | a::x,b::y=>by
  unfold Lib.compareBytes;by_cases h1:a<b
  ·simp [h1,fX]
  ·by_cases h2:b<a
   ·have hne:a≠b:=λe=>by subst e; exact h1 h2
    simp [h1,h2,fX,hne]
   ·have he:a=b:=by
      have e1:¬ a.toNat<b.toNat:=h1;have e2:¬ b.toNat<a.toNat:=h2;exact UInt8.toNat_inj.1 O_
    subst he;simp [h1,fX,zWj x y]
theorem zll (x y:Hs):ltOf cfH x y=decide (x.1.data.toList<y.1.data.toList):=zWj _ _
theorem swoH:SWO (ltOf cfH) where
 irrefl x:=by rw [zll]; exact decide_eq_false (List.lt_irrefl _)
 trans x y z h1 h2:=by rw [zll] at *; exact decide_eq_true (List.lt_trans (dT h1) (dT h2))
 ntrans x y z h1 h2:=by
  rw [zll] at *
  have h1:=gH.1 (dF h1);have h2:=gH.1 (dF h2);exact decide_eq_false (gH.2 (List.le_trans h2 h1))
theorem cmpH (x y:Hs) (w:World):Calls Tryz.prog 32 #[.agg (hdC x).toArray,.agg (hdC y).toArray] w λe w'=>e= .returned (.int .i64 (cfH x y))/\∃ q os',w'=Go.Sort.grow (w.drewN q) os':=by
 have key:C_Hb ⟨x.1,x.2⟩ ⟨y.1,y.2⟩ w (λr w'=>r=cfH x y/\∃ q os',w'=Go.Sort.grow (w.drewN q) os'):=by
  apply S_E;unfold F_Sc;intro b1 w1 hb1 hw1 b2 w2 hb2 hw2;have st:=((St.start w).alloc (cs:=hdC x) hb1 hw1).alloc (cs:=hdC y) hb2 hw2;refine⟨x.1,st.cell 1 rfl rfl,y.1,st.cell 0 rfl rfl,?_⟩;refine Calls.mono (Any.strings_Compare Tryz.laysCompare x.1 y.1 w2) ?_;rintro e w' ⟨rfl,rfl⟩;subst hw2;subst hw1;exact⟨_,rfl,rfl,0,_,by rw [alloc_eq_grow,alloc_eq_grow,grow_grow]; rfl⟩
 refine Calls.mono key ?_;rintro e w' ⟨r,rfl,rfl,h⟩;exact⟨rfl,h⟩
theorem zPi:∀(l:List Hs) (t:Nat),t<l.length*2->(l.flatMap hdC)[t]? =some ((hdC l[t / 2]!)[t % 2]!)
 | [],t,h=>by simp at h
 | x::l,0,_=>rfl
 | x::l,1,_=>rfl
 | x::l,t+2,h=>by
  rw [aY,aS (by show 2<=t+2; omega)];have:=zPi l t (by rw [aV] at h; omega);rw [show t+2 - (hdC x).length=t from rfl,this,show(t+2) / 2=t / 2+1 from by omega,show(t+2) % 2=t % 2 from by omega];rfl
theorem z5f (l:List Hs):flatK hdC 2 l.toArray=(l.flatMap hdC).toArray:=by
 have hl:=zc zYb l;refine Array.ext (by simp [hl]) λt h1 h2=> ?_;have ht:t<l.length*2:=by simpa using h1
 have g1:=get_flatK hdC 2 l.toArray t (by simpa using ht);rw [getElem!_pos _ t h1] at g1;rw [g1];have g2:=zPi l t ht;rw [aA O_] at g2;have g2:=aE g2;simp only [List.getElem_toArray];rw [g2];simp
theorem s_hd {W:World} {mp:List (Nat×Obj)} {w:World} {sl:Slc} {hs:List Hs} {bs l:List zb} {R:WP} (ro:RowC 2 sl (hs.flatMap hdC) bs) (st:St ⟨W,mp⟩ (bs++l) w) (hl:sl.len<4611686018427387904)
    (k:∀(hs':List Hs) bs' w',hs'.Perm hs->hs'.Pairwise (λx y=>¬ y.1.data.toList<x.1.data.toList)->RowC 2 sl (hs'.flatMap hdC) bs'->St ⟨W,mp⟩ (bs'++l) w'->R w'):C_0 sl (Value.func (.func 32) #[] #[]) w R:=by
 have hlen:=ro.len;rw [zc zYb] at hlen;have hlen2:hs.length=sl.len:=O_;clear hlen;rcases ro with ⟨hp,h0,hc,hx,rfl⟩ | ⟨b,pre,rest,suf,hp,rfl,h1,h2,h3⟩
 ·obtain⟨sp,sn,sc⟩:=sl;simp only at hp h0 hc hlen2;subst hp; subst h0; subst hc;have hs0:hs=[]:=aX hlen2;subst hs0;refine(AnyF.slices_SortFunc_none Tryz.sortH none 0 _ w).mono ?_;rintro e w' ⟨rfl,rfl⟩;exact⟨rfl,k [] [] _ (gQ _) List.Pairwise.nil (.inl ⟨rfl,rfl,rfl,rfl,rfl⟩) st⟩
 ·obtain⟨sp,sn,sc⟩:=sl;simp only at hp hlen2 h3 hl h2 h1;subst hp; subst hlen2;have hfl:=zc zYb hs
  have hH:HoldsK hdC 2 w b pre.length hs.toArray:=by
   unfold HoldsK;rw [z5f];intro j hj;have hj:j<(hs.flatMap hdC).length:=by simpa using hj
   refine⟨?_,(st.get 0 rfl).unfrozen (by simp only [aB]; omega)⟩;refine st.cell 0 rfl ?_;rw [aS O_,show pre.length+j - pre.length=j from by omega,aO hj,aA hj];rw [getElem!_pos _ j (by simpa using hj)];simp
  have hcon:=AnyQ.slices_SortFunc Tryz.sortH 2 Tryz.isAgg89 Tryz.sizeOf89 hdC zYb (λx v hv=>by simp [hdC] at hv; rcases hv with rfl | rfl <;> rfl) cfH swoH 32 #[] b pre.length sc hs.toArray w (enters_of Tryz.func32 K_ rfl) (λ_ _ _ _ x y=>cmpH x y _) hH (st.lt 0 rfl) (by simpa using hl);have hsz:hs.toArray.size=hs.length:=by simp
  rw [hsz] at hcon;refine hcon.mono ?_;rintro e w' ⟨rfl,d',n,os,⟨p1,_,p3⟩,hsort,rfl⟩;refine⟨rfl,?_⟩;rw [hsz] at p1
  have pp:d'.toList.Perm hs:=by
   have e1:d'.extract 0 hs.length=d':=by rw [<-p1]; simp
   have e2:hs.toArray.extract 0 hs.length=hs.toArray:=by simp
   rw [e1,e2] at p3;simpa using p3
  have hd:d'=d'.toList.toArray:=by simp
  have hfl':=zc zYb d'.toList;have hdl:d'.toList.length=hs.length:=pp.length_eq
  have hw:sortWorldK hdC 2 w b pre.length n d' os=Go.Sort.grow (World.puts b pre.length (d'.toList.flatMap hdC) (w.drewN n)) os:=by
   unfold sortWorldK putRowK;rw [hd,z5f];have:=putRow_eq_setCells id w b pre.length (flatK hdC 2 hs.toArray) (d'.toList.flatMap hdC) n hH (by rw [size_flatK,hsz,hfl',hdl]);rw [List.map_id] at this;rw [this,zDc]
  rw [hw];have st1:=(st.drew ⟨n,rfl⟩).put0 (o:=pre.length) (vs:=d'.toList.flatMap hdC) rfl;have e1:pre++(hs.flatMap hdC++(rest++suf))=pre++hs.flatMap hdC++(rest++suf):=by simp only [aN]
  rw [e1,zdb _ _ _ _ O_] at st1;refine k d'.toList [(b,pre++(d'.toList.flatMap hdC++(rest++suf)))] _ pp ?_ (.inr ⟨b,pre,rest,suf,rfl,rfl,by show(d'.toList.flatMap hdC).length=hs.length*2; omega,by show(d'.toList.flatMap hdC).length+rest.length=sc*2; omega,h3⟩) ?_
  ·refine eB.2 λi j hi hj hij=> ?_;have:=hsort i j (bU _) hij O_;rw [zll] at this;have:=dF this;rw [getElem!_pos d' j (by rw [p1]; omega),getElem!_pos d' i (by rw [p1]; omega)] at this;simpa using this
  ·have st2:=st1.keep (zRi _ os);rw [aN] at st2;exact st2
theorem s_2 {a b:ByteArray} {w:World} {R:Int->WP} (k:R (Lib.compareBytes a.data.toList b.data.toList) w):C_Bb a b w R:=by
 refine Calls.mono (Any.strings_Compare Tryz.laysCompare a b w) ?_;rintro e w' ⟨rfl,rfl⟩;exact⟨_,rfl,k⟩
theorem zum:CmH (Value.func (.func 195) #[] #[]):=λx y w=>by
 refine zw.mk (all:=#[Value.agg (hT x).toArray,Value.agg (hT y).toArray]) K_ rfl ?_
 have key:C_Vc x y w (λr w'=>Ext w w'):=by
  apply S_mb;unfold F_Ce;intro b1 w1 hb1 hw1 b2 w2 hb2 hw2;have st:=((St.start w).alloc (cs:=hT x) hb1 hw1).alloc (cs:=hT y) hb2 hw2;exact⟨x.Key,st.cell 1 rfl rfl,y.Key,st.cell 0 rfl rfl,s_2 st.ext⟩
 refine Calls.mono key ?_;rintro e w' ⟨r,rfl,h⟩;exact⟨r,rfl,h⟩
theorem zvm:CmE (Value.func (.func 200) #[] #[]):=λx y w=>by
 refine zw.mk (all:=#[Value.agg (entT x).toArray,Value.agg (entT y).toArray]) K_ rfl ?_
 have key:C_kd x y w (λr w'=>Ext w w'):=by
  apply S_Lc;unfold F_Tf;intro b1 w1 hb1 hw1 b2 w2 hb2 hw2;have st:=((St.start w).alloc (cs:=entT x) hb1 hw1).alloc (cs:=entT y) hb2 hw2;exact⟨x.Key,st.cell 1 rfl rfl,y.Key,st.cell 0 rfl rfl,s_2 st.ext⟩
 refine Calls.mono key ?_;rintro e w' ⟨r,rfl,h⟩;exact⟨r,rfl,h⟩
theorem RowC.none0 {sz:Nat} {s:Slc} {xs:List Value} {bs:List zb} (h:RowC sz s xs bs):RowC sz ⟨s.ptr,0,s.cap⟩ [] bs:=by
 rcases h with ⟨hp,hl,hc,rfl,rfl⟩ | ⟨b,pre,rest,suf,hp,rfl,h1,h2,h3⟩
 ·exact .inl ⟨hp,rfl,hc,rfl,rfl⟩
 ·exact .inr ⟨b,pre,xs++rest,suf,hp,by simp,by simp,by simpa using h2,by show 0<=s.cap; omega⟩
theorem zah:∀(n:Nat),zv (zp n [Vt Be,Vt Be]).toList=true
 | n=>by
  unfold zv;refine bP.2 λv hv=> ?_;simp only [zp,List.mem_flatten,List.mem_replicate] at hv;obtain⟨l,⟨_,rfl⟩,hv⟩:=hv;simp only [aU,gB,or_false] at hv;rcases hv with rfl | rfl <;> rfl
section
variable {w0:Base} {w:World} {fr:List zb}
theorem s_id {n:Nat} {R:Slc->WP} (st:St w0 fr w) (hn:n<=1073741824) (k:∀ s rb w',RowC 2 s [] rb->St w0 (rb++fr) w'->s.len=0->R s w'):C_G ⟨none,0,0⟩ (n:Int) w R:=by
 apply S_t;unfold F_fc;have e0:i64.wrap (((0:Nat):Int) - ((0:Nat):Int))=0:=W_;have e1:i64.wrap ((n:Int) - 0)=(n:Int):=W_;rw [e0,e1];refine⟨λh=>absurd (dT h) O_,λ_=>⟨λhp=> ?_,λhp=> ?_⟩⟩
 ·refine⟨O_,O_,O_,O_,?_⟩;rw [tN];refine RowC.append (s:=⟨none,0,0⟩) (xs:=[]) (bs:=[]) (l:=fr) RowC.nil st (by simp [zp,eL]) (zah n) rfl (by show(0+n)*32<=_; omega) λs' rb w' r st' hl'=> ?_;refine⟨O_,by show((0:Nat):Int)<=_; omega,?_⟩;unfold F_t;exact k _ rb w' r.none0 st' rfl
 ·unfold F_t;exact k _ [] w RowC.nil st rfl
structure LsAt (w:World) (l_:Slc) (ls:List (Slc×List T_e)):Prop where
 tab:zj w l_ 1 (ls.flatMap λp=>[Vs p.1])
 src:∀ p∈ls,zj w p.1 2 (p.2.flatMap entT)
theorem s_Gc {l_:Slc} {ls:List (Slc×List T_e)} {R:Slc->WP} (st:St w0 fr w) (hs:∀ l w',St w0 (l++fr) w'->LsAt w' l_ ls) (hb:(ls.flatMap λp=>p.2).length<=1073741824) (hll:ls.length<=16)
    (k:∀ s rb w',RowC 2 s ((ls.flatMap λp=>p.2).flatMap entT) rb->St w0 (rb++fr) w'->R s w'):C_y l_ w R:=by
 apply S_n;unfold F_Pb;have h0:=hs [] w st
 have hlen:l_.len=ls.length:=by
  have:=h0.tab.1;rw [zc (sz:=1) (λ_=>rfl)] at this; omega
 have pl:∀ p∈ls,p.1.len=p.2.length:=λp hp=>by
  have:=(h0.src p hp).1;rw [zc (sz:=2) (λ_=>rfl)] at this; omega
 have take_le:∀ i,((ls.take i).flatMap λp=>p.2).length<=(ls.flatMap λp=>p.2).length:=λi=>by
  conv=>rhs; rw [<-bM i ls]
  rw [bE,aB]; omega
 have take_s:∀ {i:Nat} {p:Slc×List T_e},ls[i]? =some p->(ls.take (i+1)).flatMap (λp=>p.2)=(ls.take i).flatMap (λp=>p.2)++p.2:=λ{i p} h=>by
  rw [bL,h,bE]; simp
 have at_:∀ {i:Nat} {l:List zb} {w':World},St w0 (l++fr) w'->i<ls.length->IsAt l_.ptr/\∃ p,ls[i]? =some p/\w'.cell? ⟨pblk l_.ptr,poff l_.ptr+i,none⟩=some (Vs p.1):=λ{i l w'} st' hi=>by
  obtain⟨a,p,hp,hc⟩:=zj.getN (hs l w' st').tab (λ_=>rfl) D_ (i:=(i:Int)) O_ O_;rw [tN] at hp hc;rw [aW] at hc;exact⟨a,p,hp,hc.1⟩
 refine⟨λsize i w'=>∃ p:Nat,i=(p:Int)/\p<=ls.length/\size=(((ls.take p).flatMap λp=>p.2).length:Int)/\w'=w,λ_ i _=>ls.length - i.toNat,⟨0,rfl,O_,by simp,rfl⟩,?_⟩;rintro size i w' ⟨p,rfl,hp,rfl,rfl⟩;unfold F_mb;have wp:i64.wrap ((p:Int)+1)=((p+1:Nat):Int):=W_;refine⟨λhi=> ?_,λhi=> ?_⟩
 ·have hi:=dT hi;obtain⟨a,x,hx,hc⟩:=at_ (l:=[]) (i:=p) st O_;have h1:=pl x (mG hx);have h2:=take_le (p+1);have h3:=take_s hx;rw [h3,aB] at h2
  have ws:i64.wrap ((((ls.take p).flatMap λp=>p.2).length:Int)+((x.1.len:Nat):Int))=(((ls.take (p+1)).flatMap λp=>p.2).length:Int):=by
   rw [h3,aB,i64_in _ O_ O_]; omega
  refine⟨a,O_,hi,x.1,by rw [tN]; exact hc,λh=>absurd (dT h) (by rw [ws]; omega),λ_=> ?_⟩;rw [ws,wp];exact⟨⟨p+1,rfl,O_,rfl,rfl⟩,L_⟩
 ·have hi:=dF hi;obtain rfl:p=ls.length:=O_;rw [cU];refine s_id st hb λs rb w1 r st1 hl1=> ?_;refine⟨λns i w'=>∃(p:Nat) (rb:List zb),i=(p:Int)/\p<=ls.length/\RowC 2 ns (((ls.take p).flatMap λp=>p.2).flatMap entT) rb/\ns.len=((ls.take p).flatMap λp=>p.2).length/\St w0 (rb++fr) w',λ_ i _=>ls.length - i.toNat,⟨0,rb,rfl,O_,by simpa using r,by simpa using hl1,st1⟩,?_⟩;rintro ns i w2 ⟨p,rb,rfl,hp2,r,hl2,st2⟩;unfold F_lb;have wp:i64.wrap ((p:Int)+1)=((p+1:Nat):Int):=W_;refine⟨λhi=> ?_,λhi=> ?_⟩
  ·have hi:=dT hi;obtain⟨a,x,hx,hc⟩:=at_ (i:=p) st2 O_;have h1:=pl x (mG hx);have h2:=take_le (p+1);have h3:=take_s hx;rw [h3,aB] at h2;have hsx:=(hs rb w2 st2).src x (mG hx);refine⟨a,O_,hi,x.1,by rw [tN]; exact hc,x.2.flatMap entT,hsx,?_⟩;refine r.append st2 hsx.1 (z5h x.2) rfl O_ λns' rb' w3 r3 st3 hl3=> ?_;rw [wp];refine⟨⟨p+1,rb',rfl,O_,?_,?_,st3⟩,L_⟩
   ·rw [h3,bE]; exact r3
   ·rw [h3,aB,hl3]; omega
  ·have hi:=dF hi;obtain rfl:p=ls.length:=O_;rw [cU] at r;exact k ns rb w2 r st2
theorem s_3 {l_:Slc} {ls:List (Slc×List T_e)} {R:Slc->WP} (st:St w0 fr w) (hs:∀ l w',St w0 (l++fr) w'->LsAt w' l_ ls) (hb:(ls.flatMap λp=>p.2).length<=1073741824) (hll:ls.length<=16)
    (k:∀ s rb (es:List T_e) w',es.length=(ls.flatMap λp=>p.2).length->RowC 2 s (es.flatMap entT) rb->St w0 (rb++fr) w'->R s w'):C_ec l_ w R:=by
 apply S_3c;unfold F_sg;refine s_Gc st hs hb hll λs rb w1 r st1=> ?_;refine s_Fc zvm ⟨_,rb,gQ _,r,st1⟩ O_ λw2 h=> ?_;obtain⟨l',d,p,r2,st2⟩:=h;exact k s d l' w2 p.length_eq r2 st2
end
abbrev hdH (p:Hd×Slc):T_l:=⟨p.1.1,p.2⟩
theorem zap (hs:List Hd) (vsl:List Slc):((hs.zip vsl).flatMap λp=>hdV p.1.1 p.2)=((hs.zip vsl).map hdH).flatMap hT:=by rw [gW]
structure Ans where
 ok:Bool
 es:List Ent
 cnt:Int
 hs:List Hd
structure Ans.Fits (A:Ans) (p:Nat):Prop where
 es:A.es.length<=p*1024
 hs:A.hs.length<=p*1024
 vs:∀ h∈A.hs,h.2.length<=1024
theorem Ans.Fits.up {A:Ans} {p:Nat} (h:A.Fits p):A.Fits (p+1):=⟨cH h.es (bV _ (dN p)),cH h.hs (bV _ (dN p)),h.vs⟩
abbrev anT (a:T_m):List Value:=[Vi a.Code,Vi a.Mark,Vo a.OK,Vs a.Entries,Vi a.Count]
abbrev zAn:T_m:=⟨0,0,false,⟨none,0,0⟩,0⟩
def AnSt (w0:Base) (m:TkM) (G:List zb) (b1:Nat) (p:Nat) (held:Slc) (w:World):Prop :=
 ∃(A:Ans) (s:Slc) (vsl:List Slc) (ec tb vb d:List zb),A.Fits p/\RowC 2 s (A.es.flatMap entT) ec/\RowC 2 held ((A.hs.zip vsl).flatMap λq=>hdV q.1.1 q.2) tb/\zzb InV A.hs vsl vb/\St w0 ((b1,anT ⟨0,m.mark,A.ok,s,A.cnt⟩)::(ec++(tb++(vb++(d++G))))) w
def HdW (pool:List zb) (held:Slc):Prop:=∃ l:List T_l,(∃ rb,RowC 2 held (l.flatMap hT) rb/\∀ c∈rb,c∈pool)/\l.length<=16384/\∀ x∈l,∃ vs,InC pool x.Versions vs/\vs.length<=1024
theorem HdW.nil {pool:List zb}:HdW pool ⟨none,0,0⟩:=⟨[],⟨[],RowC.nil,λc hc=>(by cases hc)⟩,bU _,λx hx=>(by cases hx)⟩
section
variable {w0:Base} {w:World} {fr cs:List zb} {t:OA}
theorem St.blkSrc {b n sz:Nat} {vs:List Value} {l:List zb} (st:St w0 ((b,vs)::l) w) (h:vs.length=n*sz):zj w ⟨some ⟨b,0,none⟩,n,n⟩ sz vs:=(RowC.new (b:=b) (n:=n) (sz:=sz) h).src (l:=l) st
structure z6f (w0:Base) (G:List zb) (sh:Slc) (held:List Hd) (vsl:List Slc):Prop where
 len:vsl.length=held.length
 row:∀ l w',St w0 (l++G) w'->zj w' sh 2 ((held.zip vsl).flatMap λp=>hdV p.1.1 p.2)
 ver:∀(i:Nat) (h:Hd) (v:Slc),held[i]? =some h->vsl[i]? =some v->∀ l w',St w0 (l++G) w'->zj w' v 3 (h.2.flatMap verT)
structure zXj (w0:Base) (G:List zb) (ps:Slc) (reps:List Rp) (sls:List (Slc×Slc)):Prop where
 len:sls.length=reps.length
 row:∀ l w',St w0 (l++G) w'->zj w' ps 5 ((reps.zip sls).flatMap λp=>rpV p.1 p.2)
 ent:∀(i:Nat) (r:Rp) (s:Slc×Slc),reps[i]? =some r->sls[i]? =some s->∀ l w',St w0 (l++G) w'->zj w' s.1 2 (r.ents.flatMap entT)
 held:∀(i:Nat) (r:Rp) (s:Slc×Slc),reps[i]? =some r->sls[i]? =some s->∃ vsl,z6f w0 G s.2 r.held vsl
theorem z6f.more {G D:List zb} {sh:Slc} {held:List Hd} {vsl:List Slc} (h:z6f w0 G sh held vsl):z6f w0 (D++G) sh held vsl :=
 ⟨h.len,λl w' st=>h.row (l++D) w' (by rw [aN]; exact st),λi x v h1 h2 l w' st=>h.ver i x v h1 h2 (l++D) w' (by rw [aN]; exact st)⟩
theorem zbp {G g tb pb:List zb} {sh:Slc} {held:List Hd} {vsl:List Slc} (row:RowC 2 sh ((held.zip vsl).flatMap λp=>hdV p.1.1 p.2) tb) (parts:zzb InV held vsl pb) (hG:G.Perm (tb++(pb++g))):z6f w0 G sh held vsl:=by
 refine⟨parts.len,λl w' st=>row.src (l:=pb++(g++l)) ((st.perm (hG.append_left l)).pq),λi h v h1 h2 l w' st=> ?_⟩;obtain⟨a,c,z,rfl,hi⟩:=parts.at_ h1 h2;have hi:RowC 3 v (h.2.flatMap verV) c:=hi;exact hi.src (l:=tb++(a++(z++(g++l)))) ((st.perm (hG.append_left l)).pq)
theorem zcp {G g tp pb:List zb} {ps:Slc} {reps:List Rp} {sls:List (Slc×Slc)} (row:RowC 5 ps ((reps.zip sls).flatMap λp=>rpV p.1 p.2) tp) (parts:zzb InP reps sls pb) (hG:G.Perm (tp++(pb++g))):zXj w0 G ps reps sls:=by
 refine⟨parts.len,λl w' st=>row.src (l:=pb++(g++l)) ((st.perm (hG.append_left l)).pq),λi r s h1 h2 l w' st=> ?_,λi r s h1 h2=> ?_⟩
 ·obtain⟨a,c,z,rfl,hi⟩:=parts.at_ h1 h2;obtain⟨ec,hc,rfl,re,_⟩:=hi;exact re.src (l:=hc++(tp++(a++(z++(g++l))))) ((st.perm (hG.append_left l)).pq)
 ·obtain⟨a,c,z,rfl,hi⟩:=parts.at_ h1 h2;obtain⟨ec,hc,rfl,_,vsl,tb2,pb2,rfl,rt,pt⟩:=hi;exact⟨vsl,zbp (g:=tp++(a++(ec++(z++g)))) rt pt (hG.trans (za λf_=>by simp <;> omega))⟩
theorem s_dc {G tb vb:List zb} {hs:List Hd} {r:Rp} {sh held:Slc} {vsl vsr:List Slc} {t31:Int} {again_:Slc->Int->WP} (hsm:r.Small) (hhs:hs.length<=16777216) (hin:z6f w0 G sh r.held vsr)
    (rh:RowC 2 held ((hs.zip vsl).flatMap λq=>hdV q.1.1 q.2) tb) (pv:zzb InV hs vsl vb) (st:St w0 (tb++(vb++G)) w)
    (k:∀ held2 vsl' tb' vb' w',RowC 2 held2 (((hs++r.held).zip vsl').flatMap λq=>hdV q.1.1 q.2) tb'->zzb InV (hs++r.held) vsl' vb'->St w0 (tb'++(vb'++G)) w'->F_l t31 again_ held2 w') :
    ∃(I:Slc->Int->WP) (μ:Slc->Int->World->Nat),I held 0 w/\∀(held2:Slc) (t76:Int) w,I held2 t76 w->F_Xc t31 again_ sh (λ(held2':Slc) (t76':Int) w'=>I held2' t76' w'/\μ held2' t76' w'<μ held2 t76 w) held2 t76 w:=by
 have hsh:sh.len=r.held.length:=by
  have:=(hin.row (tb++vb) w (by rw [aN]; exact st)).1;rw [zoc (sz:=2) (λ_=>rfl) hin.len] at this; omega
 have hshl:=hsm.held
 refine⟨λheld2 j w'=>∃(q:Nat) (vsl':List Slc) (tb' vb':List zb),j=(q:Int)/\q<=r.held.length/\RowC 2 held2 (((hs++r.held.take q).zip vsl').flatMap λq=>hdV q.1.1 q.2) tb'/\zzb InV (hs++r.held.take q) vsl' vb' /\
  St w0 (tb'++(vb'++G)) w',λ_ j _=>r.held.length - j.toNat,⟨0,vsl,tb,vb,rfl,O_,by simpa using rh,by simpa using pv,st⟩,?_⟩
 clear st rh pv;rintro held2 j w20 ⟨q,vsl',tb',vb',rfl,hq,rh',pv',st20⟩;unfold F_Xc;have hvl:=pv'.len;refine⟨λhj=> ?_,λhj=> ?_⟩
 ·have hj:=dT hj;obtain⟨a2,y,hy,hcy⟩:=zj.getN (hin.row (tb'++vb') w20 (by rw [aN]; exact st20)) (λ_=>rfl) D_ (i:=(q:Int)) O_ hj;rw [tN] at hy;obtain⟨hy1,hy2⟩:=eA.1 hy;obtain⟨hd,sv⟩:=y;simp only at hy1 hy2;have hvs:=hsm.vers hd (mG hy1);have wq:i64.wrap ((q:Int)+1)=((q+1:Nat):Int):=W_;refine⟨a2,O_,hj,⟨hd.1,sv⟩,hcy,λb5 w21 hb5 hw21=> ?_⟩;have st21:=st20.alloc (cs:=hldT (Be,⟨none,0,0⟩)) hb5 hw21;refine⟨st21.writable 0 rfl D_,λw22 hw22 w23 hw23=> ?_⟩;have st22:St w0 ((b5,hldT (hd.1,sv))::(tb'++(vb'++G))) w22:=st21.put0 hw22;have st23:=st22.drew hw23;have hsrc:=hin.ver q hd sv hy1 hy2 ((b5,hldT (hd.1,sv))::(tb'++vb')) w23 (by rw [dV,aN]; exact st23)
  have hsv:sv.len=hd.2.length:=by
   have:=hsrc.1;rw [zc (sz:=3) (λ_=>rfl)] at this; omega
  refine⟨hd.1,st23.cell 0 rfl rfl,sv,st23.cell 0 rfl rfl,s_s hsrc O_ λs3 rb w24 r24 st24 _=> ?_⟩;have st24:=st23.more st24;have st24:St w0 ((b5,hldT (hd.1,sv))::(rb++(tb'++(vb'++G)))) w24:=st24.pq;refine⟨st24.cell 0 rfl rfl,λb6 w25 hb6 hw25=> ?_⟩;have st25:=st24.alloc (cs:=hldT (hd.1,s3)) hb6 hw25;refine⟨hldT (hd.1,s3),zJ hb6 hw25 rfl,?_⟩;have st25:St w0 (tb'++(rb++(vb'++G))) w25:=st25.wq [(b6,hldT (hd.1,s3)),(b5,hldT (hd.1,sv))]
  have hhl:held2.len=(hs++r.held.take q).length:=by
   have:=rh'.len;rw [zoc (sz:=2) (λ_=>rfl) hvl] at this; omega
  rw [aB,aZ] at hhl;refine rh'.append st25 rfl rfl rfl O_ λheld3 tb3 w26 r26 st26 hl26=> ?_;rw [wq];refine⟨⟨q+1,vsl'++[s3],tb3,vb'++rb,rfl,O_,?_,?_,st26.pq⟩,L_⟩
  ·rw [bL,hy1,show(some hd).toList=[hd] from rfl,<-aN,zYe hvl];exact r26
  ·rw [bL,hy1,show(some hd).toList=[hd] from rfl,<-aN];exact pv'.snoc r24
 ·have hj:=dF hj;rw [bF O_] at rh' pv';exact k held2 vsl' tb' vb' w20 rh' pv' st20
theorem s_Mb {G:List zb} {m:TkM} {b1 bt b:Nat} {ps held:Slc} {sls:List (Slc×Slc)} {p:Nat} {R:T_m->Slc->Int->WP} {again_:Slc->Int->WP} (ok:m.Ok) (hp:p<m.reps.length) (hin:zXj w0 G ps m.reps sls)
    (hk:∀ l w',St w0 (l++G) w'->w'.cell? ⟨bt,5,none⟩=some (Vb m.call.Kind)) (h:AnSt w0 m G b1 p held w)
    (k:∀ held' w',AnSt w0 m G b1 (p+1) held' w'->again_ held' ((p+1:Nat):Int) w') (hi:decide (((p:Nat):Int)<((ps.len:Nat):Int))=true)
    (no:decide (((p:Nat):Int)<((ps.len:Nat):Int))=false->C_h held (Value.func (.func 195) #[] #[]) w (λw27=>∃(v93:T_m),zf w27 b1 0 (anT v93)/\(zr w27 b 0 5/\(∀ w28,w28=World.puts b 0 (anT v93) w27->(∃(res2:T_m),zf w28 b 0 (anT res2)/\(R res2 held 0 w28)))))):F_Ob (Z0 bt) R b b1 ps again_ held (p:Int) w:=by
 unfold F_Ob;refine⟨λ_=> ?_,no⟩;have hi:=dT hi;have hr16:=ok.few;have hrm:=ok.reps;obtain⟨A,s,vsl,ec,tb,vb,d,hlen,rs2,rh,pv,st⟩:=h;have hle:=hlen.es;have hlh:=hlen.hs;have wp:i64.wrap ((p:Int)+1)=((p+1:Nat):Int):=W_
 have stG:∀ {x:zb} {w':World},St w0 (x::(ec++(tb++(vb++(d++G))))) w'->St w0 ((x::(ec++(tb++(vb++d))))++G) w':=λ{x w'} h=>by
  have e:(x::(ec++(tb++(vb++d))))++G=x::(ec++(tb++(vb++(d++G)))):=by simp only [dV,aN]
  rw [e]; exact h
 have stG2:∀ {x y:zb} {w':World},St w0 (x::y::(ec++(tb++(vb++(d++G))))) w'->St w0 ((x::y::(ec++(tb++(vb++d))))++G) w':=λ{x y w'} h=>by
  have e:(x::y::(ec++(tb++(vb++d))))++G=x::y::(ec++(tb++(vb++(d++G)))):=by simp only [dV,aN]
  rw [e]; exact h
 obtain⟨a,x,hx,hc⟩:=zj.getN (hin.row _ w (stG st)) (λ_=>rfl) D_ (i:=(p:Int)) O_ hi;rw [tN] at hx;obtain⟨hx1,hx2⟩:=eA.1 hx;obtain⟨r,se,sh⟩:=x;simp only at hx1 hx2;have hsm:=ok.small r (mG hx1);have hre:=hin.ent p r (se,sh) hx1 hx2;obtain⟨vsr,hho⟩:=hin.held p r (se,sh) hx1 hx2
 have hel:r.ents.length=se.len:=by
  have h0:=(hre _ w (stG st)).1;rw [zc (sz:=2) (λ_=>rfl)] at h0;have h0:r.ents.length*2=se.len*2:=h0;omega
 have fin:∀(held':Slc) (w':World),AnSt w0 m G b1 (p+1) held' w'->F_l (p:Int) again_ held' w':=λheld' w' h'=>by
  unfold F_l;rw [wp];exact k held' w' h'
 have sme:=hsm.ents;have eN:(p+1)*1024=p*1024+1024:=Nat.succ_mul p 1024;have smh:=hsm.held;refine⟨a,O_,hi,⟨0,r.ok,se,sh,r.count⟩,hc,λb2 w10 hb2 hw10=> ?_⟩;have st10:=st.alloc (cs:=rpV ⟨false,[],[],0⟩ (⟨none,0,0⟩,⟨none,0,0⟩)) hb2 hw10;refine⟨st10.writable 0,λw11 hw11=> ?_⟩;have st11:St w0 ((b2,rpV r (se,sh))::(b1,anT ⟨0,m.mark,A.ok,s,A.cnt⟩)::(ec++(tb++(vb++(d++G))))) w11:=st10.put0 hw11;clear st10 st;refine⟨rfl,m.call.Kind,hk _ w11 (stG2 st11),λh1=> ?_,λh1=>⟨λh2=> ?_,λh2=>⟨λh3=> ?_,λh3=>⟨λh4=> ?_,λh4=> ?_⟩⟩⟩⟩
 ·have h1:m.call.Kind=1:=by simpa using h1
  have hone:=ok.one h1;have hp0:p=0:=O_;subst hp0;refine⟨se,st11.cell 0 rfl rfl,st11.writable 1,λw12 hw12=> ?_⟩;have st12:St w0 ((b2,rpV r (se,sh))::(b1,anT ⟨0,m.mark,(((se.len:Nat):Int)==1),s,A.cnt⟩)::(ec++(tb++(vb++(d++G))))) w12:=st11.put1 hw12;refine⟨(((se.len:Nat):Int)==1),st12.cell 1 rfl rfl,λhb=> ?_,λhb=> ?_⟩
  ·have hs1:r.ents.length=1:=by have:((se.len:Nat):Int)=1:=by simpa using hb
                                omega
   refine⟨se,st12.cell 0 rfl rfl,λb3 w13 hb3 hw13=> ?_⟩;have st13:=st12.alloc (cs:=[Vs se]) hb3 hw13;refine s_3 (ls:=[(se,r.ents)]) st13 (λl w' st'=>⟨?_,λq hq=> ?_⟩) (by simp; omega) (by simp) λs2 rb es2 w14 hes r14 st14=> ?_
   ·exact St.blkSrc (n:=1) (sz:=1) (vs:=[Vs se]) (l:=l++((b2,rpV r (se,sh))::(b1,anT ⟨0,m.mark,(((se.len:Nat):Int)==1),s,A.cnt⟩)::(ec++(tb++(vb++(d++G)))))) (st'.pq) rfl
   ·rw [bK.1 hq];exact hre (l++((b3,[Vs se])::(b2,rpV r (se,sh))::(b1,anT ⟨0,m.mark,(((se.len:Nat):Int)==1),s,A.cnt⟩)::(ec++(tb++(vb++d))))) w' (st'.pq)
   have st14:St w0 ((b1,anT ⟨0,m.mark,(((se.len:Nat):Int)==1),s,A.cnt⟩)::(rb++(tb++(vb++(((b3,[Vs se])::(b2,rpV r (se,sh))::(ec++d))++G))))) w14:=st14.pq;refine⟨st14.writable 0,λw15 hw15=> ?_⟩;have st15:St w0 ((b1,anT ⟨0,m.mark,(((se.len:Nat):Int)==1),s2,A.cnt⟩)::(rb++(tb++(vb++(((b3,[Vs se])::(b2,rpV r (se,sh))::(ec++d))++G))))) w15:=st14.put0 hw15;have hes:es2.length=r.ents.length:=by simpa using hes
   exact fin held w15 ⟨⟨(((se.len:Nat):Int)==1),es2,A.cnt,A.hs⟩,s2,vsl,rb,tb,vb,(b3,[Vs se])::(b2,rpV r (se,sh))::(ec++d),⟨by rw [hes]; exact cH sme D_,hlen.up.hs,hlen.vs⟩,r14,rh,pv,st15⟩
  ·have hs1:¬ r.ents.length=1:=by have:¬ ((se.len:Nat):Int)=1:=by simpa using hb
                                  omega
   exact fin held w12 ⟨⟨(((se.len:Nat):Int)==1),A.es,A.cnt,A.hs⟩,s,vsl,ec,tb,vb,(b2,rpV r (se,sh))::d,⟨hlen.up.es,hlen.up.hs,hlen.vs⟩,rs2,rh,pv,st12.pq⟩
 ·have h1:m.call.Kind≠1:=by simpa using h1
  have h2:m.call.Kind=2:=by simpa using h2
  refine⟨s,st11.cell 1 rfl rfl,se,st11.cell 0 rfl rfl,λb4 w16 hb4 hw16=> ?_⟩;have st16:=st11.alloc (cs:=[Vs s,Vs se]) hb4 hw16;refine s_3 (ls:=[(s,A.es),(se,r.ents)]) st16 (λl w' st'=>⟨?_,λq hq=> ?_⟩) (by simp; omega) (by simp) λs2 rb es2 w17 hes r17 st17=> ?_
  ·exact St.blkSrc (n:=2) (sz:=1) (vs:=[Vs s,Vs se]) (l:=l++((b2,rpV r (se,sh))::(b1,anT ⟨0,m.mark,A.ok,s,A.cnt⟩)::(ec++(tb++(vb++(d++G)))))) (st'.pq) rfl
  ·rcases aU.1 hq with rfl | hq
   ·exact rs2.src (l:=l++((b4,[Vs s,Vs se])::(b2,rpV r (se,sh))::(b1,anT ⟨0,m.mark,A.ok,s,A.cnt⟩)::(tb++(vb++(d++G))))) (st'.pq)
   ·rw [bK.1 hq];exact hre (l++((b4,[Vs s,Vs se])::(b2,rpV r (se,sh))::(b1,anT ⟨0,m.mark,A.ok,s,A.cnt⟩)::(ec++(tb++(vb++d))))) w' (st'.pq)
  have st17:St w0 ((b1,anT ⟨0,m.mark,A.ok,s,A.cnt⟩)::(rb++(tb++(vb++(((b4,[Vs s,Vs se])::(b2,rpV r (se,sh))::(ec++d))++G))))) w17:=st17.pq;refine⟨st17.writable 0,λw18 hw18=> ?_⟩;have st18:St w0 ((b1,anT ⟨0,m.mark,A.ok,s2,A.cnt⟩)::(rb++(tb++(vb++(((b4,[Vs s,Vs se])::(b2,rpV r (se,sh))::(ec++d))++G))))) w18:=st17.put0 hw18;have hes:es2.length=A.es.length+r.ents.length:=by rw [hes]; simp
  exact fin held w18 ⟨⟨A.ok,es2,A.cnt,A.hs⟩,s2,vsl,rb,tb,vb,(b4,[Vs s,Vs se])::(b2,rpV r (se,sh))::(ec++d),⟨by show es2.length<=(p+1)*1024; rw [eN]; omega,hlen.up.hs,hlen.vs⟩,r17,rh,pv,st18⟩
 ·have h1:m.call.Kind≠1:=by simpa using h1
  have h2:m.call.Kind≠2:=by simpa using h2
  have h3:m.call.Kind=3:=by simpa using h3
  refine⟨A.cnt,st11.cell 1 rfl rfl,r.count,st11.cell 0 rfl rfl,st11.writable 1,λw19 hw19=> ?_⟩;have st19:St w0 ((b2,rpV r (se,sh))::(b1,anT ⟨0,m.mark,A.ok,s,i64.wrap (A.cnt+r.count)⟩)::(ec++(tb++(vb++(d++G))))) w19:=st11.put1 hw19;exact fin held w19 ⟨⟨A.ok,A.es,i64.wrap (A.cnt+r.count),A.hs⟩,s,vsl,ec,tb,vb,(b2,rpV r (se,sh))::d,⟨hlen.up.es,hlen.up.hs,hlen.vs⟩,rs2,rh,pv,st19.pq⟩
 ·have h4:m.call.Kind=4:=by simpa using h4
  refine⟨sh,st11.cell 0 rfl rfl,?_⟩;refine s_dc (G:=((b2,rpV r (se,sh))::(b1,anT ⟨0,m.mark,A.ok,s,A.cnt⟩)::(ec++d))++G) hsm O_ hho.more rh pv (st11.pq) λheld2 vsl' tb' vb' w' rh' pv' st'=> ?_;exact fin held2 w' ⟨⟨A.ok,A.es,A.cnt,A.hs++r.held⟩,s,vsl',ec,tb',vb',(b2,rpV r (se,sh))::d,⟨hlen.up.es,by show(A.hs++r.held).length<=(p+1)*1024; rw [aB,eN]; omega,λh hh=>(aG.1 hh).elim (hlen.vs h) (hsm.vers h)⟩,rs2,rh',pv',st'.pq⟩
 ·have h1:m.call.Kind≠1:=by simpa using h1
  have h2:m.call.Kind≠2:=by simpa using h2
  have h3:m.call.Kind≠3:=by simpa using h3
  have h4:m.call.Kind≠4:=by simpa using h4
  have:=ok.kind;omega
theorem s_D {m:TkM} {R:T_m->Slc->Int->WP} (o:TkO t (some m) cs) (st:St w0 (cs++fr) w)
    (k:∀ a held e d w',HdW d held->a.Mark=m.mark\/e=6->St w0 (d++(cs++fr)) w'->R a held e w'):C_tb t w R:=by
 apply S_Ub;unfold F_cf;intro b w1 hb hw;have st1:St w0 ((b,anT zAn)::(cs++fr)) w1:=st.alloc hb hw;have st1b:St w0 (cs++((b,anT zAn)::fr)) w1:=st1.pq;refine s_f o st1b ⟨N_,λ_=> ?_⟩;refine s_J o st1b λw2 st2=> ?_;have st2a:St w0 ((b,anT zAn)::(cs++fr)) w2:=st2.pq;refine⟨λh=> ?_,λh=> ?_⟩
 ·have ha:¬ allM (some m)=true:=by simpa using h
  refine⟨st2a.writable 0 rfl D_,λw3 hw3=> ?_⟩;have st3:St w0 ((b,anT zAn)::(cs++fr)) w3:=st2a.put0 hw3;exact⟨zAn,(st3.get 0 rfl).all,k zAn ⟨none,0,0⟩ 6 [(b,anT zAn)] w3 HdW.nil (.inr rfl) (st3.pq)⟩
 have ha:allM (some m)=true:=by simpa using h
 obtain⟨bt,rfl,rs,ps,rc,pc,ok,rfl,hr,hp⟩:=o;obtain⟨tkv,htkv⟩:∃ tkv,tkv=tkV m.number m.cfg m.call m.begun m.mark rs (m.out:Int) ps:=⟨_,rfl⟩
 have hrl:=hp.len;obtain⟨sls,tp,pb,rfl,row,parts⟩:=hp;rw [<-htkv] at st2a k;have c9:tkv[9]? =some (Vi m.mark):=by rw [htkv]; rfl
 have c5:tkv[5]? =some (Vb m.call.Kind):=by rw [htkv]; rfl
 have c12:tkv[12]? =some (Vs ps):=by rw [htkv]; rfl
 clear htkv;refine⟨rfl,m.mark,st2a.cell 1 rfl c9,λb1 w6 hb1 hw6=> ?_⟩;have st6:=st2a.alloc (cs:=anT zAn) hb1 hw6;refine⟨st6.writable 0 rfl D_,λw7 hw7=> ?_⟩;have st7:St w0 ((b1,anT ⟨0,m.mark,true,⟨none,0,0⟩,0⟩)::(b,anT zAn)::(((bt,tkv)::(rc++(tp++pb)))++fr)) w7:=st6.put0 hw7;refine⟨rfl,ps,st7.cell 2 rfl c12,?_⟩;obtain⟨G,hG⟩:∃ G,G=(b,anT zAn)::(((bt,tkv)::(rc++(tp++pb)))++fr):=⟨_,rfl⟩
 have hin:zXj w0 G ps m.reps sls:=zcp (g:=(b,anT zAn)::(bt,tkv)::(rc++fr)) row parts (by rw [hG]; exact(za λf_=>by simp <;> omega))
 have hkc:∀ l w',St w0 (l++G) w'->w'.cell? ⟨bt,5,none⟩=some (Vb m.call.Kind):=λl w' st'=>by
  rw [hG] at st';have st':St w0 ((bt,tkv)::(l++((b,anT zAn)::(rc++(tp++(pb++fr)))))) w':=st'.pq;exact st'.cell 0 rfl c5
 have hb0:G=(b,anT zAn)::(((bt,tkv)::(rc++(tp++pb)))++fr):=hG;rw [<-hG] at st7
 refine⟨λheld i w'=>∃ p:Nat,i=(p:Int)/\p<=m.reps.length/\AnSt w0 m G b1 p held w',λ_ i _=>m.reps.length - i.toNat,
  ⟨0,rfl,O_,⟨true,[],0,[]⟩,⟨none,0,0⟩,[],[],[],[],[],⟨bU _,bU _,λh hh=>(by cases hh)⟩,RowC.nil,RowC.nil,rfl,st7⟩,?_⟩
 clear st st1 st1b st2 st2a st6 st7;rintro held i w8 ⟨p,rfl,hp,hst⟩;by_cases hlt:p<m.reps.length
 ·exact s_Mb ok hlt hin hkc hst (λheld' w' h'=>⟨⟨p+1,rfl,O_,h'⟩,L_⟩) (decide_eq_true O_) λh=>absurd (dF h) O_
 obtain rfl:p=m.reps.length:=O_;have hr16:=ok.few;have hrm:=ok.reps;unfold F_Ob;refine⟨λh=>absurd (dT h) O_,λ_=> ?_⟩;obtain⟨A,s,vsl,ec,tb,vb,d,hfit,rs2,rh,pv,st⟩:=hst;have hlh:=hfit.hs;have stt:St w0 (tb++((b1,anT ⟨0,m.mark,A.ok,s,A.cnt⟩)::(ec++(vb++(d++G))))) w8:=st.pq;rw [zap] at rh
 have hzl:((A.hs.zip vsl).map hdH).length<=16384:=by
  rw [lM,List.length_zip]; omega
 refine s_Ec zum ⟨_,tb,gQ _,rh,stt⟩ O_ λw27 h27=> ?_;obtain⟨l',tb',p27,r27,st27⟩:=h27;rw [hb0] at st27;have st27:St w0 ((b1,anT ⟨0,m.mark,A.ok,s,A.cnt⟩)::(b,anT zAn)::(tb'++(ec++(vb++(d++(((bt,tkv)::(rc++(tp++pb)))++fr)))))) w27:=st27.pq;refine⟨⟨0,m.mark,A.ok,s,A.cnt⟩,(st27.get 0 rfl).all,st27.writable 1 rfl D_,λw28 hw28=> ?_⟩;have st28:St w0 ((b1,anT ⟨0,m.mark,A.ok,s,A.cnt⟩)::(b,anT ⟨0,m.mark,A.ok,s,A.cnt⟩)::(tb'++(ec++(vb++(d++(((bt,tkv)::(rc++(tp++pb)))++fr)))))) w28:=st27.put1 hw28;refine⟨⟨0,m.mark,A.ok,s,A.cnt⟩,(st28.get 1 rfl).all,?_⟩;refine k ⟨0,m.mark,A.ok,s,A.cnt⟩ held 0 (tb'++vb) w28 ⟨l',⟨tb',r27,λc hc=>bB _ hc⟩,by rw [p27.length_eq]; exact hzl,λx hx=> ?_⟩ (.inl rfl) (st28.wq ((b1,anT ⟨0,m.mark,A.ok,s,A.cnt⟩)::(b,anT ⟨0,m.mark,A.ok,s,A.cnt⟩)::(ec++d)));obtain⟨z,hz,rfl⟩:=aQ.1 (p27.mem_iff.1 hx);obtain⟨i,hi⟩:=bG.1 hz;obtain⟨hi1,hi2⟩:=eA.1 hi;obtain⟨a,c,y,e,hin⟩:=pv.at_ hi1 hi2;exact⟨z.1.2,⟨c,hin,λq hq=>by rw [e]; simp [hq]⟩,hfit.vs z.1 (mG hi1)⟩
end
abbrev zYj (o:HO):Prop:=o.1.size<=64/\okC 0 o.2.1=true
section
variable {W:World} {mp:List (Nat×Obj)} {w:World} {fr:List zb} {s:Slc} {os:List HO}
theorem s_nb {R:OA->Int->WP} (st:St ⟨W,mp⟩ fr w) (ha:∀ mp' l w',St ⟨W,mp'⟩ (l++fr) w'->HdAt w' s os) (hl:s.len<=67108864) (hv:∀ o∈os,o.2.2.len<=1048576)
    (k:∀ t e w',(e=0->∀ o∈os,zYj o)->St ⟨W,mp⟩ fr w'->R t e w'):C_4b s w R:=by
 apply S_Pb;unfold F_we;apply S_qc;unfold F_kg;intro r w1 hr hw1 b w2 hb hw2;have st2:St ⟨W,(r,.map #[] 0)::mp⟩ ((b,[Value.map (some r)])::([]++fr)) w2:=(st.mnew hr hw1).alloc hb hw2;have hsl:s.len=os.length:=by have:=(ha mp [] w st).src.1; rw [zc (sz:=2) (λ_=>rfl)] at this; omega
 have back:∀ {es:Array MapEntry} {c:Nat} {l:List zb} {w':World},St ⟨W,(r,.map es c)::mp⟩ l w'->St ⟨W,mp⟩ l w':=λ{es c l w'} st'=>St.forget (a:=[(r,.map es c)]) (b:=mp) (W:=W) st'
 refine⟨λi w'=>∃(p:Nat) (es:Array MapEntry) (c:Nat) (pb:List zb),i=(p:Int)/\p<=s.len/\MOk isKS es c/\(∀ o∈os.take p,zYj o)/\St ⟨W,(r,.map es c)::mp⟩ ((b,[Value.map (some r)])::(pb++fr)) w',λi _=>s.len - i.toNat,
  ⟨0,#[],0,[],rfl,O_,MOk.empty,λo ho=>by simp at ho,st2⟩,?_⟩
 clear st st2 hw1 hw2 hb hr;rintro i w3 ⟨p,es,c,pb,rfl,hp,ok,hg,st⟩;unfold F_Hc;refine⟨λhi=> ?_,λhi=> ?_⟩
 rotate_left
 ·have hi:=dF hi;rw [bF O_] at hg;exact k _ 0 w3 (λ_=>hg) ((back st).wq ((b,[Value.map (some r)])::pb))
 have hi:=dT hi;have wp:i64.wrap ((p:Int)+1)=((p+1:Nat):Int):=W_;have ha3:=ha _ ((b,[Value.map (some r)])::pb) w3 (by simpa using st);obtain⟨a,o,ho,hc⟩:=zj.getN ha3.src (λ_=>rfl) D_ (i:=(p:Int)) O_ O_;rw [tN] at ho hc;have hom:=mG ho;have hvl:=hv o hom;refine⟨a,O_,hi,⟨o.1,o.2.2⟩,by rw [tN]; exact hc,λb1 w4 hb1 hw4=> ?_⟩;have st4:=st.alloc (cs:=hldT (Be,⟨none,0,0⟩)) hb1 hw4;refine⟨st4.writable 0 rfl D_,λw5 hw5 w6 hd6=> ?_⟩;have st6:St ⟨W,(r,.map es c)::mp⟩ ((b1,hoT o)::(b,[Value.map (some r)])::(pb++fr)) w6:=(st4.put0 hw5).drew hd6;clear st4 st hw4 hw5 hd6 ha3
 have bad:∀ {A:Int->WP},F_k R (Z0 b) (p:Int) A b1 true w6:=λ{A}=>by
  unfold F_k;exact⟨λ_=>k none 1 w6 (λh=>by cases h) ((back st6).wq ((b1,hoT o)::(b,[Value.map (some r)])::pb)),N_⟩
 have hv6:=ha _ ((b1,hoT o)::(b,[Value.map (some r)])::pb) w6 (by simpa using st6);obtain⟨hov6,hovl⟩:=hv6.ver o hom;refine⟨o.1,st6.cell 0 rfl rfl,?_⟩;apply S_rc;unfold F_lg;rw [zjb];refine⟨λ_=>bad,λhmay=> ?_⟩
 have hsz:o.1.size<=64:=by
  simp at hmay;omega
 have last:∀ {A:Int->WP},(∀ es c pb w',MOk isKS es c->okC 0 o.2.1=true->St ⟨W,(r,.map es c)::mp⟩ ((b,[Value.map (some r)])::(pb++fr)) w'->A ((p+1:Nat):Int) w') ->
     ∃(v36:Slc),w6.cell? ⟨b1,1,none⟩=some (Vs v36)/\((((((v36.len:Nat):Int)==0)=true->F_k R (Z0 b) (p:Int) A b1 true w6)) /\
     ((((v36.len:Nat):Int)==0)=false->∃(v42:Slc),w6.cell? ⟨b1,1,none⟩=some (Vs v42)/\C_w v42 w6 (λv43 w11=>F_k R (Z0 b) (p:Int) A b1 (v43 != 0) w11))):=λ{A} hA=>by
  refine⟨o.2.2,st6.cell 0 rfl rfl,λ_=>bad,λ_=>⟨o.2.2,st6.cell 0 rfl rfl,s_b hov6 O_ λw' e'=> ?_⟩⟩;have st7:=st6.keep e';unfold F_k;refine⟨λ_=>k none 1 w' (λh=>by cases h) ((back st7).wq ((b1,hoT o)::(b,[Value.map (some r)])::pb)),λh=>λw8 hd8=> ?_⟩
  have hC:okC 0 o.2.1=true:=by
   by_cases hC:okC 0 o.2.1=true
   ·exact hC
   ·rw [if_neg hC] at h; cases h
  have st8:=st7.drew hd8;obtain⟨hov8,_⟩:=(ha _ ((b1,hoT o)::(b,[Value.map (some r)])::pb) w8 (by simpa using st8)).ver o hom;refine⟨rfl,some r,st8.cell 1 rfl rfl,o.1,st8.cell 0 rfl rfl,o.2.2,st8.cell 0 rfl rfl,s_s hov8 O_ λs2 rb w9 r9 st9 hl9=> ?_⟩;have st9:St ⟨W,(r,.map es c)::mp⟩ ((b1,hoT o)::(b,[Value.map (some r)])::(rb++(pb++fr))) w9:=(st8.join st9).pq;refine⟨st9.cell 0 rfl rfl,st9.cell 1 rfl rfl,r,es,c,rfl,st9.objAt 0 rfl,ok.all,ok.nodup,⟨_,rfl⟩,λes2 c2 w10 hset hw10=> ?_⟩;have st10:=st9.mset0 hw10;rw [wp];exact hA es2 c2 (rb++pb) w10 (ok.set ⟨_,rfl⟩ hset).1 hC (st10.wq [(b1,hoT o)])
 have nx:∀ es c pb w',MOk isKS es c->okC 0 o.2.1=true->St ⟨W,(r,.map es c)::mp⟩ ((b,[Value.map (some r)])::(pb++fr)) w'->(∃(p':Nat) (es:Array MapEntry) (c:Nat) (pb:List zb),((p+1:Nat):Int)=(p':Int)/\p'<=s.len/\MOk isKS es c/\(∀ o∈os.take p',zYj o)/\St ⟨W,(r,.map es c)::mp⟩ ((b,[Value.map (some r)])::(pb++fr)) w')/\s.len - ((p+1:Nat):Int).toNat<s.len - (p:Int).toNat:=λes c pb w' ok hC st=>by
  refine⟨⟨p+1,es,c,pb,rfl,O_,ok,λo' ho'=> ?_,st⟩,O_⟩;rw [bL,ho] at ho';rcases aG.1 ho' with h | h
  ·exact hg o' h
  ·have:o'=o:=by simpa using h
   rw [this]; exact⟨hsz,hC⟩
 refine⟨λhp0=> ?_,λ_=>last nx⟩;have hp0:=dT hp0;have wm:i64.wrap ((p:Int) - 1)=((p - 1:Nat):Int):=W_;obtain⟨a',q,hq,hc'⟩:=zj.getN hv6.src (λ_=>rfl) D_ (i:=((p - 1:Nat):Int)) O_ O_;rw [tN] at hq hc';rw [wm];exact⟨a',O_,O_,q.1,by rw [tN]; exact hc'.1,o.1,st6.cell 0 rfl rfl,λ_=>bad,λ_=>last nx⟩
theorem s_Hc {x y:Int} {w:World} {R:Bool->WP} (k:∀ b,R b w):C_4c x y w R:=by
 apply S_4c;unfold F_qg;apply S_W;unfold F_cg;refine⟨λ_=> ?_,λ_=>k _⟩;apply S_W;exact k _
theorem s_vd {s:Slc} {xs:List Int} {t:Int} {w:World} {R:Int->Bool->WP} (hs:zj w s 1 (xs.map Vi)) (hl:s.len<=1152921504606846976) (k:∀ p b,R p b w):C_T s t w R:=by
 apply S_D;unfold F_Rc;refine⟨λi j w'=>w'=w/\∃ p q:Nat,i=(p:Int)/\j=(q:Int)/\p<=q/\q<=s.len,λi j _=>(j - i).toNat,⟨rfl,0,s.len,rfl,rfl,O_,O_⟩,?_⟩;rintro i j _ ⟨rfl,p,q,rfl,rfl,hpq,hq⟩;unfold F_pc;rw [z1b O_];have wm:i64.wrap ((((p+q) / 2:Nat):Int)+1)=(((p+q) / 2+1:Nat):Int):=W_;rw [wm];refine⟨λh=> ?_,λh=>⟨λh2=> ?_,λ_=>k _ _⟩⟩
 ·have h:=dT h;obtain⟨ha,x,hx,hc⟩:=zj.get (i:=(((p+q) / 2:Nat):Int)) hs O_ O_;exact⟨ha,O_,O_,x,hc,s_Hc λb=>⟨λ_=>⟨⟨rfl,_,q,rfl,rfl,O_,hq⟩,M_⟩,λ_=>⟨⟨rfl,p,_,rfl,rfl,O_,O_⟩,M_⟩⟩⟩
 ·have h2:=dT h2;obtain⟨ha,x,hx,hc⟩:=zj.get (i:=(p:Int)) hs O_ O_;refine⟨ha,O_,O_,x,hc,λ_=>k _ _,λ_=>⟨ha,O_,O_,x,hc,?_⟩⟩;apply S_F;refine⟨λ_=> ?_,λ_=>k _ _⟩;apply S_F;exact k _ _
abbrev svT (s:T_b):List Value:=[Vi s.Mark,Vs s.Beyond,Vs s.Held]
structure SvW (W:World) (fr:List zb) (sv:T_b) (bey:List Int) (os:List HO):Prop where
 bey:∀ mp' l w',St ⟨W,mp'⟩ (l++fr) w'->zj w' sv.Beyond 1 (bey.map Vi)
 held:∀ mp' l w',St ⟨W,mp'⟩ (l++fr) w'->HdAt w' sv.Held os
 bl:sv.Beyond.len<=16777216
 hl:sv.Held.len<=67108864
 vl:∀ o∈os,o.2.2.len<=1048576
theorem SvW.more {sv:T_b} {bey:List Int} {l0:List zb} (h:SvW W fr sv bey os):SvW W (l0++fr) sv bey os :=
 ⟨λmp' l w' st=>h.bey mp' (l++l0) w' (by simpa using st),λmp' l w' st=>h.held mp' (l++l0) w' (by simpa using st),h.bl,h.hl,h.vl⟩
theorem s_t {sv:T_b} {bey:List Int} {R:Int->WP} (st:St ⟨W,mp⟩ fr w) (h:SvW W fr sv bey os)
    (k:∀ e w',(e=0->(0<=sv.Mark/\sv.Mark<=65536)/\(∀ n∈bey,n<=65536)/\∀ o∈os,zYj o)->St ⟨W,mp⟩ fr w'->R e w'):C_Jb sv w R:=by
 apply S_Xb;unfold F_If;intro b w1 hb hw;have st1:St ⟨W,mp⟩ ((b,svT sv)::fr) w1:=st.alloc hb hw;have bl:=h.bl;have hl:=h.hl;have bad:∀ {w'},St ⟨W,mp⟩ ((b,svT sv)::fr) w'->R 1 w':=λst=>k 1 _ (λh=>by cases h) st.drop1
 have k0:∀ {t:Bool} {w'},(t=false->0<=sv.Mark/\sv.Mark<=65536)->St ⟨W,mp⟩ ((b,svT sv)::fr) w'->F_Gc R b t w':=λ{t w'} hm st=>by
  unfold F_Gc;refine⟨λ_=>bad st,λht=>⟨sv.Mark,st.cell 0 rfl rfl,sv.Beyond,st.cell 0 rfl rfl,?_⟩⟩;have hm:=hm ht;refine⟨λ_ i w'=>∃ p:Nat,i=(p:Int)/\p<=sv.Beyond.len/\(∀ n∈bey.take p,n<=65536)/\St ⟨W,mp⟩ ((b,svT sv)::fr) w',λ_ i _=>sv.Beyond.len - i.toNat,⟨0,rfl,O_,λn hn=>by simp at hn,st⟩,?_⟩;clear st;rintro least i w2 ⟨p,rfl,hp,hbn,st⟩;unfold F_ve;have hbs:=h.bey mp [(b,svT sv)] w2 st;have hbl:=hbs.len_eq;refine⟨λhi=> ?_,λhi=> ?_⟩
  ·have hi:=dT hi;have wp:i64.wrap ((p:Int)+1)=((p+1:Nat):Int):=W_;obtain⟨a,x,hx,hc⟩:=hbs.get (i:=(p:Int)) O_ hi;rw [tN] at hx;refine⟨a,O_,hi,x,hc,λ_=>bad st,λhn=> ?_⟩;rw [wp];refine⟨⟨p+1,rfl,O_,λn hn'=> ?_,st⟩,L_⟩;rw [bL,hx] at hn';rcases aG.1 hn' with h1 | h1
   ·exact hbn n h1
   ·have:n=x:=by simpa using h1
    simp only [cD,decide_eq_false_iff_not] at hn;omega
  ·have hi:=dF hi;rw [bF O_] at hbn;refine⟨sv.Held,st.cell 0 rfl rfl,s_nb (os:=os) st (λmp' l w' st=>h.held mp' (l++[(b,svT sv)]) w' (by simpa using st)) O_ h.vl λt e w3 hg st=>⟨λ_=>bad st,λhe=> ?_⟩⟩;have he:e=0:=by simpa using he
   have hg:=hg he;refine⟨sv.Held,st.cell 0 rfl rfl,?_⟩;refine⟨λi w'=>∃ p:Nat,i=(p:Int)/\p<=sv.Held.len/\St ⟨W,mp⟩ ((b,svT sv)::fr) w',λi _=>sv.Held.len - i.toNat,⟨0,rfl,O_,st⟩,?_⟩;clear st;rintro i w4 ⟨p,rfl,hp,st⟩;unfold F_ue;refine⟨λhi=> ?_,λ_=>k 0 w4 (λ_=>⟨hm,hbn,hg⟩) st.drop1⟩;have hi:=dT hi;have wp:i64.wrap ((p:Int)+1)=((p+1:Nat):Int):=W_;obtain⟨a,o,ho,hc⟩:=zj.getN (h.held mp [(b,svT sv)] w4 st).src (λ_=>rfl) D_ (i:=(p:Int)) O_ O_;rw [tN] at ho hc;have hom:=mG ho;have hvl:=h.vl o hom;refine⟨a,O_,hi,⟨o.1,o.2.2⟩,by rw [tN]; exact hc,λb1 w5 hb1 hw5=> ?_⟩;have st5:=st.alloc (cs:=hldT (Be,⟨none,0,0⟩)) hb1 hw5;refine⟨st5.writable 0 rfl D_,λw6 hw6=> ?_⟩;have st6:St ⟨W,mp⟩ ((b1,hoT o)::(b,svT sv)::fr) w6:=st5.put0 hw6;refine⟨o.2.2,st6.cell 0 rfl rfl,?_⟩;refine⟨λi w'=>∃ q:Nat,i=(q:Int)/\q<=o.2.2.len/\St ⟨W,mp⟩ ((b1,hoT o)::(b,svT sv)::fr) w',λi _=>o.2.2.len - i.toNat,⟨0,rfl,O_,st6⟩,?_⟩;rintro i w7 ⟨q,rfl,hq,st⟩;unfold F_9f;rw [wp];refine⟨λhi=> ?_,λ_=>⟨⟨p+1,rfl,O_,st.drop1⟩,L_⟩⟩;have hi:=dT hi;have wq:i64.wrap ((q:Int)+1)=((q+1:Nat):Int):=W_;obtain⟨a,v,hv,hc⟩:=zj.getN ((h.held mp [(b1,hoT o),(b,svT sv)] w7 st).ver o hom).1 (λ_=>rfl) D_ (i:=(q:Int)) O_ O_;refine⟨a,O_,hi,v,hc,λb2 w8 hb2 hw8=> ?_⟩;have st8:=st.alloc (cs:=verT ⟨0,Be,false⟩) hb2 hw8;refine⟨st8.writable 0 rfl D_,λw9 hw9=> ?_⟩;have st9:St ⟨W,mp⟩ ((b2,verT v)::(b1,hoT o)::(b,svT sv)::fr) w9:=st8.put0 hw9
   have k4:∀ {A:Int->WP} {t:Bool},(∀ w',St ⟨W,mp⟩ ((b1,hoT o)::(b,svT sv)::fr) w'->A ((q+1:Nat):Int) w')->F_Fc R b (q:Int) A b2 t w9:=λ{A t} hA=>by
    unfold F_Fc;refine⟨λ_=>bad st9.drop1.drop1,λ_=>⟨sv.Beyond,st9.cell 2 rfl rfl,v.Number,st9.cell 0 rfl rfl,s_vd (h.bey mp [(b2,verT v),(b1,hoT o),(b,svT sv)] w9 st9) O_ λ_ _=>⟨v.Number,st9.cell 0 rfl rfl,sv.Mark,st9.cell 2 rfl rfl,λ_=>bad st9.drop1.drop1,λ_=> ?_⟩⟩⟩;rw [wq];exact hA w9 st9.drop1
   have nx:∀ w',St ⟨W,mp⟩ ((b1,hoT o)::(b,svT sv)::fr) w'->(∃ q':Nat,((q+1:Nat):Int)=(q':Int)/\q'<=o.2.2.len/\St ⟨W,mp⟩ ((b1,hoT o)::(b,svT sv)::fr) w')/\o.2.2.len - ((q+1:Nat):Int).toNat<o.2.2.len - (q:Int).toNat:=λw' st=>⟨⟨q+1,rfl,O_,st⟩,O_⟩
   exact⟨v.Number,st9.cell 0 rfl rfl,sv.Mark,st9.cell 2 rfl rfl,λ_=>⟨λ_=>k4 nx,λ_=>⟨v.Drop,st9.cell 0 rfl rfl,k4 nx⟩⟩,λ_=>k4 nx⟩
 refine⟨sv.Mark,st1.cell 0 rfl rfl,λ_=>k0 (λh=>by cases h) st1,λh1=>⟨sv.Mark,st1.cell 0 rfl rfl,k0 (λh2=> ?_) st1⟩⟩;have h1:=dF h1;have h2:=dF h2;omega
end
abbrev uB (x:Int):Value:=Vb x
def okB (xs:List Int):Prop:=∀ x∈xs,0<=x/\x<256
theorem okB.app {xs ys:List Int} (h:okB xs) (h2:okB ys):okB (xs++ys):=λx hx=>(aG.1 hx).elim (h x) (h2 x)
theorem okB.one {x:Int} (h:0<=x/\x<256):okB [x]:=λy hy=>by
 have h2:y=x:=by simpa using hy
 rw [h2]; exact h
theorem zbh (n:Int):0<=u8.wrap n/\u8.wrap n<256:=by rw [zJm]; omega
theorem z7f:∀ xs:List Int,zv (xs.map uB)=true
 | []=>rfl
 | x::r=>by
  have:=z7f r;unfold zv at this ⊢;rw [cG,fM,this]; rfl
theorem z0h {xs:List Int} (h:okB xs):∃ str:ByteArray,xs.map uB=z6 str/\str.size=xs.length:=by
 refine⟨⟨(xs.map λx=>UInt8.ofNat x.toNat).toArray⟩,?_,by simp [ByteArray.size]⟩;unfold z6;simp only [dR];refine gL λx hx=> ?_;obtain⟨h0,h1⟩:=h x hx;show Vb x=Vb (((UInt8.ofNat x.toNat).toNat:Nat):Int);have:(UInt8.ofNat x.toNat).toNat=x.toNat:=by rw [UInt8.toNat_ofNat']; omega
 rw [this,Int.toNat_of_nonneg h0]
theorem z1h (s:ByteArray):∃ xs,z6 s=xs.map uB/\okB xs/\xs.length=s.size:=by
 refine⟨s.data.toList.map λc=>(c.toNat:Int),?_,λx hx=> ?_,by simp⟩
 ·unfold z6; rw [dR]; rfl
 ·obtain⟨c,_,rfl⟩:=aQ.1 hx;have:=c.toNat_lt;omega
section
variable {w0:Base} {w:World} {fr cs:List zb} {wr:OA} {N:Nat}
theorem s_E {s:Slc} {xs:List Int} {R:Slc->WP} (st:St w0 fr w) (hs:zj w s 1 (xs.map uB)) (hl:s.len<=140737488351232)
    (k:∀ s' rb w',RowC 1 s' (xs.map uB) rb->St w0 (rb++fr) w'->R s' w'):C_u s w R:=by
 apply S_m;unfold F_yd;have hlen:=hs.1;refine⟨λh=> ?_,λh=>λb w1 hb hw=> ?_⟩
 ·have hp:s.ptr=none:=by simpa using h
  have hx:xs.map uB=[]:=by
   obtain⟨_,h2 | ⟨h2,_⟩⟩:=hs
   ·exact h2
   ·rw [hp] at h2; cases h2
  rw [hx] at k;exact k _ [] _ RowC.nil st
 ·have st2:=st.alloc (cs:=[]) hb hw;refine⟨_,(Ext.new hw).src hs,?_⟩;exact(RowC.new (b:=b) (xs:=[]) (n:=0) rfl:RowC 1 ⟨some ⟨b,0,none⟩,0,0⟩ [] [(b,[])]).append st2 hlen (z7f xs) rfl (by show(0+s.len)*1<=_; omega) λs' rb w' r st' hl'=>k _ _ _ (by simpa using r) st'
def WrW (wr:OA) (N:Nat) (cs:List zb):Prop:=∃ b s xs rb,wr=some ⟨b,0,none⟩/\cs=(b,[Vo true,Vs s])::rb/\RowC 1 s (xs.map uB) rb/\okB xs/\xs.length<=N
theorem WrW.le {M:Nat} (h:WrW wr N cs) (hm:N<=M):WrW wr M cs:=by
 obtain⟨b,s,xs,rb,h1,h2,h3,h4,h5⟩:=h;exact⟨b,s,xs,rb,h1,h2,h3,h4,O_⟩
theorem s_yb {R:OA->WP} (st:St w0 fr w) (k:∀ wr cs w',WrW wr 0 cs->St w0 (cs++fr) w'->R wr w'):C_oc w R:=by
 apply S_mc;unfold F_Af;intro b w1 hb hw;exact k _ [(b,[Vo true,Vs ⟨none,0,0⟩])] w1 ⟨b,⟨none,0,0⟩,[],[],rfl,rfl,RowC.nil,λx hx=>(by cases hx),bC _⟩ (st.alloc hb hw)
theorem s_v {R:Bool->WP} (o:WrW wr N cs) (st:St w0 (cs++fr) w) (k:R false w):C_E wr w R:=by
 apply S_Mb;unfold F_Ye;obtain⟨b,s,xs,rb,rfl,rfl,_⟩:=o;exact⟨N_,λ_=>⟨rfl,true,st.cell 0 rfl rfl,k⟩⟩
theorem WrW.push (o:WrW wr N cs) (st:St w0 (cs++fr) w) (hN:N<=140737488300000) {x:Int} (hx:0<=x/\x<256) {T:TypeId} {X:WP} (k:∀ cs' w',WrW wr (N+1) cs'->St w0 (cs'++fr) w'->X w') :
    IsAt wr/\∃ v:Slc,w.cell? ⟨pblk wr,poff wr+1,none⟩=some (Vs v)/\∀ b_ w1,b_=w.heap.size->w1=w.alloc (Obj.cells ([uB x]).toArray T (0,0))->∃ src,zj w1 ⟨some ⟨b_,0,none⟩,1,1⟩ 1 src/\zG 1 1 T [uB 0] v src 1 w1 (λv2 w2=>IsAt wr/\zr w2 (pblk wr) (poff wr+1) 1/\∀ w3,w3=World.puts (pblk wr) (poff wr+1) [Vs v2] w2->X w3):=by
 obtain⟨b,s,xs,rb,rfl,rfl,r,ok,hl⟩:=o;refine⟨rfl,s,st.cell 0 rfl rfl,λb1 w1 hb1 hw1=>⟨[uB x],zJ hb1 hw1 rfl,?_⟩⟩;have hsl:=r.len;rw [lM] at hsl;have st1:St w0 (rb++((b,[Vo true,Vs s])::fr)) w1:=(st.alloc hb1 hw1).drop1.pq;refine r.append st1 rfl rfl rfl O_ λs' rb' w2 r2 st2 hl2=> ?_;have st2:St w0 ((b,[Vo true,Vs s])::(rb'++fr)) w2:=st2.pq;refine⟨rfl,st2.writable 0,λw3 hw3=> ?_⟩;have st3:St w0 ((b,[Vo true,Vs s'])::(rb'++fr)) w3:=st2.put0 hw3;exact k _ w3 ⟨b,s',xs++[x],rb',rfl,rfl,by rw [aR]; exact r2,ok.app (okB.one hx),by rw [aB,bT]; omega⟩ st3
theorem s_l {n:Int} {R:WP} (o:WrW wr N cs) (st:St w0 (cs++fr) w) (h0:0<=n) (h1:n<18446744073709551616) (hN:N<=140737488200000) (k:∀ cs' w',WrW wr (N+10) cs'->St w0 (cs'++fr) w'->R w'):C_m wr n w R:=by
 apply S_0b;unfold F_if;refine s_v o st ⟨N_,λ_=> ?_⟩;refine⟨λn w'=>∃(m f:Nat) (cs:List zb),n=(m:Int)/\m<128 ^ f/\1<=f/\f<=10/\WrW wr (N+10 - f) cs/\St w0 (cs++fr) w',λn _=>n.toNat,⟨n.toNat,10,cs,O_,?_,O_,O_,o.le O_,st⟩,?_⟩
 ·have:(128:Nat) ^ 10=1180591620717411303424:=D_;omega
 clear st o;rintro n w1 ⟨m,f,cs,rfl,hm,hf1,hf2,o,st⟩;unfold F_qe;refine⟨λhi=> ?_,λhi=>o.push st O_ (zbh _) λcs' w' o st=>k cs' w' (o.le O_) st⟩;have hi:=dT hi;have e:Int.fdiv (m:Int) (2 ^ 7)=((m / 128:Nat):Int):=z0e m 128
 have hf:2<=f:=by
  refine bX λhh=> ?_;have:f=1:=O_;rw [this] at hm;omega
 refine o.push st O_ (zbh _) λcs' w' o st=> ?_;rw [e];refine⟨⟨m / 128,f - 1,cs',rfl,?_,O_,O_,o.le O_,st⟩,M_⟩;have:128 ^ f=128 ^ (f - 1)*128:=by rw [<-Nat.pow_succ]; congr 1; omega
 rw [this] at hm;exact Nat.div_lt_of_lt_mul (by rw [Nat.mul_comm]; exact hm)
theorem s_wc {n:Int} {R:Int->WP} (o:WrW wr N cs) (st:St w0 (cs++fr) w) (hN:N<=140737488200000) (k:∀ e cs' w',WrW wr (N+1) cs'->St w0 (cs'++fr) w'->R e w'):C_8 wr n 1 w R:=by
 apply S_wb;unfold F_Ie;have oN:=o.le (M:=N+1) O_;refine s_v o st ⟨N_,λ_=>⟨N_,λ_=>⟨D_,λ_=>k _ cs w oN st,λ_=> ?_⟩⟩⟩;refine⟨λn t w'=>∃(p:Nat) (cs:List zb),t=(p:Int)/\p<=1/\WrW wr (N+p) cs/\St w0 (cs++fr) w',λ_ t _=>1 - t.toNat,⟨0,cs,rfl,O_,o,st⟩,?_⟩;clear st o oN;rintro n t w1 ⟨p,cs,rfl,hp,o,st⟩;unfold F_Nd;refine⟨λhi=> ?_,λhi=>k _ cs w1 (o.le O_) st⟩;have hi:=dT hi;have wp:i64.wrap ((p:Int)+1)=((p+1:Nat):Int):=W_;rw [wp];exact o.push st O_ (zbh _) λcs' w' o st=>⟨⟨p+1,cs',rfl,O_,o,st⟩,L_⟩
theorem s_Nb {s:ByteArray} {R:WP} (o:WrW wr N cs) (st:St w0 (cs++fr) w) (hs:s.size<=1024) (hN:N<=140737488100000) (k:∀ cs' w',WrW wr (N+1034) cs'->St w0 (cs'++fr) w'->R w'):C_lb wr s w R:=by
 apply S_Kb;unfold F_kd;refine s_v o st ⟨N_,λ_=> ?_⟩;rw [zrh _ O_ O_];refine s_l o st O_ O_ O_ λcs1 w1 o st=> ?_;obtain⟨b,s1,xs,rb,rfl,rfl,r,ok,hl⟩:=o;obtain⟨ys,ey,oy,hy⟩:=z1h s;refine⟨rfl,s1,st.cell 0 rfl rfl,?_⟩;rw [ey];have hsl:=r.len;rw [lM] at hsl;have st1:St w0 (rb++((b,[Vo true,Vs s1])::fr)) w1:=st.pq;refine r.append st1 (by rw [lM,hy,aW]) (z7f ys) rfl O_ λs' rb' w2 r2 st2 hl2=> ?_;have st2:St w0 ((b,[Vo true,Vs s1])::(rb'++fr)) w2:=st2.pq;refine⟨rfl,st2.writable 0,λw3 hw3=> ?_⟩;have st3:St w0 ((b,[Vo true,Vs s'])::(rb'++fr)) w3:=st2.put0 hw3;exact k _ w3 ⟨b,s',xs++ys,rb',rfl,rfl,by rw [aR]; exact r2,ok.app oy,by rw [aB]; omega⟩ st3
theorem s_jd {R:Slc->WP} (o:WrW wr N cs) (st:St w0 (cs++fr) w) (hN:N<=140737488200000) (k:∀ s xs rb w',RowC 1 s (xs.map uB) rb->okB xs->xs.length<=N->St w0 (rb++fr) w'->R s w'):C_Yb wr w R:=by
 apply S_Lb;unfold F_Xe;refine s_v o st ⟨N_,λ_=> ?_⟩;obtain⟨b,s1,xs,rb,rfl,rfl,r,ok,hl⟩:=o;have hsl:=r.len;rw [lM] at hsl;refine⟨rfl,s1,st.cell 0 rfl rfl,s_E st (r.srcM (λc hc=>by simp [hc]) st) O_ λs' rb' w1 r1 st1=>k s' xs rb' w1 r1 ok hl (st1.wq ((b,[Vo true,Vs s1])::rb))⟩
def RdW (r:OA) (X:Nat) (cs:List zb):Prop:=∃ b s xs rb code,r=some ⟨b,0,none⟩/\cs=(b,[Vo true,Vs s,Vi code])::rb/\RowC 1 s (xs.map uB) rb/\okB xs/\xs.length=X
variable {r:OA} {X:Nat}
theorem s_zb {s:Slc} {xs:List Int} {R:OA->WP} (st:St w0 fr w) (hs:zj w s 1 (xs.map uB)) (ok:okB xs) (hl:s.len<=140737488351232) (k:∀ r cs w',RdW r xs.length cs->St w0 (cs++fr) w'->R r w'):C_ic s w R:=by
 apply S_lc;unfold F_rf;refine s_E st hs hl λs' rb w1 ro st1 b w2 hb hw=> ?_;exact k _ ((b,[Vo true,Vs s',Vi 0])::rb) w2 ⟨b,s',xs,rb,0,rfl,rfl,ro,ok,rfl⟩ (st1.alloc (cs:=[Vo true,Vs s',Vi 0]) hb hw)
theorem s_V {R:Int->WP} (o:RdW r X cs) (st:St w0 (cs++fr) w) (k:R (X:Int) w):C_V r w R:=by
 apply S_Hb;unfold F_Se;obtain⟨b,s,xs,rb,code,rfl,rfl,ro,ok,rfl⟩:=o;have hsl:=ro.len;rw [lM,aW] at hsl;refine⟨N_,λ_=>⟨rfl,s,st.cell 0 rfl rfl,?_⟩⟩;dsimp only; rw [<-hsl]; exact k
theorem s_wd {R:Int->WP} (o:RdW r X cs) (st:St w0 (cs++fr) w) (k:∀ e,R e w):C_7b r w R:=by
 apply S_Yb;unfold F_9e;obtain⟨b,s,xs,rb,code,rfl,rfl,ro,ok,rfl⟩:=o
 have k1:∀ {t:Bool},F_Nb (Z0 b) R t w:=λ{t}=>by
  unfold F_Nb;exact⟨λ_=>k _,λ_=>⟨rfl,code,st.cell 0 rfl rfl,k _⟩⟩
 refine⟨N_,λ_=>⟨rfl,true,st.cell 0 rfl rfl,?_⟩⟩;unfold F_Tc;exact⟨N_,λ_=>⟨rfl,code,st.cell 0 rfl rfl,λ_=>⟨rfl,s,st.cell 0 rfl rfl,k1⟩,λ_=>k1⟩⟩
theorem s_ob {next:Value} {Q:List zb->Prop} {L:List zb} {R:Bool->WP} (o:RdW r X cs) (st:St w0 (cs++(L++fr)) w) (hQ:Q L) (hX:X<=140737488351232)
    (hn:∀(s:Slc) (xs:List Int) (L D:List zb) (w':World),Q L->okB xs->xs.length=X->(∀ F w',St w0 (D++F) w'->zj w' s 1 (xs.map uB))->s.len<=s.cap->St w0 (D++(L++fr)) w'->zw (P:=Tryz.prog) next #[Vs s] w' (λe' w''=>∃(n e:Int) (L':List zb),e'=Ending.returned (Value.tuple #[Vi n,Vi e])/\(e=0->0<=n/\n<=(X:Int))/\Q L'/\St w0 (D++(L'++fr)) w''))
    (k:∀ b X' cs' L' w',X'<=X->RdW r X' cs'->Q L'->St w0 (cs'++(L'++fr)) w'->R b w'):C_X r next w R:=by
 apply S_Jb;unfold F_hd;obtain⟨b,s,xs,rb,code,rfl,rfl,ro,ok,rfl⟩:=id o;have hsl:=ro.len;rw [lM,aW] at hsl;have hcp:=ro.cap_le
 have k0:∀ {t:Bool},F_x (Z0 b) next R t w:=λ{t}=>by
  unfold F_x;refine⟨λ_=>k false _ _ L w (bC _) o hQ st,λ_=>⟨rfl,s,st.cell 0 rfl rfl,?_⟩⟩;refine zw.mono (hn s xs L ((b,[Vo true,Vs s,Vi code])::rb) w hQ ok rfl (λF w' st'=>ro.srcM (λc hc=>by simp [hc]) st') hcp st) ?_;rintro e' w1 ⟨n,e,L',rfl,hne,hQ',st1⟩;refine⟨n,e,rfl,λ_=>⟨rfl,st1.writable 0,λw2 hw2=> ?_⟩,λhe w2 hw2=> ?_⟩
  ·have st2:St w0 ((b,[Vo true,Vs s,Vi e])::(rb++(L'++fr))) w2:=st1.put0 hw2;exact k false _ _ L' w2 (bC _) ⟨b,s,xs,rb,e,rfl,rfl,ro,ok,rfl⟩ hQ' st2
  ·have he:e=0:=by simpa using he
   obtain⟨n0,n1⟩:=hne he;have st2:=st1.drew hw2;refine⟨rfl,s,st2.cell 0 rfl rfl,rfl,s,st2.cell 0 rfl rfl,rfl,s,st2.cell 0 rfl rfl,⟨n0,O_,O_,O_⟩,λs1 hs1=>⟨rfl,st2.writable 0,λw3 hw3=> ?_⟩⟩;have st3:St w0 ((b,[Vo true,Vs s1,Vi code])::(rb++(L'++fr))) w3:=st2.put0 hw3;have cut:=ro.cut (lo:=n) (hi:=((s.len:Nat):Int)) (mx:=((s.len:Nat):Int)) n0 O_ O_ O_ O_;rw [<-hs1,aW,aW,tN,<-fN,<-eZ] at cut;exact k true _ _ L' w3 (by rw [aZ,bJ]; omega) ⟨b,s1,_,rb,code,rfl,rfl,cut,λx hx=>ok x (dM (cT hx)),rfl⟩ hQ' st3
 exact⟨N_,λ_=>⟨rfl,true,st.cell 0 rfl rfl,λ_=>k0,λ_=>⟨rfl,code,st.cell 0 rfl rfl,k0⟩⟩⟩
theorem s_Ob {s:Slc} {xs:List Int} {R:Int->Int->Int->WP} (hs:zj w s 1 (xs.map uB)) (hl:s.len<=140737488351232) (k:∀ v n e,0<=v->(e=0->0<=n/\n<=((s.len:Nat):Int))->R v n e w):C_Ac s w R:=by
 apply S_dd;unfold F_Cg;refine⟨λn t w'=>w'=w/\∃ p:Nat,t=(p:Int)/\p<=s.len,λ_ t _=>s.len - t.toNat,⟨rfl,0,rfl,O_⟩,?_⟩;rintro n t _ ⟨rfl,p,rfl,hp⟩;unfold F_Qf;refine⟨λh=> ?_,λ_=>k _ _ _ O_ (λh=>by cases h)⟩;have h:=dT h;have wi:i64.wrap ((p:Int)+1)=((p+1:Nat):Int):=W_;have w7:i64.wrap (7*(p:Int))=((7*p:Nat):Int):=W_;have hsz:s.len=xs.length:=by have:=hs.1; rw [lM] at this; omega
 obtain⟨a,c,hc,hcell⟩:=hs.get (i:=(p:Int)) O_ h;rw [wi];refine⟨a,O_,h,c,hcell,λ_=>k _ _ _ O_ (λh=>by cases h),λ_=>⟨O_,λ_=>k _ _ _ ?_ (λ_=>by omega),λ_=>⟨⟨rfl,p+1,rfl,O_⟩,L_⟩⟩⟩;unfold bor;rw [z0d];omega
end
section
variable {w0:Base} {w:World} {fr cs:List zb} {r:OA} {X:Nat}
theorem z9e {α:Type} {b:Nat} {f:α->Value} {x:α} {w3:World} {bs' L:List zb} {R:α->WP} (st:St w0 (bs'++((b,[f x])::L++fr)) w3) (k:∀ w',St w0 (bs'++fr) w'->R x w') :
    ∃ v,w3.cell? ⟨b,0,none⟩=some (f v)/\(zr w3 b 0 1/\(∀ w4,w4=World.puts b 0 [f v] w3->(∃ res,zf w4 b 0 [f res]/\(R res w4)))):=by
 have st1:St w0 ((b,[f x])::(L++(bs'++fr))) w3:=st.pq;refine⟨x,st1.cell 0 rfl rfl,st1.writable 0 rfl (by simp [poff]),λw4 hw4=> ?_⟩;have st2:St w0 ((b,[f x])::(L++(bs'++fr))) w4:=st1.put0 hw4;exact⟨x,⟨st2.cell 0 rfl rfl,trivial⟩,k _ (st2.wq ((b,[f x])::L))⟩
theorem s_xc {R:Int->WP} (o:RdW r X cs) (st:St w0 (cs++fr) w) (hX:X<=140737488351232) (k:∀ v X' cs' w',0<=v->X'<=X->RdW r X' cs'->St w0 (cs'++fr) w'->R v w'):C_sb r w R:=by
 apply S_Zb;unfold F_af;intro b w1 hb hw;have st1:St w0 (cs++([(b,[Value.int .u64 0])]++fr)) w1:=(st.alloc (cs:=[Value.int .u64 0]) hb hw).pq;refine s_ob (Q:=λL=>∃ v,0<=v/\L=[(b,[Value.int .u64 v])]) o st1 ⟨0,O_,rfl⟩ hX (λs xs L D w2 hQ ok hl hs hc st2=> ?_) λt X' cs' L' w2 hX' o2 hQ st2=> ?_
 ·obtain⟨v0,hv,rfl⟩:=hQ;have hsl:s.len=xs.length:=by have:=(hs _ _ st2).1; rw [lM] at this; omega
  refine zw.mk (all:=#[Vs s,Vp (Z0 b)]) K_ rfl ?_;refine Calls.mono (show C_Tc s (Z0 b) w2 (λn e w''=>∃ L',(e=0->0<=n/\n<=(X:Int))/\(∃ v,0<=v/\L'=[(b,[Value.int .u64 v])])/\St w0 (D++(L'++fr)) w'') from ?_) (by rintro e w' ⟨n,e',rfl,L',h⟩; exact⟨n,e',L',rfl,h⟩);refine S_vb ?_;refine s_Ob (hs _ _ st2) O_ λv n e hv0 hn=> ?_;have st4:St w0 ((b,[Value.int .u64 v0])::(D++fr)) w2:=st2.pq;refine⟨rfl,st4.writable 0 rfl (by simp [poff]),λw3 hw3=> ?_⟩;have st5:St w0 ((b,[Value.int .u64 v])::(D++fr)) w3:=st4.put0 hw3;exact⟨[(b,[Value.int .u64 v])],λhe=>by have:=hn he; omega,⟨v,hv0,rfl⟩,st5.pq⟩
 ·obtain⟨v,hv,rfl⟩:=hQ;exact z9e (L:=[]) (f:=λx:Int=>Value.int .u64 x) st2 λw' st'=>k v X' cs' w' hv hX' o2 st'
theorem s_xd {R:Int->WP} (o:RdW r X cs) (st:St w0 (cs++fr) w) (hX:X<=140737488351232) (k:∀ v X' cs' w',X'<=X->RdW r X' cs'->St w0 (cs'++fr) w'->R v w'):C_Tb r 1 w R:=by
 apply S_ub;unfold F_ze;intro b w1 hb hw b1 w2 hb1 hw1;have st1:St w0 (cs++([(b1,[Value.int .u64 0]),(b,[Vi 1])]++fr)) w2:=((st.alloc (cs:=[Vi 1]) hb hw).alloc (cs:=[Value.int .u64 0]) hb1 hw1).pq;refine s_ob (Q:=λL=>∃ v,L=[(b1,[Value.int .u64 v]),(b,[Vi 1])]) o st1 ⟨0,rfl⟩ hX (λs xs L D w2 hQ ok hl hs hc st2=> ?_) λt X' cs' L' w2 hX' o2 hQ st2=> ?_
 ·obtain⟨v,rfl⟩:=hQ;have hsl:s.len=xs.length:=by have:=(hs _ _ st2).1; rw [lM] at this; omega
  refine zw.mk (all:=#[Vs s,Vp (Z0 b),Vp (Z0 b1)]) K_ rfl ?_;refine Calls.mono (show C_rc s (Z0 b) (Z0 b1) w2 (λn e w''=>∃ L',(e=0->0<=n/\n<=(X:Int))/\(∃ v,L'=[(b1,[Value.int .u64 v]),(b,[Vi 1])])/\St w0 (D++(L'++fr)) w'') from ?_) (by rintro e w' ⟨n,e',rfl,L',h⟩; exact⟨n,e',L',rfl,h⟩);refine S_bb ?_;unfold F_Oc
  have cb:∀ {v:Int} {w':World},St w0 (D++([(b1,[Value.int .u64 v]),(b,[Vi 1])]++fr)) w'->w'.cell? ⟨b,0,none⟩=some (Vi 1):=λ{v w'} st'=>by
   have st3:St w0 ((b,[Vi 1])::(b1,[Value.int .u64 v])::(D++fr)) w':=st'.pq;exact st3.cell 0 rfl rfl
  refine⟨rfl,1,cb st2,N_,λh=>⟨1,cb st2,?_⟩⟩;unfold F_H;refine⟨N_,λ_=>⟨rfl,1,cb st2,λ_=>⟨_,N_,⟨v,rfl⟩,st2⟩,λh3=>⟨rfl,1,cb st2,?_⟩⟩⟩;have h3:=dF h3;refine⟨λi w'=>∃(p:Nat) (v:Int),i=(p:Int) - 1/\p<=1/\St w0 (D++([(b1,[Value.int .u64 v]),(b,[Vi 1])]++fr)) w',λi _=>(i+1).toNat,⟨1,v,D_,O_,st2⟩,?_⟩;clear st2;rintro i w3 ⟨p,v,rfl,hp,st2⟩;unfold F_2;refine⟨λhi w4 hd4=> ?_,λ_=>⟨rfl,1,cb st2,_,λ_=>by omega,⟨v,rfl⟩,st2⟩⟩;have hi:=dT hi;obtain rfl:p=1:=O_;have st4:=st2.drew hd4;have st5:St w0 ((b1,[Value.int .u64 v])::(b,[Vi 1])::(D++fr)) w4:=st4.pq;have hs4:=hs _ _ st4;obtain⟨a,c,hc2,hcell⟩:=hs4.get (i:=(((1:Nat):Int) - 1)) O_ O_;refine⟨rfl,v,st5.cell 0 rfl rfl,a,O_,O_,c,hcell,st5.writable 0 rfl (by simp [poff]),λw5 hw5=> ?_⟩;have st6:St w0 ((b1,[Value.int .u64 (bor .u64 (u64.wrap (v*2 ^ 8)) (u64.wrap c))])::(b,[Vi 1])::(D++fr)) w5:=st5.put0 hw5;exact⟨⟨0,bor .u64 (u64.wrap (v*2 ^ 8)) (u64.wrap c),D_,O_,st6.pq⟩,by show Int.toNat _<Int.toNat _; decide⟩
 ·obtain⟨v,rfl⟩:=hQ;exact z9e (L:=[(b,[Vi 1])]) (f:=λx:Int=>Value.int .u64 x) st2 λw' st'=>k v X' cs' w' hX' o2 st'
theorem s_Pb {most:Int} {R:ByteArray->WP} (o:RdW r X cs) (st:St w0 (cs++fr) w) (hX:X<=140737488351232) (hm:0<=most/\most<=1024) (k:∀ v X' cs' w',X'<=X->RdW r X' cs'->St w0 (cs'++fr) w'->R v w'):C_kb r most w R:=by
 apply S_Ib;unfold F_Te;intro b w1 hb hw b1 w2 hb1 hw1;have st1:St w0 (cs++([(b1,[Vt Be]),(b,[Vi most])]++fr)) w2:=((st.alloc (cs:=[Vi most]) hb hw).alloc (cs:=[Vt Be]) hb1 hw1).pq;refine s_ob (Q:=λL=>∃ v,L=[(b1,[Vt v]),(b,[Vi most])]) o st1 ⟨_,rfl⟩ hX (λs xs L D w2 hQ ok hl hs hc st2=> ?_) λt X' cs' L' w2 hX' o2 hQ st2=> ?_
 ·obtain⟨v,rfl⟩:=hQ;have hsl:s.len=xs.length:=by have:=(hs _ _ st2).1; rw [lM] at this; omega
  refine zw.mk (all:=#[Vs s,Vp (Z0 b),Vp (Z0 b1)]) K_ rfl ?_;refine Calls.mono (show C_Mc s (Z0 b) (Z0 b1) w2 (λn e w''=>∃ L',(e=0->0<=n/\n<=(X:Int))/\(∃ v,L'=[(b1,[Vt v]),(b,[Vi most])])/\St w0 (D++(L'++fr)) w'') from ?_) (by rintro e w' ⟨n,e',rfl,L',h⟩; exact⟨n,e',L',rfl,h⟩);refine S_hb ?_;unfold F_Uc;have st3:St w0 ((b,[Vi most])::(b1,[Vt v])::(D++fr)) w2:=st2.pq;have bad:∀ {n e:Int},e≠0->∃(L':List zb),(e=0->0<=n/\n<=(X:Int))/\(∃ v,L'=[(b1,[Vt v]),(b,[Vi most])])/\St w0 (D++(L'++fr)) w2:=λ{n e} he=>⟨_,λh=>absurd h he,⟨v,rfl⟩,st2⟩
  refine⟨rfl,most,st3.cell 0 rfl rfl,λ_=>bad D_,λ_=>s_Ob (hs _ _ st2) O_ λn z e hn0 hn=>⟨λhe=>bad (by simpa using he),λhe=>⟨rfl,most,st3.cell 0 rfl rfl,λ_=>bad D_,λh1=>⟨λ_=>bad D_,λh2=> ?_⟩⟩⟩⟩;have he:e=0:=by simpa using he
  obtain⟨z0,z1⟩:=hn he;have h1:=dF h1;have h2:=dF h2;rw [zrh _ O_ O_] at h1;rw [i64_in ((s.len:Int) - z) O_ O_,zrh _ O_ O_] at h2;rw [i64_in n O_ O_,i64_in (z+n) O_ O_];refine⟨⟨z0,O_,O_,O_⟩,λs2 hs2=> ?_⟩;have hcut:=zj.cut (hs _ _ st2) (lo:=z) (hi:=z+n) (mx:=((s.cap:Nat):Int)) z0 O_ O_ O_;rw [<-hs2,aW,aW,<-fN,<-eZ] at hcut;obtain⟨str,e1,e2⟩:=z0h (xs:=(xs.drop z.toNat).take ((z+n).toNat - z.toNat)) (λx hx=>ok x (dM (cT hx)));refine⟨str,e1 ▸ hcut,?_⟩;have st4:St w0 ((b1,[Vt v])::(b,[Vi most])::(D++fr)) w2:=st2.pq;refine⟨rfl,st4.writable 0 rfl (by simp [poff]),λw3 hw3=> ?_⟩;have st5:St w0 ((b1,[Vt str])::(b,[Vi most])::(D++fr)) w3:=st4.put0 hw3;exact⟨_,λ_=>by omega,⟨str,rfl⟩,st5.pq⟩
 ·obtain⟨v,rfl⟩:=hQ;exact z9e (L:=[(b,[Vi most])]) (f:=λx:ByteArray=>Vt x) st2 λw' st'=>k v X' cs' w' hX' o2 st'
end
def DcW (b2 b3 b4:Nat) (L:Nat) (cs:List zb):Prop :=
 ∃ e X r rbs,RdW r X rbs/\X<=L/\L<=140737488351232/\cs=(b2,[Vi e])::(b3,[Vp r])::(b4,[Vi ((L:Nat):Int)])::rbs
abbrev pAt (b:Nat):Value:=Vp (Z0 b)
abbrev zt (b2 b3 b4:Nat):Value:=Value.func (.func 118) #[] #[pAt b2,pAt b3,pAt b4]
abbrev numV (b2 b3 b5:Nat):Value:=Value.func (.func 121) #[] #[pAt b2,pAt b3,pAt b5]
section
variable {w0:Base} {w:World} {fr cs:List zb} {b2 b3 b4 b5 b6 L:Nat}
theorem s_kd {is:Bool} {f:Int} {R:Bool->WP} (o:DcW b2 b3 b4 L cs) (st:St w0 (cs++fr) w) (k:∀ b L' cs' w',L'<=L->(b=false->(is=true->f=0)/\L'<L)->DcW b2 b3 b4 L' cs'->St w0 (cs'++fr) w'->R b w') :
    C_Rc is f (Z0 b2) (Z0 b3) (Z0 b4) w R:=by
 apply S_Xc;unfold F_xe;obtain⟨e,X,r,rbs,ro,hX,hL,rfl⟩:=o;have st:St w0 ((b2,[Vi e])::(b3,[Vp r])::(b4,[Vi ((L:Nat):Int)])::(rbs++fr)) w:=st
 have fin:∀ {e:Int} {w':World},(e=0->(is=true->f=0)/\X<L)->St w0 ((b2,[Vi e])::(b3,[Vp r])::(b4,[Vi ((L:Nat):Int)])::(rbs++fr)) w'->F_C (Z0 b2) (Z0 b3) (Z0 b4) R w':=by
  intro e w' he st';unfold F_C;have st2:St w0 (rbs++((b2,[Vi e])::(b3,[Vp r])::(b4,[Vi ((L:Nat):Int)])::fr)) w':=st'.pq;have st3:St w0 ((b4,[Vi ((L:Nat):Int)])::(b2,[Vi e])::(b3,[Vp r])::(rbs++fr)) w':=st'.pq;refine⟨rfl,r,st'.cell 1 rfl rfl,s_V ro st2 ⟨rfl,st3.writable 0 rfl (aM rfl),λw4 hw4=> ?_⟩⟩;have st4:St w0 ((b4,[Vi ((X:Nat):Int)])::(b2,[Vi e])::(b3,[Vp r])::(rbs++fr)) w4:=st3.put0 hw4;refine⟨rfl,e,st4.cell 1 rfl rfl,?_⟩;have st5:St w0 ((b2,[Vi e])::(b3,[Vp r])::(b4,[Vi ((X:Nat):Int)])::(rbs++fr)) w4:=st4.pq;exact k _ X _ w4 hX (λh=>he (by simpa using h)) ⟨e,X,r,rbs,ro,bC _,O_,rfl⟩ st5
 refine⟨rfl,e,st.cell 0 rfl rfl,λh=>fin (λh0=>by rw [h0] at h; cases h) st,λh w4 hd4=> ?_⟩;have st4:=st.drew hd4;have st4r:St w0 (rbs++((b2,[Vi e])::(b3,[Vp r])::(b4,[Vi ((L:Nat):Int)])::fr)) w4:=st4.pq;refine⟨rfl,r,st4.cell 1 rfl rfl,rfl,((L:Nat):Int),st4.cell 2 rfl rfl,s_V ro st4r ⟨st4.cell 2 rfl rfl,λh2=> ?_,λh2=>⟨λh3=> ?_,λh3=> ?_⟩⟩⟩
 ·refine⟨rfl,r,st4.cell 1 rfl rfl,s_wd ro st4r λe1=>⟨rfl,st4.writable 0 rfl (aM rfl),λw5 hw5=> ?_⟩⟩;have st5:St w0 ((b2,[Vi e1])::(b3,[Vp r])::(b4,[Vi ((L:Nat):Int)])::(rbs++fr)) w5:=st4.put0 hw5;refine⟨rfl,e1,st5.cell 0 rfl rfl,λh4=>⟨rfl,st5.writable 0 rfl (aM rfl),λw6 hw6=> ?_⟩,λh4=>fin (λh0=>by rw [h0] at h4; cases h4) st5⟩;exact fin (e:=5) (λh=>by cases h) (st5.put0 hw6)
 ·have h2:((X:Nat):Int)≠((L:Nat):Int):=by simpa using h2
  refine⟨rfl,st4.writable 0 rfl (aM rfl),λw6 hw6=> ?_⟩;exact fin (e:=f) (λhf=>⟨λ_=>hf,O_⟩) (st4.put0 hw6)
 ·have h2:((X:Nat):Int)≠((L:Nat):Int):=by simpa using h2
  exact fin (λ_=>⟨λh=>(by rw [h] at h3; cases h3),O_⟩) st4
theorem s_n {is:Bool} {f:Int} {K:Ending->WP} (o:DcW b2 b3 b4 L cs) (st:St w0 (cs++fr) w) (k:∀ b L' cs' w',L'<=L->(b=false->(is=true->f=0)/\L'<L)->DcW b2 b3 b4 L' cs'->St w0 (cs'++fr) w'->K (Ending.returned (Vo b)) w') :
    zw (P:=Tryz.prog) (zt b2 b3 b4) #[Vo is,Vi f] w K:=by
 refine zw.mk (all:=#[Vo is,Vi f,pAt b2,pAt b3,pAt b4]) K_ rfl ?_;have hh:C_Rc is f (Z0 b2) (Z0 b3) (Z0 b4) w (λv w'=>K (Ending.returned (Vo v)) w'):=s_kd o st k;refine Calls.mono hh ?_;rintro e w' ⟨v,rfl,h⟩;exact h
theorem s_u {K:Ending->WP} (o:DcW b2 b3 b4 L cs) (st:St w0 (cs++((b5,[zt b2 b3 b4])::fr)) w) (k:∀ v L' cs' w',(0<=v/\v<=65536)->L'<=L->DcW b2 b3 b4 L' cs'->St w0 (cs'++((b5,[zt b2 b3 b4])::fr)) w'->K (Ending.returned (Vi v)) w') :
    zw (P:=Tryz.prog) (numV b2 b3 b5) #[] w K:=by
 refine zw.mk (all:=#[pAt b2,pAt b3,pAt b5]) K_ rfl ?_;refine Calls.mono (show C_od (Z0 b2) (Z0 b3) (Z0 b5) w (λv w'=>K (Ending.returned (Vi v)) w') from ?_) (by rintro e w' ⟨v,rfl,h⟩; exact h);apply S_Yc;unfold F_bg;have hx:=o;obtain⟨e,X,r,rbs,ro,hX,hL,rfl⟩:=o;have st1:St w0 ((b2,[Vi e])::(b3,[Vp r])::(b4,[Vi ((L:Nat):Int)])::(rbs++((b5,[zt b2 b3 b4])::fr))) w:=st;refine⟨rfl,e,st1.cell 0 rfl rfl,λh=>k 0 L _ w O_ (bC _) hx st,λh=>⟨rfl,r,st1.cell 1 rfl rfl,?_⟩⟩;have st2:St w0 (rbs++((b2,[Vi e])::(b3,[Vp r])::(b4,[Vi ((L:Nat):Int)])::(b5,[zt b2 b3 b4])::fr)) w:=st1.pq;refine s_xc ro st2 O_ λv X' rb3 w3 hv hX' ro3 st3=> ?_;have st3b:St w0 ((b5,[zt b2 b3 b4])::(b2,[Vi e])::(b3,[Vp r])::(b4,[Vi ((L:Nat):Int)])::(rb3++fr)) w3:=st3.pq;refine⟨rfl,zt b2 b3 b4,st3b.cell 0 rfl rfl,?_⟩;have st3c:St w0 (((b2,[Vi e])::(b3,[Vp r])::(b4,[Vi ((L:Nat):Int)])::rb3)++((b5,[zt b2 b3 b4])::fr)) w3:=st3.pq;refine s_n ⟨e,X',r,rb3,ro3,O_,hL,rfl⟩ st3c λb L' cs' w4 hL' hb o4 st4=>⟨_,rfl,λh4=>k 0 L' cs' w4 O_ hL' o4 st4,λh4=> ?_⟩
 have h5:=(hb h4).1;have h6:¬ (v>65536):=λh=>by have:=h5 (decide_eq_true h); cases this
 rw [i64_in _ O_ O_];exact k v L' cs' w4 O_ hL' o4 st4
theorem s_Ic {R:T_h->WP} (o:DcW b2 b3 b4 L cs) (st:St w0 (cs++((b5,[zt b2 b3 b4])::(b6,[numV b2 b3 b5])::fr)) w) (k:∀ v L' cs' w',L'<=L->DcW b2 b3 b4 L' cs'->St w0 (cs'++((b5,[zt b2 b3 b4])::(b6,[numV b2 b3 b5])::fr)) w'->R v w') :
    C_Sc (Z0 b6) (Z0 b2) (Z0 b3) (Z0 b5) w R:=by
 apply S_Zc;unfold F_ye;intro b w1 hb hw1;have st1:St w0 ((b,verT ⟨0,Be,false⟩)::(cs++((b5,[zt b2 b3 b4])::(b6,[numV b2 b3 b5])::fr))) w1:=st.alloc hb hw1;have st1n:St w0 ((b6,[numV b2 b3 b5])::(b,verT ⟨0,Be,false⟩)::(cs++((b5,[zt b2 b3 b4])::fr))) w1:=st1.pq;refine⟨rfl,numV b2 b3 b5,st1n.cell 0 rfl rfl,?_⟩;have st1c:St w0 (cs++((b5,[zt b2 b3 b4])::(b6,[numV b2 b3 b5])::(b,verT ⟨0,Be,false⟩)::fr)) w1:=st1.pq;refine s_u o st1c λn L2 cs2 w2 hn hL2 o2 st2=>⟨_,rfl,?_⟩
 have st2b:St w0 ((b,verT ⟨0,Be,false⟩)::(cs2++((b5,[zt b2 b3 b4])::(b6,[numV b2 b3 b5])::fr))) w2:=st2.pq;refine⟨st2b.writable 0 rfl (aM rfl),λw3 hw3=> ?_⟩;have st3:St w0 ((b,verT ⟨n,Be,false⟩)::(cs2++((b5,[zt b2 b3 b4])::(b6,[numV b2 b3 b5])::fr))) w3:=st2b.put0 hw3;have hx2:=o2;obtain⟨e,X,r,rbs,ro,hX,hLb,rfl⟩:=o2
 have fin:∀ {v:T_h} {L':Nat} {cs':List zb} {w':World},L'<=L->DcW b2 b3 b4 L' cs'->St w0 ((b,verT v)::(cs'++((b5,[zt b2 b3 b4])::(b6,[numV b2 b3 b5])::fr))) w' ->
     ∃(v32:T_h),zf w' b 0 (verT v32)/\(zr w' b 0 3/\(∀ w7,w7=World.puts b 0 (verT v32) w'->(∃(res1:T_h),zf w7 b 0 (verT res1)/\(R res1 w7)))):=by
  intro v L' cs' w' hL' o' st';refine⟨v,(st'.get 0 rfl).all,st'.writable 0 rfl (aM rfl),λw7 hw7=> ?_⟩;have st7:St w0 ((b,verT v)::(cs'++((b5,[zt b2 b3 b4])::(b6,[numV b2 b3 b5])::fr))) w7:=st'.put0 hw7;exact⟨v,(st7.get 0 rfl).all,k v L' cs' w7 hL' o' st7.drop1⟩
 have st3e:St w0 ((b2,[Vi e])::(b3,[Vp r])::(b4,[Vi ((L2:Nat):Int)])::(b,verT ⟨n,Be,false⟩)::(rbs++((b5,[zt b2 b3 b4])::(b6,[numV b2 b3 b5])::fr))) w3:=st3.pq;refine⟨rfl,e,st3e.cell 0 rfl rfl,λ_=>fin hL2 hx2 st3,λh=>⟨rfl,r,st3e.cell 1 rfl rfl,?_⟩⟩;have st3r:St w0 (rbs++((b2,[Vi e])::(b3,[Vp r])::(b4,[Vi ((L2:Nat):Int)])::(b,verT ⟨n,Be,false⟩)::(b5,[zt b2 b3 b4])::(b6,[numV b2 b3 b5])::fr)) w3:=st3e.pq;refine s_xd ro st3r O_ λx X4 rb4 w4 hX4 ro4 st4=> ?_;have st4b:St w0 ((b,verT ⟨n,Be,false⟩)::(b2,[Vi e])::(b3,[Vp r])::(b4,[Vi ((L2:Nat):Int)])::(rb4++((b5,[zt b2 b3 b4])::(b6,[numV b2 b3 b5])::fr))) w4:=st4.pq;refine⟨st4b.writable 0 rfl (aM rfl),λw5 hw5=> ?_⟩;have st5:St w0 ((b,verT ⟨n,Be,x==1⟩)::(b2,[Vi e])::(b3,[Vp r])::(b4,[Vi ((L2:Nat):Int)])::(rb4++((b5,[zt b2 b3 b4])::(b6,[numV b2 b3 b5])::fr))) w5:=st4b.put0 hw5;have st5w:St w0 ((b5,[zt b2 b3 b4])::(b,verT ⟨n,Be,x==1⟩)::(b2,[Vi e])::(b3,[Vp r])::(b4,[Vi ((L2:Nat):Int)])::(rb4++((b6,[numV b2 b3 b5])::fr))) w5:=st5.pq;refine⟨rfl,zt b2 b3 b4,st5w.cell 0 rfl rfl,?_⟩;have st5c:St w0 (((b2,[Vi e])::(b3,[Vp r])::(b4,[Vi ((L2:Nat):Int)])::rb4)++((b,verT ⟨n,Be,x==1⟩)::(b5,[zt b2 b3 b4])::(b6,[numV b2 b3 b5])::fr)) w5:=st5.pq;refine s_n ⟨e,X4,r,rb4,ro4,O_,hLb,rfl⟩ st5c λt L6 cs6 w6 hL6 _ o6 st6=>⟨_,rfl,?_⟩
 have st6b:St w0 ((b,verT ⟨n,Be,x==1⟩)::(cs6++((b5,[zt b2 b3 b4])::(b6,[numV b2 b3 b5])::fr))) w6:=st6.pq
 have no:F_J (Z0 b3) (Z0 b5) R b false w6:=by
  unfold F_J;exact⟨N_,λ_=>fin O_ o6 st6b⟩
 refine⟨λh6=>⟨x==1,st6b.cell 0 rfl rfl,?_⟩,λ_=>no⟩;by_cases hx1:(x==1)=true
 ·rw [hx1]; exact no
 rw [show(x==1)=false by simpa using hx1];unfold F_J;refine⟨λ_=> ?_,N_⟩;obtain⟨e7,X7,r7,rbs7,ro7,hX7,hL7,rfl⟩:=o6;have st6e:St w0 ((b3,[Vp r7])::(b2,[Vi e7])::(b4,[Vi ((L6:Nat):Int)])::(b,verT ⟨n,Be,x==1⟩)::(rbs7++((b5,[zt b2 b3 b4])::(b6,[numV b2 b3 b5])::fr))) w6:=st6b.pq;refine⟨rfl,r7,st6e.cell 0 rfl rfl,?_⟩;have st6r:St w0 (rbs7++((b3,[Vp r7])::(b2,[Vi e7])::(b4,[Vi ((L6:Nat):Int)])::(b,verT ⟨n,Be,x==1⟩)::(b5,[zt b2 b3 b4])::(b6,[numV b2 b3 b5])::fr)) w6:=st6e.pq;refine s_Pb ro7 st6r O_ D_ λv X8 rb8 w8 hX8 ro8 st8=> ?_;have st8b:St w0 ((b,verT ⟨n,Be,x==1⟩)::(b3,[Vp r7])::(b2,[Vi e7])::(b4,[Vi ((L6:Nat):Int)])::(rb8++((b5,[zt b2 b3 b4])::(b6,[numV b2 b3 b5])::fr))) w8:=st8.pq;refine⟨st8b.writable 0 rfl (aM rfl),λw9 hw9=> ?_⟩;have st9:St w0 ((b,verT ⟨n,v,x==1⟩)::(b3,[Vp r7])::(b2,[Vi e7])::(b4,[Vi ((L6:Nat):Int)])::(rb8++((b5,[zt b2 b3 b4])::(b6,[numV b2 b3 b5])::fr))) w9:=st8b.put0 hw9;have st9w:St w0 ((b5,[zt b2 b3 b4])::(b,verT ⟨n,v,x==1⟩)::(b3,[Vp r7])::(b2,[Vi e7])::(b4,[Vi ((L6:Nat):Int)])::(rb8++((b6,[numV b2 b3 b5])::fr))) w9:=st9.pq;refine⟨rfl,zt b2 b3 b4,st9w.cell 0 rfl rfl,?_⟩;have st9c:St w0 (((b2,[Vi e7])::(b3,[Vp r7])::(b4,[Vi ((L6:Nat):Int)])::rb8)++((b,verT ⟨n,v,x==1⟩)::(b5,[zt b2 b3 b4])::(b6,[numV b2 b3 b5])::fr)) w9:=st9.pq;exact s_n ⟨e7,X8,r7,rb8,ro8,O_,hL7,rfl⟩ st9c λt L10 cs10 w10 hL10 _ o10 st10=>⟨_,rfl,fin (v:=⟨n,v,x==1⟩) O_ o10 (st10.pq)⟩
end
def zZj (os:List HO) (vs:List zb):Prop:=∀ o∈os,∃ rv,(∀ c∈rv,c∈vs)/\RowC 3 o.2.2 (o.2.1.flatMap verT) rv/\o.2.2.len<=65536
theorem zZj.add {os:List HO} {vs rv:List zb} {o:HO} (h:zZj os vs) (r:RowC 3 o.2.2 (o.2.1.flatMap verT) rv) (hl:o.2.2.len<=65536):zZj (os++[o]) (rv++vs):=λx hx=>by
 rcases aG.1 hx with hx | hx
 ·obtain⟨r2,h1,h2⟩:=h x hx;exact⟨r2,λc hc=>aG.2 (.inr (h1 c hc)),h2⟩
 ·obtain rfl:x=o:=by simpa using hx
  exact⟨rv,λc hc=>aG.2 (.inl hc),r,hl⟩
section
variable {W:World} {mp:List (Nat×Obj)} {w:World} {fr:List zb} {b1 b2 b3 b4 b5 b6:Nat}
def DeS (W:World) (mp:List (Nat×Obj)) (fr:List zb) (b1 b2 b3 b4 b5 b6 X0 nb:Nat) (w:World):Prop :=
 ∃(sv:T_b) (L:Nat) (cs:List zb) (bey:List Int) (os:List HO) (rb rh vs:List zb),DcW b2 b3 b4 L cs/\RowC 1 sv.Beyond (bey.map Vi) rb/\RowC 2 sv.Held (os.flatMap hoT) rh/\zZj os vs/\os.length+L<=X0/\bey.length<=nb /\
  St ⟨W,mp⟩ ((b1,svT sv)::(cs++((b5,[zt b2 b3 b4])::(b6,[numV b2 b3 b5])::(rb++(rh++(vs++fr)))))) w
variable {X0:Nat}
theorem s_ub {R:T_b->Int->WP} (h:DeS W mp fr b1 b2 b3 b4 b5 b6 X0 65536 w) (hX:X0<=16777216) (k:∀ sv e w',St ⟨W,mp⟩ fr w'->R sv e w'):F_4c R b1 b2 b3 w:=by
 obtain⟨sv,L,cs,bey,os,rb,rh,vs,⟨e,X,r,rbs,ro,hXL,hL,rfl⟩,rbey,rhel,own,hlen,hbl,st⟩:=h;have st1:St ⟨W,mp⟩ ((b1,svT sv)::(b2,[Vi e])::(b3,[Vp r])::(b4,[Vi ((L:Nat):Int)])::(rbs++((b5,[zt b2 b3 b4])::(b6,[numV b2 b3 b5])::(rb++(rh++(vs++fr)))))) w:=st
 have fin:∀ {sv:T_b} {e:Int} {w':World},St ⟨W,mp⟩ ((b1,svT sv)::(b2,[Vi e])::(b3,[Vp r])::(b4,[Vi ((L:Nat):Int)])::(rbs++((b5,[zt b2 b3 b4])::(b6,[numV b2 b3 b5])::(rb++(rh++(vs++fr)))))) w' ->
     ∃(res:T_b),zf w' b1 0 (svT res)/\(∃(res1:Int),zf w' b2 0 [Vi res1]/\(R res res1 w')):=λ{sv e w'} st' =>
  ⟨sv,(st'.get 0 rfl).all,e,(st'.get 1 rfl).all,k sv e w' (st'.weak ((b1,svT sv)::(b2,[Vi e])::(b3,[Vp r])::(b4,[Vi ((L:Nat):Int)])::(rbs++((b5,[zt b2 b3 b4])::(b6,[numV b2 b3 b5])::(rb++(rh++vs))))) (.of_eq (by simp only [dV,aN])))⟩
 have fin2:∀ {sv sv2:T_b} {e e2:Int} {w':World},St ⟨W,mp⟩ ((b1,svT sv)::(b2,[Vi e])::(b3,[Vp r])::(b4,[Vi ((L:Nat):Int)])::(rbs++((b5,[zt b2 b3 b4])::(b6,[numV b2 b3 b5])::(rb++(rh++(vs++fr)))))) w' ->
     zr w' b1 0 3/\∀ w2,w2=World.puts b1 0 (svT sv2) w'->(zr w2 b2 0 1/\∀ w3,w3=World.puts b2 0 [Vi e2] w2->(∃(res:T_b),zf w3 b1 0 (svT res)/\(∃(res1:Int),zf w3 b2 0 [Vi res1]/\(R res res1 w3)))):=λ{sv sv2 e e2 w'} st' =>
  ⟨st'.writable 0 rfl (aM rfl),λw2 hw2=>by
   have st2:St ⟨W,mp⟩ ((b2,[Vi e])::(b1,svT sv2)::(b3,[Vp r])::(b4,[Vi ((L:Nat):Int)])::(rbs++((b5,[zt b2 b3 b4])::(b6,[numV b2 b3 b5])::(rb++(rh++(vs++fr)))))) w2:=(St.put0 st' hw2).perm (List.Perm.swap _ _ _);refine⟨st2.writable 0 rfl (aM rfl),λw3 hw3=> ?_⟩;exact fin ((St.put0 st2 hw3).perm (List.Perm.swap _ _ _))⟩
 unfold F_4c;refine⟨e,st1.cell 1 rfl rfl,λ_ w4 hd4=> ?_,λ_=>⟨r,st1.cell 2 rfl rfl,?_⟩⟩
 ·have st4:=st1.drew hd4;obtain⟨h1,h2⟩:=fin2 (sv2:=⟨0,⟨none,0,0⟩,⟨none,0,0⟩⟩) (e2:=e) st4;refine⟨e,st4.cell 1 rfl rfl,h1,λw5 hw5=>⟨?_,h2 w5 hw5⟩⟩;have st5:St ⟨W,mp⟩ ((b1,svT ⟨0,⟨none,0,0⟩,⟨none,0,0⟩⟩)::(b2,[Vi e])::(b3,[Vp r])::(b4,[Vi ((L:Nat):Int)])::(rbs++((b5,[zt b2 b3 b4])::(b6,[numV b2 b3 b5])::(rb++(rh++(vs++fr)))))) w5:=St.put0 st4 hw5;exact st5.cell 1 rfl rfl
 have str:St ⟨W,mp⟩ (rbs++((b1,svT sv)::(b2,[Vi e])::(b3,[Vp r])::(b4,[Vi ((L:Nat):Int)])::(b5,[zt b2 b3 b4])::(b6,[numV b2 b3 b5])::(rb++(rh++(vs++fr))))) w:=st1.pq;refine s_V ro str ⟨λ_=>fin2 (sv2:=⟨0,⟨none,0,0⟩,⟨none,0,0⟩⟩) (e2:=4) st1,λ_=>⟨sv,(st1.get 0 rfl).all,?_⟩⟩;have hbl2:=rbey.len;rw [lM] at hbl2;have hhl2:=rhel.len;rw [zc (sz:=2) (λ_=>rfl)] at hhl2;refine s_t (bey:=bey) (os:=os) st1 ⟨λmp' l w' st'=>rbey.srcM (λc hc=>by simp [hc]) st',λmp' l w' st'=>⟨rhel.srcM (λc hc=>by simp [hc]) st',λo ho=> ?_⟩,O_,O_,λo ho=> ?_⟩ λe' w' _ st2=>⟨λ_=>fin2 (sv2:=⟨0,⟨none,0,0⟩,⟨none,0,0⟩⟩) (e2:=1) st2,λ_=>⟨sv,(st2.get 0 rfl).all,fin2 (sv2:=sv) (e2:=0) st2⟩⟩
 ·obtain⟨rv,hm,rr,hl⟩:=own o ho;exact⟨rr.srcM (λc hc=>by simp [hm c hc]) st',O_⟩
 ·obtain⟨rv,hm,rr,hl⟩:=own o ho;omega
theorem s_2c {again1:Int->WP} {keys k0:Int} {b8:Nat} {key:ByteArray}
    (h:∃(sv:T_b) (L:Nat) (cs:List zb) (bey:List Int) (os:List HO) (rb rh vs:List zb),DcW b2 b3 b4 L cs/\RowC 1 sv.Beyond (bey.map Vi) rb/\RowC 2 sv.Held (os.flatMap hoT) rh/\zZj os vs/\os.length+L<X0/\bey.length<=65536 /\
     St ⟨W,mp⟩ ((b8,hldT (key,⟨none,0,0⟩))::(b1,svT sv)::(cs++((b5,[zt b2 b3 b4])::(b6,[numV b2 b3 b5])::(rb++(rh++(vs++fr)))))) w)
    (hX:X0<=16777216) (hk:0<=k0/\k0<=65536) (k:∀ w',DeS W mp fr b1 b2 b3 b4 b5 b6 X0 65536 w'->again1 (u64.wrap (keys - 1)) w') :
    ∃(I:Int->WP) (μ:Int->World->Nat),I k0 w/\∀(k_:Int) w,I k_ w->F_fe b1 b2 b3 b5 b6 keys again1 b8 (λ(k_':Int) w'=>I k_' w'/\μ k_' w'<μ k_ w) k_ w:=by
 obtain⟨sv,L,cs,bey,os,rb,rh,vs,o,rbey,rhel,own,hlen,hbl,st⟩:=h
 refine⟨λk_ w'=>∃(p:Nat) (L:Nat) (cs:List zb) (s:Slc) (l:List T_h) (rv:List zb),k_=(p:Int)/\l.length+p<=65536/\DcW b2 b3 b4 L cs/\os.length+L<X0/\RowC 3 s (l.flatMap verT) rv /\
     St ⟨W,mp⟩ ((b8,hldT (key,s))::(b1,svT sv)::(cs++((b5,[zt b2 b3 b4])::(b6,[numV b2 b3 b5])::(rv++(rb++(rh++(vs++fr))))))) w',λk_ _=>k_.toNat,
  ⟨k0.toNat,L,cs,⟨none,0,0⟩,[],[],O_,by simp; omega,o,hlen,RowC.nil,st⟩,?_⟩
 clear st o hlen;rintro _ w ⟨p,L,cs,s,l,rv,rfl,hp,o,hlen,r,st⟩;have hsl:=r.len;rw [zc (sz:=3) (λ_=>rfl)] at hsl;have hhl2:=rhel.len;rw [zc (sz:=2) (λ_=>rfl)] at hhl2
 have stop:F_mc b1 b2 b3 b5 b6 keys again1 b8 (p:Int) (λ(k_':Int) w'=>(∃(p:Nat) (L:Nat) (cs:List zb) (s:Slc) (l:List T_h) (rv:List zb),k_'=(p:Int)/\l.length+p<=65536/\DcW b2 b3 b4 L cs/\os.length+L<X0/\RowC 3 s (l.flatMap verT) rv /\
     St ⟨W,mp⟩ ((b8,hldT (key,s))::(b1,svT sv)::(cs++((b5,[zt b2 b3 b4])::(b6,[numV b2 b3 b5])::(rv++(rb++(rh++(vs++fr))))))) w')/\k_'.toNat<(p:Int).toNat) false w:=by
  unfold F_mc;refine⟨N_,λ_=>⟨sv.Held,st.cell 1 rfl rfl,⟨key,s⟩,(st.get 0 rfl).all,λb10 w2 hb hw=>⟨_,zJ hb hw rfl,?_⟩⟩⟩;have st2:St ⟨W,mp⟩ (rh++((b10,hldT (key,s))::(b8,hldT (key,s))::(b1,svT sv)::(cs++((b5,[zt b2 b3 b4])::(b6,[numV b2 b3 b5])::(rv++(rb++(vs++fr))))))) w2:=(st.alloc (cs:=hldT (key,s)) hb hw).pq;refine rhel.append st2 rfl rfl rfl (by show(sv.Held.len+1)*40<=_; omega) λout' ob' w3 ro' st3 hl'=> ?_;have st3:St ⟨W,mp⟩ ((b1,svT sv)::(ob'++((b10,hldT (key,s))::(b8,hldT (key,s))::(cs++((b5,[zt b2 b3 b4])::(b6,[numV b2 b3 b5])::(rv++(rb++(vs++fr)))))))) w3:=st3.pq;refine⟨st3.writable 0 rfl (aM rfl),λw4 hw4=>k w4 ?_⟩;have st4:St ⟨W,mp⟩ ((b1,svT ⟨sv.Mark,sv.Beyond,out'⟩)::(ob'++((b10,hldT (key,s))::(b8,hldT (key,s))::(cs++((b5,[zt b2 b3 b4])::(b6,[numV b2 b3 b5])::(rv++(rb++(vs++fr)))))))) w4:=st3.put0 hw4;refine⟨⟨sv.Mark,sv.Beyond,out'⟩,L,cs,bey,os++[(key,l,s)],rb,ob',rv++vs,o,rbey,by rw [bE,aY,dW,bZ]; exact ro',own.add (o:=(key,l,s)) r (by show s.len<=_; omega),by rw [aB,bT]; omega,hbl,?_⟩;exact st4.wq ((b10,hldT (key,s))::(b8,hldT (key,s))::[])
 unfold F_fe;refine⟨λhi=> ?_,λ_=>stop⟩;have hi:=dT hi;obtain⟨e,X,r1,rbs,ro,hXL,hL,rfl⟩:=id o;have st1:St ⟨W,mp⟩ ((b8,hldT (key,s))::(b1,svT sv)::(b2,[Vi e])::(b3,[Vp r1])::(b4,[Vi ((L:Nat):Int)])::(rbs++((b5,[zt b2 b3 b4])::(b6,[numV b2 b3 b5])::(rv++(rb++(rh++(vs++fr))))))) w:=st;refine⟨e,st1.cell 2 rfl rfl,?_⟩;by_cases he:(e==0)=true
 rotate_left
 ·dsimp only; rw [show(e==0)=false by simpa using he]; exact stop
 dsimp only; rw [he];clear stop;unfold F_mc;refine⟨λ_ w2 hd2=> ?_,N_⟩;have wp:i64.wrap ((p:Int) - 1)=((p - 1:Nat):Int):=W_;have st2:=st.drew hd2;refine⟨s,st2.cell 0 rfl rfl,?_⟩;generalize hcs:((b2,[Vi e])::(b3,[Vp r1])::(b4,[Vi ((L:Nat):Int)])::rbs)=cs at o st2;have st3:St ⟨W,mp⟩ (cs++((b5,[zt b2 b3 b4])::(b6,[numV b2 b3 b5])::(b8,hldT (key,s))::(b1,svT sv)::(rv++(rb++(rh++(vs++fr)))))) w2:=st2.pq;refine s_Ic o st3 λv L' cs' w4 hL' o4 st4=> ?_;have st4:St ⟨W,mp⟩ ((b8,hldT (key,s))::(b1,svT sv)::(cs'++((b5,[zt b2 b3 b4])::(b6,[numV b2 b3 b5])::(rv++(rb++(rh++(vs++fr))))))) w4:=st4.pq;refine⟨st4.cell 0 rfl rfl,λb9 w5 hb hw=> ?_⟩;have st5:St ⟨W,mp⟩ ((b8,hldT (key,s))::(b9,verT v)::(b1,svT sv)::(cs'++((b5,[zt b2 b3 b4])::(b6,[numV b2 b3 b5])::(rv++(rb++(rh++(vs++fr))))))) w5:=(st4.alloc (cs:=verT v) hb hw).perm (List.Perm.swap _ _ _);refine⟨st5.cell 0 rfl rfl,_,zJ hb hw rfl,?_⟩;have st6:St ⟨W,mp⟩ (rv++((b8,hldT (key,s))::(b9,verT v)::(b1,svT sv)::(cs'++((b5,[zt b2 b3 b4])::(b6,[numV b2 b3 b5])::(rb++(rh++(vs++fr))))))) w5:=st5.pq;refine r.append st6 rfl rfl rfl (by show(s.len+1)*32<=_; omega) λs' rv' w6 r' st7 hl'=> ?_;have st7:St ⟨W,mp⟩ ((b8,hldT (key,s))::(rv'++((b9,verT v)::(b1,svT sv)::(cs'++((b5,[zt b2 b3 b4])::(b6,[numV b2 b3 b5])::(rb++(rh++(vs++fr)))))))) w6:=st7.pq;refine⟨st7.writable 0 rfl (aM rfl),λw7 hw7=> ?_⟩;have st8:St ⟨W,mp⟩ ((b8,hldT (key,s'))::(rv'++((b9,verT v)::(b1,svT sv)::(cs'++((b5,[zt b2 b3 b4])::(b6,[numV b2 b3 b5])::(rb++(rh++(vs++fr)))))))) w7:=st7.put0 hw7;rw [wp];refine⟨⟨p - 1,L',cs',s',l++[v],rv',rfl,by rw [aB,bT]; omega,o4,O_,by rw [bE,aY,dW,bZ]; exact r',?_⟩,M_⟩;exact st8.wq [(b9,verT v)]
end
section
variable {W:World} {mp:List (Nat×Obj)} {w:World} {fr:List zb} {b1 b2 b3 b4 b5 b6 X0:Nat}
theorem s_4 {R:T_b->Int->WP} {n:Int} (h:DeS W mp fr b1 b2 b3 b4 b5 b6 X0 65536 w) (hn:0<=n) (hX:X0<=16777216) (k:∀ sv e w',St ⟨W,mp⟩ fr w'->R sv e w'):F_5c R b1 b2 b3 b5 b6 n w:=by
 unfold F_5c;refine⟨λn w'=>0<=n/\DeS W mp fr b1 b2 b3 b4 b5 b6 X0 65536 w',λn _=>n.toNat,⟨hn,h⟩,?_⟩;clear h hn;rintro n w ⟨hn,h⟩
 have stop:∀ {A:Int->WP},F_nc R b1 b2 b3 b5 b6 n A false w:=λ{A}=>by
  unfold F_nc;exact⟨N_,λ_=>s_ub (b4:=b4) (b5:=b5) (b6:=b6) (X0:=X0) h hX k⟩
 unfold F_Mf;refine⟨λhi=> ?_,λ_=>stop⟩;have hi:=dT hi;obtain⟨sv,L,cs,bey,os,rb,rh,vs,⟨e,X,r,rbs,ro,hXL,hL,rfl⟩,rbey,rhel,own,hlen,hbl,st⟩:=h;have st1:St ⟨W,mp⟩ ((b1,svT sv)::(b2,[Vi e])::(b3,[Vp r])::(b4,[Vi ((L:Nat):Int)])::(rbs++((b5,[zt b2 b3 b4])::(b6,[numV b2 b3 b5])::(rb++(rh++(vs++fr)))))) w:=st;refine⟨e,st1.cell 1 rfl rfl,?_⟩;by_cases he:(e==0)=true
 rotate_left
 ·dsimp only; rw [show(e==0)=false by simpa using he]; exact stop
 dsimp only; rw [he];clear stop;unfold F_nc;refine⟨λ_=>⟨r,st1.cell 2 rfl rfl,?_⟩,N_⟩;have st2:St ⟨W,mp⟩ (rbs++((b2,[Vi e])::(b3,[Vp r])::(b4,[Vi ((L:Nat):Int)])::(b1,svT sv)::(b5,[zt b2 b3 b4])::(b6,[numV b2 b3 b5])::(rb++(rh++(vs++fr))))) w:=st1.pq;refine s_Pb ro st2 O_ D_ λkey X2 rb2 w2 hX2 ro2 st3 b8 w3 hb hw=> ?_;have st4:=st3.alloc (cs:=hldT (Be,⟨none,0,0⟩)) hb hw;refine⟨st4.writable 0 rfl (aM rfl),λw4 hw4=> ?_⟩;have st5:St ⟨W,mp⟩ ((b8,hldT (key,⟨none,0,0⟩))::(rb2++((b2,[Vi e])::(b3,[Vp r])::(b4,[Vi ((L:Nat):Int)])::(b1,svT sv)::(b5,[zt b2 b3 b4])::(b6,[numV b2 b3 b5])::(rb++(rh++(vs++fr)))))) w4:=st4.put0 hw4;have st6:St ⟨W,mp⟩ ((b5,[zt b2 b3 b4])::(((b2,[Vi e])::(b3,[Vp r])::(b4,[Vi ((L:Nat):Int)])::rb2)++((b8,hldT (key,⟨none,0,0⟩))::(b1,svT sv)::(b6,[numV b2 b3 b5])::(rb++(rh++(vs++fr)))))) w4:=st5.pq;refine⟨zt b2 b3 b4,st6.cell 0 rfl rfl,?_⟩;have st7:St ⟨W,mp⟩ (((b2,[Vi e])::(b3,[Vp r])::(b4,[Vi ((L:Nat):Int)])::rb2)++((b5,[zt b2 b3 b4])::(b8,hldT (key,⟨none,0,0⟩))::(b1,svT sv)::(b6,[numV b2 b3 b5])::(rb++(rh++(vs++fr))))) w4:=st6.pq;refine s_n ⟨e,X2,r,rb2,ro2,O_,hL,rfl⟩ st7 λt L' cs' w5 hL' ht o5 st8=>⟨_,rfl,λ_=> ?_,λh5=> ?_⟩
 ·exact s_ub (b4:=b4) (b5:=b5) (b6:=b6) (X0:=X0) ⟨sv,L',cs',bey,os,rb,rh,vs,o5,rbey,rhel,own,O_,hbl,st8.wq [(b8,hldT (key,⟨none,0,0⟩))]⟩ hX k
 have st9:St ⟨W,mp⟩ ((b6,[numV b2 b3 b5])::(cs'++((b5,[zt b2 b3 b4])::(b8,hldT (key,⟨none,0,0⟩))::(b1,svT sv)::(rb++(rh++(vs++fr)))))) w5:=st8.pq;refine⟨numV b2 b3 b5,st9.cell 0 rfl rfl,?_⟩;have st10:St ⟨W,mp⟩ (cs'++((b5,[zt b2 b3 b4])::(b6,[numV b2 b3 b5])::(b8,hldT (key,⟨none,0,0⟩))::(b1,svT sv)::(rb++(rh++(vs++fr))))) w5:=st9.pq;refine s_u o5 st10 λv L2 cs2 w6 hv hL2 o6 st11=>⟨_,rfl,?_⟩
 have hlt:=(ht h5).2;refine s_2c (key:=key) (b4:=b4) (X0:=X0) (mp:=mp) (fr:=fr) ⟨sv,L2,cs2,bey,os,rb,rh,vs,o6,rbey,rhel,own,(by omega:os.length+L2<X0),hbl,st11.pq⟩ hX hv λw7 h7=>And.intro (And.intro ?_ h7) ?_
 ·rw [z0d]; omega
 ·show Int.toNat _<Int.toNat _;rw [z0d]; omega
theorem s_5 {s:Slc} {xs:List Int} {R:T_b->Int->WP} (st:St ⟨W,mp⟩ fr w) (hs:∀ l w',St ⟨W,mp⟩ (l++fr) w'->zj w' s 1 (xs.map uB)) (ok:okB xs) (hl:xs.length<=16777216) (k:∀ sv e w',St ⟨W,mp⟩ fr w'->R sv e w'):C_ad s w R:=by
 apply S_bd;unfold F_zg;have hsl:s.len=xs.length:=by have:=(hs [] w st).1; rw [lM] at this; omega
 intro b1 w1 hb1 hw1 b2 w2 hb2 hw2;have st2:=(st.alloc (cs:=svT ⟨0,⟨none,0,0⟩,⟨none,0,0⟩⟩) hb1 hw1).alloc (cs:=[Vi 0]) hb2 hw2;refine s_zb st2 (hs [(b2,[Vi 0]),(b1,svT ⟨0,⟨none,0,0⟩,⟨none,0,0⟩⟩)] w2 st2) ok O_ λr cs w3 ro st3 b3 w4 hb3 hw4=> ?_;have st4:=st3.alloc (cs:=[Vp none]) hb3 hw4;refine⟨st4.writable 0 rfl (aM rfl),λw5 hw5 b4 w6 hb4 hw6=> ?_⟩;have st6:=(St.put0 (vs:=[Vp r]) st4 hw5).alloc (cs:=[Vi 0]) hb4 hw6;refine⟨st6.writable 0 rfl (aM rfl),λw7 hw7 b5 w8 hb5 hw8=> ?_⟩;have st8:=(St.put0 (vs:=[Vi ((s.len:Nat):Int)]) st6 hw7).alloc (cs:=[Value.nilFunc]) hb5 hw8;refine⟨st8.writable 0 rfl (aM rfl),λw9 hw9 b6 w10 hb6 hw10=> ?_⟩;have st10:=(St.put0 (vs:=[zt b2 b3 b4]) st8 hw9).alloc (cs:=[Value.nilFunc]) hb6 hw10;refine⟨st10.writable 0 rfl (aM rfl),λw11 hw11=> ?_⟩;have st11:St ⟨W,mp⟩ ((b6,[numV b2 b3 b5])::(b5,[zt b2 b3 b4])::(b4,[Vi ((s.len:Nat):Int)])::(b3,[Vp r])::(cs++((b2,[Vi 0])::(b1,svT ⟨0,⟨none,0,0⟩,⟨none,0,0⟩⟩)::fr))) w11:=St.put0 (vs:=[numV b2 b3 b5]) st10 hw11;refine⟨numV b2 b3 b5,st11.cell 0 rfl rfl,?_⟩;have st12:St ⟨W,mp⟩ (((b2,[Vi 0])::(b3,[Vp r])::(b4,[Vi ((s.len:Nat):Int)])::cs)++((b5,[zt b2 b3 b4])::(b6,[numV b2 b3 b5])::(b1,svT ⟨0,⟨none,0,0⟩,⟨none,0,0⟩⟩)::fr)) w11:=st11.pq;refine s_u ⟨0,xs.length,r,cs,ro,O_,O_,rfl⟩ st12 λv L2 cs2 w12 hv hL2 o2 st13=>⟨_,rfl,?_⟩
 have st13:St ⟨W,mp⟩ ((b1,svT ⟨0,⟨none,0,0⟩,⟨none,0,0⟩⟩)::(b6,[numV b2 b3 b5])::(cs2++((b5,[zt b2 b3 b4])::fr))) w12:=st13.pq;refine⟨st13.writable 0 rfl (aM rfl),λw13 hw13=> ?_⟩;have st14:St ⟨W,mp⟩ ((b1,svT ⟨v,⟨none,0,0⟩,⟨none,0,0⟩⟩)::(b6,[numV b2 b3 b5])::(cs2++((b5,[zt b2 b3 b4])::fr))) w13:=st13.put0 hw13;refine⟨numV b2 b3 b5,st14.cell 1 rfl rfl,?_⟩;have st15:St ⟨W,mp⟩ (cs2++((b5,[zt b2 b3 b4])::(b6,[numV b2 b3 b5])::(b1,svT ⟨v,⟨none,0,0⟩,⟨none,0,0⟩⟩)::fr)) w13:=st14.pq;refine s_u o2 st15 λn L3 cs3 w14 hn hL3 o3 st16=>⟨_,rfl,?_⟩
 refine⟨λn w'=>∃ p:Nat,n=(p:Int)/\p<=65536/\DeS W mp fr b1 b2 b3 b4 b5 b6 s.len (65536 - p) w',λn _=>n.toNat,⟨n.toNat,O_,O_,⟨v,⟨none,0,0⟩,⟨none,0,0⟩⟩,L3,cs3,[],[],[],[],[],o3,RowC.nil,RowC.nil,λo ho=>(by cases ho),by simp; omega,by simp,st16.pq⟩,?_⟩;clear st st2 st3 st4 st6 st8 st10 st11 st12 st13 st14 st15 st16 hw1 hw2 hw4 hw5 hw6 hw7 hw8 hw9 hw10 hw11 hw13 ro o2 o3;rintro _ w ⟨p,rfl,hp,h⟩
 have h':DeS W mp fr b1 b2 b3 b4 b5 b6 s.len 65536 w:=by
  obtain⟨sv,L,cs,bey,os,rb,rh,vs,h1,h2,h3,h4,h5,h6,h7⟩:=h;exact⟨sv,L,cs,bey,os,rb,rh,vs,h1,h2,h3,h4,h5,O_,h7⟩
 have stop:∀ {A:Int->WP},F_oc R b1 b2 b3 b5 b6 (p:Int) A false w:=λ{A}=>by
  obtain⟨sv,L,cs,bey,os,rb,rh,vs,⟨e,X,r,rbs,ro,hXL,hL,rfl⟩,rbey,rhel,own,hlen,hbl,st⟩:=h';have st1:St ⟨W,mp⟩ ((b1,svT sv)::(b2,[Vi e])::(b3,[Vp r])::(b4,[Vi ((L:Nat):Int)])::(rbs++((b5,[zt b2 b3 b4])::(b6,[numV b2 b3 b5])::(rb++(rh++(vs++fr)))))) w:=st;unfold F_oc;refine⟨N_,λ_=>⟨r,st1.cell 2 rfl rfl,?_⟩⟩;have st2:St ⟨W,mp⟩ (rbs++((b2,[Vi e])::(b3,[Vp r])::(b4,[Vi ((L:Nat):Int)])::(b1,svT sv)::(b5,[zt b2 b3 b4])::(b6,[numV b2 b3 b5])::(rb++(rh++(vs++fr))))) w:=st1.pq;refine s_xc ro st2 O_ λn X2 rb2 w2 hn hX2 ro2 st3=> ?_;have st4:St ⟨W,mp⟩ ((b2,[Vi e])::(b5,[zt b2 b3 b4])::(b1,svT sv)::(b3,[Vp r])::(b4,[Vi ((L:Nat):Int)])::(rb2++((b6,[numV b2 b3 b5])::(rb++(rh++(vs++fr)))))) w2:=st3.pq;have o4:DcW b2 b3 b4 L ((b2,[Vi e])::(b3,[Vp r])::(b4,[Vi ((L:Nat):Int)])::rb2):=⟨e,X2,r,rb2,ro2,O_,hL,rfl⟩
  have st5:St ⟨W,mp⟩ (((b2,[Vi e])::(b3,[Vp r])::(b4,[Vi ((L:Nat):Int)])::rb2)++((b1,svT sv)::(b5,[zt b2 b3 b4])::(b6,[numV b2 b3 b5])::(rb++(rh++(vs++fr))))) w2:=st4.pq;refine⟨e,st4.cell 0 rfl rfl,λ_=>⟨zt b2 b3 b4,st4.cell 1 rfl rfl,?_⟩,λ_=> ?_⟩
  ·exact s_n o4 st5 λt L' cs' w5 hL' _ o5 st6=>⟨_,rfl,s_4 (b4:=b4) (X0:=s.len) ⟨sv,L',cs',bey,os,rb,rh,vs,o5,rbey,rhel,own,O_,hbl,st6.pq⟩ hn O_ k⟩
  ·exact s_4 (b4:=b4) (X0:=s.len) ⟨sv,L,_,bey,os,rb,rh,vs,o4,rbey,rhel,own,O_,hbl,st5.pq⟩ hn O_ k
 unfold F_Nf;refine⟨λhi=> ?_,λ_=>stop⟩;have hi:=dT hi;clear h';obtain⟨sv,L,cs,bey,os,rb,rh,vs,⟨e,X,r,rbs,ro,hXL,hL,rfl⟩,rbey,rhel,own,hlen,hbl,st⟩:=h;have st1:St ⟨W,mp⟩ ((b1,svT sv)::(b2,[Vi e])::(b3,[Vp r])::(b4,[Vi ((L:Nat):Int)])::(rbs++((b5,[zt b2 b3 b4])::(b6,[numV b2 b3 b5])::(rb++(rh++(vs++fr)))))) w:=st;refine⟨e,st1.cell 1 rfl rfl,?_⟩;by_cases he:(e==0)=true
 rotate_left
 ·dsimp only; rw [show(e==0)=false by simpa using he]; exact stop
 dsimp only; rw [he];clear stop;unfold F_oc;refine⟨λ_ w2 hd2=> ?_,N_⟩;have st2:=st1.drew hd2;have st3:St ⟨W,mp⟩ ((b6,[numV b2 b3 b5])::(((b2,[Vi e])::(b3,[Vp r])::(b4,[Vi ((L:Nat):Int)])::rbs)++((b5,[zt b2 b3 b4])::(b1,svT sv)::(rb++(rh++(vs++fr)))))) w2:=st2.pq;refine⟨sv.Beyond,st2.cell 0 rfl rfl,numV b2 b3 b5,st3.cell 0 rfl rfl,?_⟩;have st4:St ⟨W,mp⟩ (((b2,[Vi e])::(b3,[Vp r])::(b4,[Vi ((L:Nat):Int)])::rbs)++((b5,[zt b2 b3 b4])::(b6,[numV b2 b3 b5])::(b1,svT sv)::(rb++(rh++(vs++fr))))) w2:=st3.pq;refine s_u ⟨e,X,r,rbs,ro,hXL,hL,rfl⟩ st4 λv L' cs' w3 hv hL' o' st5=>⟨_,rfl,?_⟩
 have st5:St ⟨W,mp⟩ ((b1,svT sv)::(cs'++((b5,[zt b2 b3 b4])::(b6,[numV b2 b3 b5])::(rb++(rh++(vs++fr)))))) w3:=st5.pq;refine⟨st5.cell 0 rfl rfl,λb7 w4 hb7 hw4=> ?_⟩;have st6:St ⟨W,mp⟩ ((b1,svT sv)::(b7,[Vi v])::(cs'++((b5,[zt b2 b3 b4])::(b6,[numV b2 b3 b5])::(rb++(rh++(vs++fr)))))) w4:=(st5.alloc (cs:=[Vi v]) hb7 hw4).perm (List.Perm.swap _ _ _);refine⟨st6.cell 0 rfl rfl,[Vi v],zJ hb7 hw4 rfl,?_⟩;have st7:St ⟨W,mp⟩ (rb++((b1,svT sv)::(b7,[Vi v])::(cs'++((b5,[zt b2 b3 b4])::(b6,[numV b2 b3 b5])::(rh++(vs++fr)))))) w4:=st6.pq;have hbl2:=rbey.len;rw [lM] at hbl2;refine rbey.append st7 rfl rfl rfl (by show(sv.Beyond.len+1)*8<=_; omega) λs' rb' w5 r' st8 hl'=> ?_;have st8:St ⟨W,mp⟩ ((b1,svT sv)::(rb'++((b7,[Vi v])::(cs'++((b5,[zt b2 b3 b4])::(b6,[numV b2 b3 b5])::(rh++(vs++fr))))))) w5:=st8.pq;refine⟨st8.writable 0 rfl (aM rfl),λw6 hw6=> ?_⟩;have st9:St ⟨W,mp⟩ ((b1,svT ⟨sv.Mark,s',sv.Held⟩)::(rb'++((b7,[Vi v])::(cs'++((b5,[zt b2 b3 b4])::(b6,[numV b2 b3 b5])::(rh++(vs++fr))))))) w6:=st8.put0 hw6;have wp:i64.wrap ((p:Int) - 1)=((p - 1:Nat):Int):=W_;rw [wp];refine⟨⟨p - 1,rfl,O_,⟨sv.Mark,s',sv.Held⟩,L',cs',bey++[v],os,rb',rh,vs,o',by rw [aR]; exact r',rhel,own,O_,by rw [aB,bT]; omega,?_⟩,M_⟩;exact st9.weak [(b7,[Vi v])] (za λf_=>by simp <;> omega)
end
theorem zXb (n:Int):0<=u64.wrap n/\u64.wrap n<18446744073709551616:=by rw [z0d]; omega
section
variable {W:World} {mp:List (Nat×Obj)} {w:World} {fr cs:List zb} {wr:OA}
theorem s_Jc {again1:Int->WP} {s:Slc} {vs:List T_h} {N:Nat} {t:Int} (o:WrW wr N cs) (st:St ⟨W,mp⟩ (cs++fr) w) (hs:∀ l w',St ⟨W,mp⟩ (l++fr) w'->zj w' s 3 (vs.flatMap verT)) (hc:okC 0 vs=true) (hl:s.len<=1024) (hN:N<=140737480000000)
    (k:∀ cs' w',WrW wr (N+1070080) cs'->St ⟨W,mp⟩ (cs'++fr) w'->again1 (i64.wrap (t+1)) w') :
    ∃(I:Int->WP) (μ:Int->World->Nat),I 0 w/\∀(t67:Int) w,I t67 w->F_ie wr t again1 s (λ(t67':Int) w'=>I t67' w'/\μ t67' w'<μ t67 w) t67 w:=by
 have hsl:s.len=vs.length:=by have:=(hs _ _ st).1; rw [zc (sz:=3) (λ_=>rfl)] at this; omega
 refine⟨λi w'=>∃(q:Nat) (cs:List zb),i=(q:Int)/\q<=s.len/\WrW wr (N+q*1045) cs/\St ⟨W,mp⟩ (cs++fr) w',λi _=>s.len - i.toNat,⟨0,cs,rfl,O_,o,st⟩,?_⟩;clear st o;rintro _ w ⟨q,cs,rfl,hq,o,st⟩;unfold F_ie;refine⟨λhi=> ?_,λ_=>k cs w (o.le O_) st⟩;have hi:=dT hi;have wp:i64.wrap ((q:Int)+1)=((q+1:Nat):Int):=W_;obtain⟨a,v,hv,hcell⟩:=zj.getN (hs _ _ st) (λ_=>rfl) D_ (i:=(q:Int)) O_ O_;rw [tN] at hv hcell;have hm:=((zHb.1 hc).2 v (mG hv)).2;unfold mayV at hm;simp only [aD,decide_eq_true_eq] at hm;refine⟨a,O_,hi,v,by rw [tN]; exact hcell,λb w2 hb hw=> ?_⟩;have st2:=st.alloc (cs:=verT ⟨0,Be,false⟩) hb hw;refine⟨st2.writable 0 rfl (aM rfl),λw3 hw3=> ?_⟩;have st3:St ⟨W,mp⟩ ((b,verT v)::(cs++fr)) w3:=st2.put0 hw3;have st4:St ⟨W,mp⟩ (cs++((b,verT v)::fr)) w3:=st3.pq
 have nx:∀ {cs' w'},WrW wr (N+q*1045+1045) cs'->St ⟨W,mp⟩ (cs'++((b,verT v)::fr)) w'->F_8c (q:Int) (λ(t67':Int) w'=>(∃(q:Nat) (cs:List zb),t67'=(q:Int)/\q<=s.len/\WrW wr (N+q*1045) cs/\St ⟨W,mp⟩ (cs++fr) w')/\s.len - t67'.toNat<s.len - (q:Int).toNat) w':=λ{cs' w'} o' st'=>by
  unfold F_8c;rw [wp];exact⟨⟨q+1,cs',rfl,O_,o'.le O_,st'.wq [(b,verT v)]⟩,O_⟩
 refine⟨v.Number,st3.cell 0 rfl rfl,s_l o st4 (zXb _).1 (zXb _).2 O_ λcs5 w5 o5 st5=> ?_⟩;have st5':St ⟨W,mp⟩ ((b,verT v)::(cs5++fr)) w5:=st5.pq;refine⟨v.Drop,st5'.cell 0 rfl rfl,λ_=>s_wc o5 st5 O_ λe cs6 w6 o6 st6=>nx (o6.le O_) st6,λ_=>s_wc o5 st5 O_ λe cs6 w6 o6 st6=> ?_⟩;have st6':St ⟨W,mp⟩ ((b,verT v)::(cs6++fr)) w6:=st6.pq;exact⟨v.Val,st6'.cell 0 rfl rfl,s_Nb o6 st6 hm.1.2 O_ λcs7 w7 o7 st7=>nx (o7.le O_) st7⟩
theorem s_Kc {R:Slc->Int->WP} {s:Slc} {os:List HO} {N:Nat} (o:WrW wr N cs) (st:St ⟨W,mp⟩ (cs++fr) w) (hs:∀ l w',St ⟨W,mp⟩ (l++fr) w'->HdAt w' s os) (hg:∀ o∈os,zYj o/\o.2.2.len<=1024) (hl:s.len<=16384) (hN:N<=1073741824)
    (k:∀ s xs rb e w',RowC 1 s (xs.map uB) rb->okB xs->xs.length<=68719476736->St ⟨W,mp⟩ (rb++fr) w'->R s e w') :
    ∃(I:Int->WP) (μ:Int->World->Nat),I 0 w/\∀(t50:Int) w,I t50 w->F_je R wr s (λ(t50':Int) w'=>I t50' w'/\μ t50' w'<μ t50 w) t50 w:=by
 have hsl:s.len=os.length:=by have:=(hs _ _ st).src.1; rw [zc (sz:=2) (λ_=>rfl)] at this; omega
 refine⟨λi w'=>∃(q:Nat) (cs:List zb),i=(q:Int)/\q<=s.len/\WrW wr (N+q*1071124) cs/\St ⟨W,mp⟩ (cs++fr) w',λi _=>s.len - i.toNat,⟨0,cs,rfl,O_,o,st⟩,?_⟩;clear st o;rintro _ w ⟨q,cs,rfl,hq,o,st⟩;unfold F_je;refine⟨λhi=> ?_,λ_=>s_jd o st O_ λs' xs rb w' ro ok hx st'=>k s' xs rb 0 w' ro ok O_ st'⟩;have hi:=dT hi;have wp:i64.wrap ((q:Int)+1)=((q+1:Nat):Int):=W_;obtain⟨a,x,hx,hcell⟩:=zj.getN (hs _ _ st).src (λ_=>rfl) D_ (i:=(q:Int)) O_ O_;rw [tN] at hx hcell;have hxm:=mG hx;obtain⟨⟨g1,g2⟩,g3⟩:=hg x hxm;refine⟨a,O_,hi,⟨x.1,x.2.2⟩,by rw [tN]; exact hcell,λb w2 hb hw=> ?_⟩;have st2:=st.alloc (cs:=hldT (Be,⟨none,0,0⟩)) hb hw;refine⟨st2.writable 0 rfl (aM rfl),λw3 hw3=> ?_⟩;have st3:St ⟨W,mp⟩ ((b,hoT x)::(cs++fr)) w3:=st2.put0 hw3;have st4:St ⟨W,mp⟩ (cs++((b,hoT x)::fr)) w3:=st3.pq;refine⟨x.1,st3.cell 0 rfl rfl,s_Nb o st4 O_ O_ λcs5 w5 o5 st5=> ?_⟩;have st5':St ⟨W,mp⟩ ((b,hoT x)::(cs5++fr)) w5:=st5.pq;refine⟨x.2.2,st5'.cell 0 rfl rfl,s_l o5 st5 (zXb _).1 (zXb _).2 O_ λcs6 w6 o6 st6=> ?_⟩;have st6':St ⟨W,mp⟩ ((b,hoT x)::(cs6++fr)) w6:=st6.pq;refine⟨x.2.2,st6'.cell 0 rfl rfl,s_Jc o6 st6 (vs:=x.2.1) (λl w' st'=>((hs (l++[(b,hoT x)]) w' (by simpa using st')).ver x hxm).1) g2 g3 O_ λcs7 w7 o7 st7=> ?_⟩;rw [wp];exact⟨⟨q+1,cs7,rfl,O_,o7.le O_,st7.wq [(b,hoT x)]⟩,L_⟩
theorem s_6 {sv:T_b} {bey:List Int} {os:List HO} {R:Slc->Int->WP} (st:St ⟨W,mp⟩ fr w) (h:SvW W fr sv bey os) (hl:sv.Held.len<=16384) (hv:∀ o∈os,o.2.2.len<=1024)
    (k:∀ s xs rb e w',RowC 1 s (xs.map uB) rb->okB xs->xs.length<=68719476736->St ⟨W,mp⟩ (rb++fr) w'->R s e w'):C_cd sv w R:=by
 apply S_cd;unfold F_Fg;intro b w1 hb hw;have st1:St ⟨W,mp⟩ ((b,svT sv)::fr) w1:=st.alloc hb hw;have bl:=h.bl;refine⟨sv,(st1.get 0 rfl).all,s_t st1 (h.more (l0:=[(b,svT sv)])) λe w2 hg st2=>⟨λ_=>k ⟨none,0,0⟩ [] [] e w2 RowC.nil (λx hx=>by cases hx) (by simp) st2.drop1,λhe=> ?_⟩⟩;have hg:=(hg (by simpa using he)).2.2;refine s_yb st2 λwr cs w3 o st3=> ?_;have cell:∀ {cs:List zb} {w':World},St ⟨W,mp⟩ (cs++((b,svT sv)::fr)) w'->St ⟨W,mp⟩ ((b,svT sv)::(cs++fr)) w':=λ{cs w'} st'=>st'.pq;refine⟨sv.Mark,(cell st3).cell 0 rfl rfl,s_l o st3 (zXb _).1 (zXb _).2 O_ λcs4 w4 o4 st4=> ?_⟩;refine⟨sv.Beyond,(cell st4).cell 0 rfl rfl,s_l o4 st4 (zXb _).1 (zXb _).2 O_ λcs5 w5 o5 st5=> ?_⟩;refine⟨sv.Beyond,(cell st5).cell 0 rfl rfl,?_⟩;have more:∀ {cs:List zb} {w':World},St ⟨W,mp⟩ (cs++((b,svT sv)::fr)) w'->St ⟨W,mp⟩ ((cs++[(b,svT sv)])++fr) w':=λ{cs w'} st'=>by simpa using st'
 refine⟨λi w'=>∃(q:Nat) (cs:List zb),i=(q:Int)/\q<=sv.Beyond.len/\WrW wr (20+q*10) cs/\St ⟨W,mp⟩ (cs++((b,svT sv)::fr)) w',λi _=>sv.Beyond.len - i.toNat,⟨0,cs5,rfl,O_,o5,st5⟩,?_⟩;clear st st1 st2 st3 st4 st5 hw o o4 o5;rintro _ w ⟨q,cs,rfl,hq,o,st⟩;unfold F_0f;refine⟨λhi=> ?_,λ_=>⟨sv.Held,(cell st).cell 0 rfl rfl,s_l o st (zXb _).1 (zXb _).2 O_ λcs6 w6 o6 st6=>⟨sv.Held,(cell st6).cell 0 rfl rfl,?_⟩⟩⟩
 ·have hi:=dT hi;have wp:i64.wrap ((q:Int)+1)=((q+1:Nat):Int):=W_;obtain⟨a,n,hn,hcell⟩:=(h.bey _ _ _ (more st)).get (i:=(q:Int)) O_ O_;refine⟨a,O_,hi,n,hcell,s_l o st (zXb _).1 (zXb _).2 O_ λcs6 w6 o6 st6=> ?_⟩;rw [wp];exact⟨⟨q+1,cs6,rfl,O_,o6.le O_,st6⟩,L_⟩
 ·exact s_Kc o6 st6 (λl w' st'=>h.held mp (l++[(b,svT sv)]) w' (by simpa using st')) (λo ho=>⟨hg o ho,hv o ho⟩) hl O_ λs xs rb e w' ro ok hx st'=>k s xs rb e w' ro ok hx (st'.wq [(b,svT sv)])
end
def DkW (d:OA) (bs:List zb):Prop :=
 ∃(b:Nat) (cap:Int) (a c:Slc) (can:Int) (dead:Bool) (n:Int) (xa xc:List Int) (ra rc:List zb),d=some ⟨b,0,none⟩/\RowC 1 a (xa.map uB) ra/\RowC 1 c (xc.map uB) rc/\(okB xa/\xa.length<=16777216)/\(okB xc/\xc.length<=16777216)/\(0<=cap/\cap<=16777216) /\
  bs=(b,[Vo true,Vi cap,Vs a,Vs c,Vi can,Vo dead,Vi n])::(ra++rc)
section
variable {w0:Base} {w:World} {fr bs:List zb} {d:OA}
theorem s_p {slot:Int} {R:Int->WP} (st:St w0 (bs++fr) w) (o:DkW d bs) (k:∀ e,(e=0->slot=0\/slot=1)->R e w):C_fb d slot w R:=by
 apply S_P;unfold F_ee;obtain⟨b,cap,a,c,can,dead,n,xa,xc,ra,rc,rfl,r1,r2,_,_,_,rfl⟩:=o;refine⟨N_,λ_=>⟨rfl,true,st.cell 0 rfl rfl,?_⟩⟩;unfold F_wc;refine⟨N_,λ_=>⟨λh=>k 1 (λh=>by cases h),λh=>k 0 λ_=> ?_⟩⟩;simpa only [fA,bne_eq_false_iff_eq] using h
theorem s_R {R:Int->WP} (st:St w0 (bs++fr) w) (o:DkW d bs) (k:∀ e bs' w',DkW d bs'->St w0 (bs'++fr) w'->R e w'):C_1b d w R:=by
 apply S_0c;unfold F_gg;obtain⟨b,cap,a,c,can,dead,n,xa,xc,ra,rc,rfl,r1,r2,h1,h2,h3,rfl⟩:=o;have st:St w0 ((b,[Vo true,Vi cap,Vs a,Vs c,Vi can,Vo dead,Vi n])::(ra++rc++fr)) w:=st
 have k0:∀ t,F_Mc (Z0 b) R t w:=λt=>by
  unfold F_Mc;refine⟨λ_=>⟨rfl,st.writable 0,λw2 hw2=> ?_⟩,λ_=>⟨rfl,can,st.cell 0 rfl rfl,rfl,st.writable 0,λw3 hw3=> ?_⟩⟩
  ·have st2:St w0 ((b,[Vo true,Vi cap,Vs a,Vs c,Vi can,Vo true,Vi n])::(ra++rc++fr)) w2:=st.put0 hw2;exact k _ _ w2 ⟨b,cap,a,c,can,true,n,xa,xc,ra,rc,rfl,r1,r2,h1,h2,h3,rfl⟩ st2
  ·have st3:=st.put0 hw3;refine⟨rfl,n,st3.cell 0 rfl rfl,st3.writable 0,λw4 hw4=> ?_⟩;have st4:=st3.put0 hw4;exact k _ _ w4 ⟨b,cap,a,c,_,dead,_,xa,xc,ra,rc,rfl,r1,r2,h1,h2,h3,rfl⟩ st4
 exact⟨rfl,dead,st.cell 0 rfl rfl,λ_=>k0 _,λ_=>⟨rfl,can,st.cell 0 rfl rfl,k0 _⟩⟩
theorem DkW.focus {slot:Int} (hs:slot=0\/slot=1) (o:DkW d bs) (st:St w0 (bs++fr) w):∃(b:Nat) (t:Slc) (xs:List Int) (rt rest:List zb) (cs:List Value) (cap:Int),d=some ⟨b,0,none⟩/\RowC 1 t (xs.map uB) rt/\(okB xs/\xs.length<=16777216) /\
    cs[2+slot.toNat]? =some (Vs t)/\cs[1]? =some (Vi cap)/\cs.length=7/\St w0 ((b,cs)::(rt++(rest++fr))) w/\(0<=cap/\cap<=16777216) /\
    ∀(t':Slc) (rt':List zb) (ys:List Int) (w':World),RowC 1 t' (ys.map uB) rt'->okB ys->ys.length<=16777216->St w0 ((b,putL (2+slot.toNat) [Vs t'] cs)::(rt'++(rest++fr))) w' ->
     ∃ bs',DkW d bs'/\St w0 (bs'++fr) w':=by
 obtain⟨b,cap,a,c,can,dead,n,xa,xc,ra,rc,rfl,r1,r2,h1,h2,h3,rfl⟩:=o;rcases hs with rfl | rfl
 ·refine⟨b,a,xa,ra,rc,_,cap,rfl,r1,h1,rfl,rfl,rfl,by rw [<-aN]; exact st,h3,λt' rt' ys w' r hy hl st'=>⟨_,⟨b,cap,t',c,can,dead,n,ys,xc,rt',rc,rfl,r,r2,⟨hy,hl⟩,h2,h3,rfl⟩,?_⟩⟩;rw [<-aN] at st';exact st'
 ·have st1:St w0 ((b,[Vo true,Vi cap,Vs a,Vs c,Vi can,Vo dead,Vi n])::(rc++(ra++fr))) w:=st.pq;refine⟨b,c,xc,rc,ra,_,cap,rfl,r2,h2,rfl,rfl,rfl,st1,h3,λt' rt' ys w' r hy hl st'=>⟨_,⟨b,cap,a,t',can,dead,n,xa,ys,ra,rt',rfl,r1,r,h1,⟨hy,hl⟩,h3,rfl⟩,?_⟩⟩;have st2:St w0 ((b,[Vo true,Vi cap,Vs a,Vs t',Vi can,Vo dead,Vi n])::(rt'++(ra++fr))) w':=st';exact st2.pq
theorem zug (k:Nat):(zp k [Vb 0]).toList=(List.replicate k (0:Int)).map uB:=by
 show(List.replicate k [Vb 0]).flatten=_
 induction k with
 | zero=>rfl
 | succ n ih=>rw [dH,eG,ih,dH]; rfl
theorem okB.take {xs:List Int} {n:Nat} (h:okB xs):okB (xs.take n):=λx hx=>h x (cT hx)
theorem okB.drop {xs:List Int} {n:Nat} (h:okB xs):okB (xs.drop n):=λx hx=>h x (dM hx)
theorem s_Ab {slot at_:Int} {b_:Slc} {ys:List Int} {R:Int->WP} (st:St w0 (bs++fr) w) (o:DkW d bs) (hs:∀ l' w',St w0 (l'++fr) w'->zj w' b_ 1 (ys.map uB)) (hy:okB ys)
    (k:∀ e bs' w',DkW d bs'->St w0 (bs'++fr) w'->R e w'):C_mc d slot at_ b_ w R:=by
 apply S_nc;unfold F_Sd;have hyl:=(hs _ _ st).1;rw [lM,aW] at hyl;refine s_p st o λe he=>⟨λh=>k e _ _ o st,λh=> ?_⟩
 have hsl:=he (by simpa using h);refine⟨λh=>k _ _ _ o st,λh=> ?_⟩;simp only [cD,decide_eq_false_iff_not] at h;obtain⟨b,t,xs,rt,rest,cs,cap,hd,rr,hx,c1,c2,c3,st1,hcap,back⟩:=o.focus hsl st;have hrl:=rr.len;rw [lM,aW] at hrl;have hso:slot<2:=O_;subst hd;refine⟨rfl,O_,hso,t,st1.cell 0 rfl (by show cs[0+2+slot.toNat]? =_; rw [dE]; exact c1),λh2=>k _ _ _ o st,λh2=>⟨rfl,cap,st1.cell 0 rfl (by show cs[0+1]? =_; exact c2),λh3=>k _ _ _ o st,λh3=> ?_⟩⟩;have h2:=dF h2;rw [i64_in _ O_ O_] at h3;have h3:=dF h3;obtain⟨at_,rfl⟩:=toN (show 0<=at_ by omega);have hle0:at_+b_.len<=16777216:=O_;clear st1 c1 c2 c3 back rr hrl h2 h3 hx hcap;refine s_R st o λe4 bs2 w2 o2 st2=>⟨λh4=>k _ _ _ o2 st2,λh4=> ?_⟩
 obtain⟨b',t,xs,rt,rest,cs,cap,hd,rr,hx,c1,c2,c3,st1,hcap,back⟩:=o2.focus hsl st2;obtain rfl:b=b':=by simpa using hd
 have hrl:=rr.len;rw [lM,aW] at hrl
 have cell:∀ {x:Slc} {cs:List Value} {l:List zb} {w':World},cs[2+slot.toNat]? =some (Vs x)->St w0 ((b,cs)::l) w'->w'.cell? ⟨pblk (Z0 b),poff (Z0 b)+2+slot.toNat,none⟩=some (Vs x):=λhc st =>
  st.cell 0 rfl (by show _[0+2+slot.toNat]? =_; rw [dE]; exact hc)
 have wend:i64.wrap ((at_:Int)+((b_.len:Nat):Int))=((at_+b_.len:Nat):Int):=W_
 have copy:∀ {x:Slc} {rx:List zb} {cs:List Value} {xs:List Int} {w3:World},RowC 1 x (xs.map uB) rx->okB xs->cs[2+slot.toNat]? =some (Vs x)->at_+b_.len<=xs.length->xs.length<=16777216 ->
     (∀(rt':List zb) (zs:List Int) (w':World),RowC 1 x (zs.map uB) rt'->okB zs->zs.length<=16777216->St w0 ((b,cs)::(rt'++(rest++fr))) w'->∃ bs',DkW (Z0 b) bs'/\St w0 (bs'++fr) w') ->
     St w0 ((b,cs)::(rx++(rest++fr))) w3->F_L (Z0 b) slot (at_:Int) b_ R w3:=by
  intro x rx cs xs w3 rx1 hok hc hfit hxl2 bk st3;have hxl:=rx1.len;rw [lM,aW] at hxl;have hxc:=rx1.cap_le;unfold F_L;refine⟨rfl,O_,hso,x,cell hc st3,⟨O_,O_,O_,O_⟩,?_⟩;rintro s rfl;have hsr:zj w3 b_ 1 (ys.map uB):=hs ((b,cs)::(rx++rest)) w3 (by simpa using st3)
  have hmin:min b_.len (Slc.cut 1 x (at_:Int) ((x.len:Nat):Int) ((x.cap:Nat):Int)).len=b_.len:=by
   show min b_.len (((x.len:Nat):Int).toNat - ((at_:Nat):Int).toNat)=_;simp only [tN]; omega
  rw [hmin];refine⟨_,hsr,?_⟩;refine rx1.over (l:=(b,cs)::(rest++fr)) (st3.pq) (by simp; omega) (z7f ys) λrt' w4 r4 st4=> ?_
  have e:(xs.map uB).take at_++ys.map uB++(xs.map uB).drop (at_+(ys.map uB).length)=(xs.take at_++ys++xs.drop (at_+ys.length)).map uB:=by
   rw [aR,aR,eZ,fN,lM]
  rw [e] at r4;obtain⟨bs',o',st'⟩:=bk rt' _ w4 r4 ((hok.take.app hy).app hok.drop) (by simp only [aB,aZ,bJ]; omega) (st4.pq);exact k _ bs' w4 o' st'
 refine⟨rfl,O_,hso,t,cell c1 st1,λh5=>λw5 e5=> ?_,λh5=> ?_⟩
 ·rw [wend] at h5;have h5:=dT h5;have st5:=st1.drew e5;have wk:i64.wrap (((at_+b_.len:Nat):Int) - ((t.len:Nat):Int))=((at_+b_.len - t.len:Nat):Int):=W_;refine⟨rfl,O_,hso,t,cell c1 st5,rfl,O_,hso,t,cell c1 st5,rfl,?_⟩;simp only [wend,wk,tN];refine⟨O_,O_,?_⟩;refine rr.append (l:=(b,cs)::(rest++fr)) (st5.pq) (by rw [zug]; simp) (by rw [zug]; exact z7f _) rfl O_ λs' rt' w6 r6 st6 hl6=> ?_;have st6:St w0 ((b,cs)::(rt'++(rest++fr))) w6:=st6.pq;refine⟨O_,hso,st6.writable 0 rfl (by show 0+2+slot.toNat+1<=_; rw [c3]; omega),λw7 hw7=> ?_⟩;have e0:poff (some ⟨b,0,none⟩:OA)+2+slot.toNat=2+slot.toNat:=by show 0+2+_=_; omega
  rw [e0] at hw7;have st7:=st6.put0 hw7;rw [zug,<-aR] at r6;refine copy r6 (hx.1.app λx hx=>by rw [bQ hx]; omega) ?_ (by rw [aB,bN]; omega) (by rw [aB,bN]; omega) (λrt2 zs w' r hz hz2 st=>back s' rt2 zs w' r hz hz2 st) st7;rw [zgd,aL (by rw [c3]; omega)]
 ·rw [wend] at h5;have h5:=dF h5;refine copy rr hx.1 c1 O_ hx.2 (λrt2 zs w' r hz hz2 st=> ?_) st1;refine back t rt2 zs w' r hz hz2 ?_
  have:putL (2+slot.toNat) [Vs t] cs=cs:=by
   rw [zgd];refine eI λj=> ?_;by_cases hj:2+slot.toNat=j
   ·subst hj; rw [aL (by rw [c3]; omega),c1]
   ·rw [aT hj]
  rw [this]; exact st
theorem s_Bb {slot:Int} {R:Slc->Int->WP} (st:St w0 (bs++fr) w) (o:DkW d bs)
    (k:∀ e s xs rb w',RowC 1 s (xs.map uB) rb->okB xs->xs.length<=16777216->St w0 (rb++(bs++fr)) w'->R s e w'):C_Rb d slot w R:=by
 apply S_O;unfold F_de;refine s_p st o λe he=>⟨λh=>k e _ [] [] w RowC.nil (λx hx=>by cases hx) (by simp) st,λh=> ?_⟩
 have hsl:=he (by simpa using h);obtain⟨b,t,xs,rt,rest,cs,cap,hd,rr,hx,c1,c2,c3,st1,hcap,back⟩:=o.focus hsl st;have hrl:=rr.len;rw [lM,aW] at hrl;subst hd;refine⟨rfl,O_,O_,t,st1.cell 0 rfl (by show cs[0+2+slot.toNat]? =_; rw [dE]; exact c1),?_⟩;exact s_E st (rr.src st1.drop1) O_ λs rb w' r st'=>k 0 s xs rb w' r hx.1 hx.2 st'
theorem s_Cb {slot:Int} {R:Int->WP} (st:St w0 (bs++fr) w) (o:DkW d bs) (k:∀ e bs' w',DkW d bs'->St w0 (bs'++fr) w'->R e w'):C_nc d slot w R:=by
 apply S_oc;unfold F_yf;refine s_p st o λe he=>⟨λh=>k e _ w o st,λh=> ?_⟩
 have hsl:=he (by simpa using h);refine s_R st o λe2 bs2 w2 o2 st2=>⟨λh=>k _ _ _ o2 st2,λh=> ?_⟩
 obtain⟨b,t,xs,rt,rest,cs,cap,hd,rr,hx,c1,c2,c3,st1,hcap,back⟩:=o2.focus hsl st2;subst hd;refine⟨rfl,O_,O_,st1.writable 0 rfl (by show 0+2+slot.toNat+1<=_; rw [c3]; omega),λw3 hw3=> ?_⟩;have e0:poff (some ⟨b,0,none⟩:OA)+2+slot.toNat=2+slot.toNat:=by show 0+2+_=_; omega
 rw [e0] at hw3;have st3:=st1.put0 hw3;have st4:St w0 ((b,putL (2+slot.toNat) [Ns] cs)::([]++(rest++fr))) w3:=st3.wq rt;obtain⟨bs',o',st'⟩:=back ⟨none,0,0⟩ [] [] w3 RowC.nil (λx hx=>by cases hx) (by simp) st4;exact k _ bs' w3 o' st'
theorem s_W {R:Int->WP} (st:St w0 (bs++fr) w) (o:DkW d bs) (k:∀ c,0<=c/\c<=16777216->R c w):C_Ub d w R:=by
 apply S_xb;unfold F_Ae;obtain⟨b,cap,a,c,can,dead,n,xa,xc,ra,rc,rfl,r1,r2,h1,h2,h3,rfl⟩:=o;exact⟨N_,λ_=>⟨rfl,cap,st.cell 0 rfl rfl,k cap h3⟩⟩
end
abbrev u4 (x:Int):Value:=Value.int .u32 x
theorem zwm (x y:Int):0<=bxor .u8 x y/\bxor .u8 x y<256:=zbh _
theorem zTd (l m:List Value) (h:l.length=m.length):putL 0 l m=l:=by
 have:=zdb [] m [] l h;simpa using this
theorem zQi (n:Nat):((List.replicate n (0:Int)).map u4).length=n:=by rw [lM,bN]
section
variable {w0:Base} {w:World} {fr:List zb}
theorem s_ld {R:List Int->WP} (st:St w0 fr w) (k:∀ l w',l.length=256->St w0 fr w'->R l w'):C_rd w R:=by
 apply S_kd;unfold F_mg;intro b w1 hb hw b1 w2 hb1 hw1;have st2:=(st.alloc (cs:=(List.replicate 256 (0:Int)).map u4) hb hw).alloc (cs:=(List.replicate 256 (0:Int)).map u4) hb1 hw1;refine⟨λi w'=>∃(p:Nat) (l:List Int),i=(p:Int)/\p<=256/\l.length=256/\St w0 ((b1,l.map u4)::(b,(List.replicate 256 (0:Int)).map u4)::fr) w',λi _=>256 - i.toNat,⟨0,List.replicate 256 0,rfl,O_,bN ..,st2⟩,?_⟩;clear st st2 hw hw1;rintro _ w3 ⟨p,l,rfl,hp,hl,st⟩;unfold F_Id;refine⟨λhi=> ?_,λ_=> ?_⟩
 ·have hi:=dT hi;refine⟨λc t w'=>∃ q:Nat,t=(q:Int)/\q<=8/\St w0 ((b1,l.map u4)::(b,(List.replicate 256 (0:Int)).map u4)::fr) w',λc t _=>8 - t.toNat,⟨0,rfl,O_,st⟩,?_⟩;clear st;rintro c _ w4 ⟨q,rfl,hq,st⟩;unfold F_Hd;refine⟨λh2=> ?_,λ_=>⟨O_,O_,st.writable 0 rfl (by rw [lM]; omega),λw5 hw5=> ?_⟩⟩
  ·have h2:=dT h2;rw [show i64.wrap ((q:Int)+1)=((q+1:Nat):Int) from W_];exact⟨⟨q+1,rfl,O_,st⟩,L_⟩
  ·have st5:=st.put0 hw5;rw [zgd,<-cV] at st5;rw [show i64.wrap ((p:Int)+1)=((p+1:Nat):Int) from W_];exact⟨⟨p+1,_,rfl,O_,by rw [aK]; exact hl,st5⟩,L_⟩
 ·have st2:St w0 ((b,(List.replicate 256 (0:Int)).map u4)::(b1,l.map u4)::fr) w3:=st.perm (List.Perm.swap _ _ _);refine⟨l,hl,(st.get 0 rfl).all,st2.writable 0 rfl (by rw [zQi]; omega),λw6 hw6=> ?_⟩;have st6:=St.put0 st2 hw6;rw [zTd _ _ (by rw [zQi,lM,hl])] at st6;exact⟨l,hl,(st6.get 0 rfl).all,k l w6 hl st6.drop1.drop1⟩
theorem s_Qb {c0:Int} {x:Slc} {xs:List Int} {R:Int->WP} (st:St w0 fr w) (hs:∀ l w',St w0 (l++fr) w'->zj w' x 1 (xs.map uB)) (hl:x.len<=4611686018427387904) (k:∀ v w',St w0 fr w'->R v w'):C_gd c0 x w R:=by
 apply S_rd;unfold F_vg;refine s_ld st λl w1 hll st1 _ b w2 hb hw=> ?_;have st2:=st1.alloc (cs:=(List.replicate 256 (0:Int)).map u4) hb hw;refine⟨st2.writable 0 rfl (by rw [zQi]; omega),λw3 hw3=> ?_⟩;have st3:=St.put0 st2 hw3;rw [zTd _ _ (by rw [zQi,lM,hll])] at st3;refine⟨λ_ i w'=>∃ p:Nat,i=(p:Int)/\p<=x.len/\St w0 ((b,l.map u4)::fr) w',λ_ i _=>x.len - i.toNat,⟨0,rfl,O_,st3⟩,?_⟩;clear st st1 st2 st3 hw hw3;rintro c _ w4 ⟨p,rfl,hp,st⟩;unfold F_Bg;refine⟨λhi=> ?_,λ_=>k _ w4 st.drop1⟩;have hi:=dT hi;obtain⟨a,y,hy,hc⟩:=(hs [(b,l.map u4)] w4 st).get (i:=(p:Int)) O_ hi;obtain⟨h0,h1⟩:=zwm (u8.wrap c) y;obtain⟨v,hv⟩:∃ v,l[(bxor .u8 (u8.wrap c) y).toNat]? =some v:=⟨_,aA O_⟩
 refine⟨a,O_,hi,y,hc,h0,h1,v,st.cell 0 rfl (by rw [dE,aF,hv]; rfl),?_⟩;rw [show i64.wrap ((p:Int)+1)=((p+1:Nat):Int) from W_];exact⟨⟨p+1,rfl,O_,st⟩,L_⟩
theorem s_O {b o n c:Nat} {v:Int} {xs:List Int} {R:WP} (st:St w0 ((b,xs.map uB)::fr) w) (ok:okB xs) (hn:n<=8) (ho:o+n<=xs.length) (k:∀ xs' w',xs'.length=xs.length->okB xs'->St w0 ((b,xs'.map uB)::fr) w'->R w'):C_Xb ⟨some ⟨b,o,none⟩,n,c⟩ v w R:=by
 apply S_nd;unfold F_Ng;refine⟨λi w'=>∃(j:Nat) (ys:List Int),i=(j:Int)/\j<=n/\ys.length=xs.length/\okB ys/\St w0 ((b,ys.map uB)::fr) w',λi _=>n - i.toNat,⟨0,xs,rfl,O_,rfl,ok,st⟩,?_⟩;clear st;rintro _ w1 ⟨j,ys,rfl,hj,hl,oy,st⟩;unfold F_pg;refine⟨λhi=> ?_,λhi=>k ys w1 hl oy st⟩;have hi:(j:Int)<((n:Nat):Int):=dT hi;have wj:i64.wrap ((j:Int)+1)=((j+1:Nat):Int):=W_;refine⟨W_,rfl,O_,hi,st.writable 0 rfl (by show o+((j:Nat):Int).toNat+1<=_; rw [lM]; omega),λw2 hw2=> ?_⟩;have st2:=st.put0 hw2;rw [zgd] at st2;have st2:St w0 ((b,(ys.map uB).set (o+((j:Nat):Int).toNat) (uB (u8.wrap (Int.fdiv v (2 ^ (min (i64.wrap (8*(j:Int))).toNat 64))))))::fr) w2:=st2;rw [<-cV] at st2;rw [wj];refine⟨⟨j+1,_,rfl,O_,by rw [aK]; exact hl,λx hx=> ?_,st2⟩,L_⟩;rcases cK hx with h | h
 ·exact oy x h
 ·rw [h]; exact zbh _
theorem s_7 {g:Int} {x:Slc} {xs:List Int} {R:List Int->WP} (st:St w0 fr w) (hs:∀ l w',St w0 (l++fr) w'->zj w' x 1 (xs.map uB)) (hl:x.len<=4611686018427387904) (k:∀ h w',okB h->St w0 fr w'->R h w'):C_dc g x w R:=by
 apply S_5c;unfold F_1e;intro b w1 hb hw;have st1:=st.alloc (cs:=(List.replicate 20 (0:Int)).map uB) hb hw;have ok0:okB (List.replicate 20 (0:Int)):=λx hx=>by rw [bQ hx]; omega
 have l0:(List.replicate 20 (0:Int)).length=20:=bN ..;refine s_O st1 ok0 O_ O_ λx1 w2 h1 o1 st2=>s_O st2 o1 O_ O_ λx2 w3 h2 o2 st3=>s_O st3 o2 O_ O_ λx3 w4 h3 o3 st4 w5 hd=> ?_;have st5:=st4.drew hd;apply S_Mc;unfold F_Pf;refine⟨rfl,?_⟩;apply S_zd;unfold F_Yg;refine s_Qb (xs:=(x3.drop 4).take 12) st5 (λl w' st'=> ?_) (by show 12<=_; omega) λv6 w6 st6=> ?_
 ·have st':St w0 ((b,x3.map uB)::(l++fr)) w':=st'.pq;refine⟨by rw [lM,aZ,bJ]; show _=12*1; omega,.inr ⟨rfl,(st'.get 0 rfl).cells λi v hi=> ?_⟩⟩;rw [eZ,fN] at hi;have hil:=(gSo hi).1;rw [aZ] at hil;rw [eK O_,dK] at hi;show(x3.map uB)[0+4+i]? =some v;rw [<-hi]
 ·refine s_Qb st6 (λl w' st'=>hs (l++[(b,x3.map uB)]) w' (by simpa using st')) hl λv7 w7 st7=>s_O st7 o3 O_ O_ λx4 w8 h4 o4 st8=> ?_;refine⟨x4,O_,(st8.get 0 rfl).all,st8.writable 0 rfl (by rw [lM]; omega),λw9 hw9=> ?_⟩;have st9:=St.put0 st8 hw9;rw [zTd _ _ rfl] at st9;exact⟨x4,O_,(st9.get 0 rfl).all,k x4 w9 o4 st9.drop1⟩
end
theorem zml {d:OA} {slot at_:Int} {b:Slc} {w:World} {R:Int->WP} (h:C_mc d slot at_ b w R) :
    zw (P:=Tryz.prog) (Value.func (.func 245) #[Vp d] #[]) #[Vi slot,Vi at_,Vs b] w (λe w'=>∃(v:Int),e=Ending.returned (Vi v)/\R v w') :=
 zw.mk (all:=#[Vp d,Vi slot,Vi at_,Vs b]) K_ rfl h
theorem znl {d:OA} {slot:Int} {w:World} {R:Int->WP} (h:C_nc d slot w R) :
    zw (P:=Tryz.prog) (Value.func (.func 246) #[Vp d] #[]) #[Vi slot] w (λe w'=>∃(v:Int),e=Ending.returned (Vi v)/\R v w') :=
 zw.mk (all:=#[Vp d,Vi slot]) K_ rfl h
theorem fnV_func {f:Fn} {a c:Array Value}:FnV (Value.func f a c):= .inr ⟨f,a,c,rfl⟩
section
variable {W:World} {mp:List (Nat×Obj)} {w:World} {fr bs:List zb} {d:OA}
abbrev zSv:T_b:=⟨0,⟨none,0,0⟩,⟨none,0,0⟩⟩
theorem s_md {s:Slc} {xs:List Int} {R:T_b->Int->Bool->WP} (st:St ⟨W,mp⟩ fr w) (hs:∀ l w',St ⟨W,mp⟩ (l++fr) w'->zj w' s 1 (xs.map uB)) (ok:okB xs) (hl:xs.length<=16777216) (hc:s.len<=s.cap)
    (k:∀ sv g t w',St ⟨W,mp⟩ fr w'->R sv g t w'):C_zc s w R:=by
 apply S_Ab;unfold F_9d;have hsl:s.len=xs.length:=by have:=(hs [] w st).1; rw [lM] at this; omega
 intro b1 w1 hb1 hw1;have st1:St ⟨W,mp⟩ ((b1,svT zSv)::fr) w1:=st.alloc hb1 hw1
 have fin:∀ {sv sv2:T_b} {g:Int} {t:Bool} {l:List zb} {w':World},St ⟨W,mp⟩ ((b1,svT sv)::(l++fr)) w'->zr w' b1 0 3/\(∀ w2,w2=World.puts b1 0 (svT sv2) w'->∃(res:T_b),zf w2 b1 0 (svT res)/\R res g t w2):=λ{sv sv2 g t l w'} st'=>by
  refine⟨st'.writable 0 rfl (aM rfl),λw2 hw2=> ?_⟩;have st2:St ⟨W,mp⟩ ((b1,svT sv2)::(l++fr)) w2:=St.put0 st' hw2;exact⟨sv2,(st2.get 0 rfl).all,k sv2 g t w2 (st2.weak ((b1,svT sv2)::l) (.of_eq (by simp only [dV])))⟩
 refine⟨λ_=>fin (sv2:=zSv) (l:=[]) st1,λh=> ?_⟩;have h20:=dF h;have hpre:=(hs [(b1,svT zSv)] _ st1).pre (k:=20) O_;rw [aW,<-eZ] at hpre;have htl:(xs.take 20).length=20:=by rw [aZ]; omega
 obtain⟨ha,hcl⟩:IsAt s.ptr/\zf w1 (pblk s.ptr) (poff s.ptr) ((xs.take 20).map uB):=by
  rcases hpre.2 with h0 | h0
  ·have:=congrArg List.length h0;rw [lM,htl] at this; simp at this
  ·exact h0
 refine⟨O_,O_,ha,xs.take 20,htl,hcl,λb2 w3 hb2 hw3=> ?_⟩;have st3:=st1.alloc (cs:=(List.replicate 20 (0:Int)).map uB) hb2 hw3;have zl:((List.replicate 20 (0:Int)).map uB).length=20:=by rw [lM,bN]
 refine⟨st3.writable 0 rfl (by rw [zl]; omega),λw4 hw4=> ?_⟩;have st4:=St.put0 st3 hw4;rw [zTd _ _ (by rw [zl,lM,htl])] at st4;refine⟨λg i w'=>∃ j:Nat,i=11 - (j:Int)/\j<=8/\St ⟨W,mp⟩ ((b2,(xs.take 20).map uB)::(b1,svT zSv)::fr) w',λ_ i _=>(i - 3).toNat,⟨0,rfl,O_,st4⟩,?_⟩;clear st st1 st3 st4 hw1 hw3 hw4 hcl ha hpre;rintro g _ w5 ⟨j,rfl,hj,st⟩;unfold F_3c;refine⟨λhi=> ?_,λ_ w11 hd=> ?_⟩
 ·have hi:=dT hi;obtain⟨v,hv⟩:∃ v,(xs.take 20)[(11 - (j:Int)).toNat]? =some v:=⟨_,aA O_⟩
  refine⟨O_,O_,v,st.cell 0 rfl (by rw [dE,aF,hv]; rfl),?_⟩;rw [show i64.wrap (11 - (j:Int) - 1)=11 - ((j+1:Nat):Int) from W_];exact⟨⟨j+1,rfl,O_,st⟩,M_⟩
 have st11:=st.drew hd;have swp:∀ {w':World},St ⟨W,mp⟩ ((b2,(xs.take 20).map uB)::(b1,svT zSv)::fr) w'->St ⟨W,mp⟩ ((b1,svT zSv)::([(b2,(xs.take 20).map uB)]++fr)) w':=λst'=>st'.perm (List.Perm.swap _ _ _)
 have bad:∀ {g:Int} {w':World},St ⟨W,mp⟩ ((b2,(xs.take 20).map uB)::(b1,svT zSv)::fr) w'->F_qb s R b1 g true w':=λ{g w'} st'=>by
  unfold F_qb;exact⟨λ_=>fin (sv2:=zSv) (swp st'),N_⟩
 have hcut:∀ {s1:Slc},s1=Slc.cut 1 s 20 ((s.len:Nat):Int) ((s.cap:Nat):Int)->∀ l w',St ⟨W,mp⟩ (l++((b2,(xs.take 20).map uB)::(b1,svT zSv)::fr)) w'->zj w' s1 1 ((xs.drop 20).map uB):=λ{s1} hs1 l w' st'=>by
  have:=(hs (l++[(b2,(xs.take 20).map uB),(b1,svT zSv)]) w' (by simpa using st')).cut (lo:=20) (hi:=((s.len:Nat):Int)) (mx:=((s.cap:Nat):Int)) O_ O_ O_ O_;subst hs1
  have e2:((xs.map uB).drop ((20:Int).toNat*1)).take ((((s.len:Nat):Int).toNat - (20:Int).toNat)*1)=(xs.drop 20).map uB:=by
   rw [aW,aW,<-fN,bF (by rw [lM,bJ,tN]; show _<=s.len - 20; omega)];rfl
  rw [e2] at this;exact this
 have clen:∀ {s1:Slc},s1=Slc.cut 1 s 20 ((s.len:Nat):Int) ((s.cap:Nat):Int)->s1.len=xs.length - 20:=λ{s1} hs1=>by
  subst hs1;show((s.len:Nat):Int).toNat - (20:Int).toNat=_;rw [tN,hsl]; rfl
 refine⟨λ_=>bad st11,λ_=>⟨xs.take 20,htl,(st11.get 0 rfl).all,⟨O_,O_,O_,O_⟩,λs1 hs1=> ?_⟩⟩;refine s_7 st11 (hcut hs1) (by rw [clen hs1]; omega) λhd2 w12 _ st12 _=>⟨(st12.get 0 rfl).all,?_⟩
 by_cases hh:(!(xs.take 20==hd2))=true
 ·rw [hh]; exact bad st12
 rw [show(!(xs.take 20==hd2))=false by simpa using hh];unfold F_qb;refine⟨N_,λ_=>⟨⟨O_,O_,O_,O_⟩,λs2 hs2=> ?_⟩⟩;refine s_5 st12 (hcut hs2) ok.drop (by rw [bJ]; omega) λsv e w8 st8=> ?_;have st8:=swp st8;refine⟨st8.writable 0 rfl (aM rfl),λw9 hw9=> ?_⟩;have st9:St ⟨W,mp⟩ ((b1,svT sv)::([(b2,(xs.take 20).map uB)]++fr)) w9:=St.put0 st8 hw9;exact⟨sv,(st9.get 0 rfl).all,fin (sv2:=sv) st9⟩
theorem s_Lc {R:T_b->Int->Int->Bool->Int->WP} (st:St ⟨W,mp⟩ (bs++fr) w) (o:DkW d bs) (k:∀ sv g n t e w',St ⟨W,mp⟩ (bs++fr) w'->R sv g n t e w'):C_Ib d w R:=by
 apply S_ib;unfold F_0e;intro b w1 hb hw;have st1:St ⟨W,mp⟩ ((b,svT zSv)::(bs++fr)) w1:=st.alloc hb hw;refine⟨λg n t i w'=>∃(p:Nat) (sv:T_b) (l:List zb),i=(p:Int)/\p<=2/\St ⟨W,mp⟩ ((b,svT sv)::(bs++(l++fr))) w',λ_ _ _ i _=>2 - i.toNat,⟨0,zSv,[],rfl,O_,st1⟩,?_⟩;clear st st1 hw;rintro g n t _ w2 ⟨p,sv,l,rfl,hp,st⟩;unfold F_Od
 have fin:∀ {sv sv2:T_b} {g n e:Int} {t:Bool} {w':World} {l:List zb},St ⟨W,mp⟩ ((b,svT sv)::(bs++(l++fr))) w'->zr w' b 0 3/\(∀ w2,w2=World.puts b 0 (svT sv2) w'->∃(res:T_b),zf w2 b 0 (svT res)/\R res g n t e w2):=λ{sv sv2 g n e t w' l} st'=>by
  refine⟨st'.writable 0 rfl (aM rfl),λw2 hw2=> ?_⟩;have st2:St ⟨W,mp⟩ ((b,svT sv2)::(bs++(l++fr))) w2:=St.put0 st' hw2;exact⟨sv2,(st2.get 0 rfl).all,k sv2 g n t e w2 (st2.weak ((b,svT sv2)::l) (by simpa using ((dA bs l fr).cons (b,svT sv2))))⟩
 refine⟨λhi=> ?_,λ_=>⟨sv,(st.get 0 rfl).all,fin (sv2:=sv) st⟩⟩;have hi:=dT hi;have wp:i64.wrap ((p:Int)+1)=((p+1:Nat):Int):=W_;have st':St ⟨W,mp⟩ (bs++((b,svT sv)::(l++fr))) w2:=st.perm (by simpa using (fH (l₁:=bs) (a:=(b,svT sv)) (l₂:=l++fr)).symm);refine s_Bb st' o λe s xs rb w4 r ok hl st4=> ?_;have st4':St ⟨W,mp⟩ ((b,svT sv)::(bs++((rb++l)++fr))) w4:=st4.pq;refine⟨λ_=>fin (sv2:=zSv) st4',λ_=> ?_⟩;refine s_md st4' (λl' w' st5=>r.srcM (λc hc=>by simp [hc]) st5) ok hl r.cap_le λsv2 g2 t2 w6 st6 b2 w7 hb2 hw7=> ?_;have st7:=st6.alloc (cs:=svT zSv) hb2 hw7;refine⟨st7.writable 0 rfl (aM rfl),λw8 hw8=> ?_⟩;have st8:St ⟨W,mp⟩ ((b2,svT sv2)::(b,svT sv)::(bs++((rb++l)++fr))) w8:=St.put0 st7 hw8;have st8':St ⟨W,mp⟩ ((b,svT sv)::(b2,svT sv2)::(bs++((rb++l)++fr))) w8:=st8.perm (List.Perm.swap _ _ _);have mv:∀ {sv:T_b} {w':World},St ⟨W,mp⟩ ((b,svT sv)::(b2,svT sv2)::(bs++((rb++l)++fr))) w'->St ⟨W,mp⟩ ((b,svT sv)::(bs++(((b2,svT sv2)::(rb++l))++fr))) w':=λ{sv w'} st'=>st'.perm (.cons _ (by simpa using (fH (l₁:=bs) (a:=(b2,svT sv2)) (l₂:=rb++(l++fr))).symm));refine⟨λ_=>⟨sv2,(st8.get 0 rfl).all,st8'.writable 0 rfl (aM rfl),λw9 hw9=> ?_⟩,λ_=> ?_⟩
 ·have st9:St ⟨W,mp⟩ ((b,svT sv2)::(b2,svT sv2)::(bs++((rb++l)++fr))) w9:=St.put0 st8' hw9;unfold F_2b;rw [wp];exact⟨⟨p+1,sv2,_,rfl,O_,mv st9⟩,L_⟩
 ·unfold F_2b;rw [wp];exact⟨⟨p+1,sv,_,rfl,O_,mv st8'⟩,L_⟩
def SvrW (d t:OA) (cs:List zb):Prop:=(t=none/\cs=[])\/∃(b:Nat) (sl at_:Int) (done:Bool) (s:Slc) (ys:List Int) (rs:List zb),t=some ⟨b,0,none⟩/\RowC 1 s (ys.map uB) rs/\okB ys/\ys.length<=16777236 /\
 cs=(b,[Value.func (.func 245) #[Vp d] #[],Value.func (.func 246) #[Vp d] #[],Vi sl,Vs s,Vi at_,Vo done])::rs
theorem s_Db {sv:T_b} {bey:List Int} {os:List HO} {R:OA->Int->WP} (st:St ⟨W,mp⟩ (bs++fr) w) (o:DkW d bs) (h:SvW W fr sv bey os) (hl:sv.Held.len<=16384) (hv:∀ o∈os,o.2.2.len<=1024)
    (k:∀ t e cs w',SvrW d t cs->(e=0->t≠none)->St ⟨W,mp⟩ (bs++(cs++fr)) w'->R t e w'):C_sd d sv w R:=by
 apply S_od;unfold F_ng;intro b w1 hb hw;have st1:St ⟨W,mp⟩ (bs++((b,svT sv)::fr)) w1:=(st.alloc (cs:=svT sv) hb hw).perm fH.symm;refine s_Lc st1 o λsv2 g n t e w2 st2 b1 w3 hb1 hw3=> ?_;have st3:=st2.alloc (cs:=svT zSv) hb1 hw3;refine⟨st3.writable 0 rfl (aM rfl),λw4 hw4=> ?_⟩;have st4:St ⟨W,mp⟩ ((b1,svT sv2)::(bs++((b,svT sv)::fr))) w4:=St.put0 st3 hw4;have no:∀ {e:Int} {l:List zb} {w':World},e≠0->St ⟨W,mp⟩ (l++((b1,svT sv2)::(bs++((b,svT sv)::fr)))) w'->R none e w':=λ{e l w'} he st'=>k none e [] w' (.inl ⟨rfl,rfl⟩) (λh=>absurd h he) (st'.wq (l++[(b1,svT sv2),(b,svT sv)]));refine⟨λhe=>no (l:=[]) (by simpa using he) st4,λ_=> ?_⟩;have st4b:St ⟨W,mp⟩ ((b,svT sv)::(b1,svT sv2)::(bs++fr)) w4:=st4.pq;refine⟨sv,(st4b.get 0 rfl).all,?_⟩;have st4c:St ⟨W,mp⟩ (((b,svT sv)::(b1,svT sv2)::bs)++fr) w4:=st4b;refine s_6 st4c h.more hl hv λx xs rb e1 w5 r ok hx st5=>⟨λhe=>no (l:=rb) (by simpa using he) (st5.pq),λ_=> ?_⟩
 have st5:St ⟨W,mp⟩ (rb++((b1,svT sv2)::(bs++((b,svT sv)::fr)))) w5:=st5.pq;have hxl:=r.len;rw [lM,aW] at hxl
 have main:∀ sl,F_jc d R g x sl w5:=λsl=>by
  unfold F_jc;refine⟨λ_=>no (l:=rb) D_ st5,λ_=>s_7 st5 (λl w' st'=>r.srcM (λc hc=>by simp [hc]) st') O_ λhd w7 okh st7 hhl b2 w8 hb2 hw8=> ?_⟩;have st8:=st7.alloc (cs:=(List.replicate 20 (0:Int)).map uB) hb2 hw8;have zl:((List.replicate 20 (0:Int)).map uB).length=20:=by rw [lM,bN]
  refine⟨st8.writable 0 rfl (by rw [zl]; omega),λw9 hw9=> ?_⟩;have st9:=St.put0 st8 hw9;rw [zTd _ _ (by rw [zl,lM,hhl])] at st9;have st9:St ⟨W,mp⟩ ((b2,hd.map uB)::(rb++((b1,svT sv2)::(bs++((b,svT sv)::fr))))) w9:=st9;have st9c:St ⟨W,mp⟩ (bs++((b2,hd.map uB)::(rb++((b1,svT sv2)::(b,svT sv)::fr)))) w9:=st9.pq;refine s_W st9c o λc hc=>⟨λ_=>no (l:=(b2,hd.map uB)::rb) D_ st9,λhfit=> ?_⟩
  have hfit:=dF hfit;rw [i64_in _ O_ O_] at hfit;have r20:RowC 1 ⟨some ⟨b2,0,none⟩,20,20⟩ (hd.map uB) [(b2,hd.map uB)]:=RowC.new (by rw [lM,hhl]);refine⟨_,r.srcM (λc hc=>by simp [hc]) st9c,?_⟩;refine r20.append (l:=rb++((b1,svT sv2)::(bs++((b,svT sv)::fr)))) st9 (by rw [lM]; omega) (z7f xs) rfl (by show(20+x.len)*1<=_; omega) λs' rs w11 r11 st11 hl11 b3 w12 hb3 hw12=> ?_;have st12:=st11.alloc (cs:=[Value.func (.func 245) #[Vp d] #[],Value.func (.func 246) #[Vp d] #[],Vi sl,Vs s',Vi 0,Vo false]) hb3 hw12;rw [<-aR] at r11;refine k _ 0 _ w12 (.inr ⟨b3,sl,0,false,s',hd++xs,rs,rfl,r11,okh.app ok,by rw [aB]; omega,rfl⟩) (λ_ h=>by cases h) (st12.wq (rb++[(b1,svT sv2),(b,svT sv)]))
 exact⟨λ_=>main _,λ_=>main _⟩
end
section
variable {w0:Base} {w:World} {fr bs cs:List zb} {d t:OA}
theorem s_8 {R:Int->WP} (st:St w0 (cs++fr) w) (o:SvrW d t cs) (k:∀ v,R v w):C_rb t w R:=by
 apply S_1b;unfold F_6e;rcases o with ⟨rfl,rfl⟩ | ⟨b,sl,at_,done,s,ys,rs,rfl,r,ok,hl,rfl⟩
 ·refine⟨λ_=> ?_,N_⟩;unfold F_Mb;exact⟨λ_=>k 0,N_⟩
 ·refine⟨N_,λ_=>⟨rfl,_,st.cell 0 rfl rfl,fnV_func,?_⟩⟩;unfold F_Mb;refine⟨N_,λ_=>⟨rfl,s,st.cell 0 rfl rfl,rfl,done,st.cell 0 rfl rfl,λ_=> ?_,λ_=> ?_⟩⟩
  ·unfold F_Lb; exact k _
  ·unfold F_Lb; exact k _
theorem s_Mc {R:Int->WP} (st:St w0 (bs++(cs++fr)) w) (od:DkW d bs) (o:SvrW d t cs)
    (k:∀ e bs' cs' w',DkW d bs'->SvrW d t cs'->St w0 (bs'++(cs'++fr)) w'->R e w'):C_ac t w R:=by
 apply S_2b;unfold F_Cd;rcases id o with ⟨rfl,rfl⟩ | ⟨b,sl,at_,done,s,ys,rs,rfl,r,ok,hl,rfl⟩
 ·refine⟨λ_=> ?_,N_⟩;unfold F_I;exact⟨λ_=>k 2 bs [] w od o st,N_⟩
 have hrl:=r.len;rw [lM,aW] at hrl;have hcp:=r.cap_le;have st1:St w0 ((b,[Value.func (.func 245) #[Vp d] #[],Value.func (.func 246) #[Vp d] #[],Vi sl,Vs s,Vi at_,Vo done])::(bs++(rs++fr))) w:=st.pq;refine⟨N_,λ_=>⟨rfl,_,st1.cell 0 rfl rfl,fnV_func,?_⟩⟩;unfold F_I;refine⟨N_,λ_=>⟨rfl,done,st1.cell 0 rfl rfl,λ_ w2 hd2=> ?_,λh0=>⟨rfl,s,st1.cell 0 rfl rfl,λ_=>k 9 bs _ w od o st,λhz=> ?_⟩⟩⟩
 ·have st2:=st.drew hd2;have st2c:=st1.drew hd2;refine⟨rfl,_,st2c.cell 0 rfl rfl,rfl,sl,st2c.cell 0 rfl rfl,znl ?_⟩;refine s_Cb st2 od λe bs' w3 od' st3=> ?_;have st3:St w0 ((b,[Value.func (.func 245) #[Vp d] #[],Value.func (.func 246) #[Vp d] #[],Vi sl,Vs s,Vi at_,Vo done])::(bs'++(rs++fr))) w3:=st3.pq;refine⟨rfl,st3.writable 0 rfl (aM rfl),λw4 hw4=> ?_⟩;have st4:St w0 ((b,[Value.func (.func 245) #[Vp d] #[],Value.func (.func 246) #[Vp d] #[],Vi sl,Vs s,Vi at_,Vo (e==0)])::(bs'++(rs++fr))) w4:=st3.put0 hw4;exact k _ bs' _ w4 od' (.inr ⟨b,sl,at_,e==0,s,ys,rs,rfl,r,ok,hl,rfl⟩) (st4.pq)
 have hz:((s.len:Nat):Int)≠0:=by simpa using hz
 have hmin:(if(64:Int)<((s.len:Nat):Int) then(64:Int) else((s.len:Nat):Int))=((min s.len 64:Nat):Int):=by split <;> omega
 refine⟨rfl,s,st1.cell 0 rfl rfl,rfl,s,st1.cell 0 rfl rfl,?_⟩;dsimp only; rw [hmin,tN];refine⟨O_,O_,λw5 e5 w6 hd6=> ?_⟩;have st6:=(st.keep e5).drew hd6;have st6c:=(st1.keep e5).drew hd6;refine⟨rfl,_,st6c.cell 0 rfl rfl,rfl,sl,st6c.cell 0 rfl rfl,rfl,at_,st6c.cell 0 rfl rfl,?_⟩;refine zml (b:=⟨s.ptr,min s.len 64,s.cap⟩) (s_Ab st6 od (ys:=ys.take (min s.len 64)) (λl' w' st'=> ?_) ok.take λe bs' w7 od' st7=>⟨λ_=> ?_,λ_=> ?_⟩)
 ·have:=(r.srcM (λc hc=>by simp [hc]) st').pre (k:=min s.len 64) O_;rw [aW,<-eZ] at this;exact this
 ·exact k e bs' _ w7 od' (.inr ⟨b,sl,at_,done,s,ys,rs,rfl,r,ok,hl,rfl⟩) st7
 have st7c:St w0 ((b,[Value.func (.func 245) #[Vp d] #[],Value.func (.func 246) #[Vp d] #[],Vi sl,Vs s,Vi at_,Vo done])::(bs'++(rs++fr))) w7:=st7.pq;refine⟨rfl,s,st7c.cell 0 rfl rfl,⟨O_,O_,O_,O_⟩,λs1 hs1=> ?_⟩;have r1:=r.cut (lo:=((min s.len 64:Nat):Int)) (hi:=((s.len:Nat):Int)) (mx:=((s.cap:Nat):Int)) O_ O_ O_ O_ O_;rw [<-hs1,aW,aW,<-fN,<-eZ] at r1;refine⟨rfl,st7c.writable 0 rfl (aM rfl),λw8 hw8=> ?_⟩;have st8:St w0 ((b,[Value.func (.func 245) #[Vp d] #[],Value.func (.func 246) #[Vp d] #[],Vi sl,Vs s1,Vi at_,Vo done])::(bs'++(rs++fr))) w8:=st7c.put0 hw8;refine⟨rfl,at_,st8.cell 0 rfl rfl,st8.writable 0 rfl (aM rfl),λw9 hw9=> ?_⟩;have st9:St w0 ((b,[Value.func (.func 245) #[Vp d] #[],Value.func (.func 246) #[Vp d] #[],Vi sl,Vs s1,Vi (i64.wrap (at_+((min s.len 64:Nat):Int))),Vo done])::(bs'++(rs++fr))) w9:=st8.put0 hw9;exact k 0 bs' _ w9 od' (.inr ⟨b,sl,i64.wrap (at_+((min s.len 64:Nat):Int)),done,s1,_,rs,rfl,r1,ok.drop.take,by rw [aZ,bJ]; omega,rfl⟩) (st9.pq)
end
def fl {α:Type} (L:List (List α)):List α:=L.flatten
section
variable {α:Type} {L:List (List α)} {i:Nat} {x y:List α}
theorem zM (f:α->Nat) (h:L[i]? =some x):((fl L).map f).sum=(x.map f).sum+((fl (L.eraseIdx i)).map f).sum:=by
 unfold fl
 induction L generalizing i with
 | nil=>simp at h
 | cons z L ih =>
  cases i with
  | zero =>
   have:z=x:=by simpa using h
   subst this;simp
  | succ i =>
   have:=ih (i:=i) (by simpa using h);rw [cO,eG,eG,aR,List.sum_append_nat,this,aR,List.sum_append_nat];omega
theorem zUd (f:α->Nat) (h:L[i]? =some x):((fl (L.set i y)).map f).sum=(y.map f).sum+((fl (L.eraseIdx i)).map f).sum:=by
 have h1:(L.set i y)[i]? =some y:=aL (gSo h).1;rw [zM f h1];congr 4
 have:∀(L:List (List α)) (i:Nat),(L.set i y).eraseIdx i=L.eraseIdx i:=λL=>by
  induction L with
  | nil=>intro i; rfl
  | cons z L ih =>
   intro i;cases i with
   | zero=>rfl
   | succ i=>rw [cS,cO,cO,ih]
 exact this L i
end
def InW (PB:List zb) (s:Slc) (ws:List Wr):Prop:=∃ rb,RowC 3 s (ws.flatMap wV) rb/\∀ c∈rb,c∈PB
theorem InW.mono {PB PB':List zb} {s:Slc} {ws:List Wr} (h:InW PB s ws) (hm:∀ c∈PB,c∈PB'):InW PB' s ws:=by
 obtain⟨rb,a,b⟩:=h;exact⟨rb,a,λc hc=>hm c (b c hc)⟩
theorem InW.src {PB L:List zb} {s:Slc} {ws:List Wr} {w0:Base} {w:World} (h:InW PB s ws) (hm:∀ c∈PB,c∈L) (st:St w0 L w):zj w s 3 (ws.flatMap wV):=by
 obtain⟨rb,a,b⟩:=h;exact a.srcM (λc hc=>hm c (b c hc)) st
theorem InW.len {PB:List zb} {s:Slc} {ws:List Wr} (h:InW PB s ws):s.len=ws.length:=by
 obtain⟨rb,a,_⟩:=h;have:=a.len;rw [zc zze] at this;omega
theorem InW.cap {PB:List zb} {s:Slc} {ws:List Wr} (h:InW PB s ws):s.len<=s.cap:=by
 obtain⟨rb,a,_⟩:=h;exact a.cap_le
abbrev pP (p:OA):Value:=Vp p
abbrev aP (b:Nat):Value:=Vp (Z0 b)
structure RS where
 rb:Nat
 cfg:Cfg
 disk:Addr
 f:OA
 sp:OA
 dp:OA
 gt:OA
 lp:List (OA)
 op:List (OA)
 tv:List Value
 lsl:Slc
 osl:Slc
 tsl:Slc
 wm:Nat
 fv:Base
 fx:List zb
structure RSok (σ:RS):Prop where
 lrow:∃ b,RowC 1 σ.lsl (σ.lp.map pP) b/\∀ c∈b,c∈σ.fx
 orow:∃ b,RowC 1 σ.osl (σ.op.map pP) b/\∀ c∈b,c∈σ.fx
 trow:∃ b,RowC 1 σ.tsl σ.tv b/\∀ c∈b,c∈σ.fx
 tl:σ.tv.length=σ.lp.length+σ.op.length+2
 td:∃ b,σ.tv[0]? =some (Value.iface 130 (aP b))/\(b,[aP σ.rb])∈σ.fx
 tw:∀(i:Nat) p,σ.lp[i]? =some p->∃ b,σ.tv[1+i]? =some (Value.iface 136 (aP b))/\(b,[aP σ.rb,pP p])∈σ.fx
 tk:∀(i:Nat) p,σ.op[i]? =some p->∃ b,σ.tv[1+σ.lp.length+i]? =some (Value.iface 141 (aP b))/\(b,[aP σ.rb,pP p,Vi (i:Int)])∈σ.fx
 tg:∃ b,σ.tv[1+σ.lp.length+σ.op.length]? =some (Value.iface 144 (aP b))/\(b,[aP σ.rb])∈σ.fx
 cfg:zV σ.cfg=0
 ln:(σ.lp.length:Int)=σ.cfg.Lanes
 on:(σ.op.length:Int)=σ.cfg.Shards
structure RX where
 cl:Slc
 sv:Bool
 dead:Bool
 kb:List zb
 cb:List zb
 CB:List (List zb)
def RX.yb (x:RX):List zb:=x.kb++(x.cb++fl x.CB)
inductive QE
 | ins (s:Slc) (i:Nat) (z:IW)
 | rq (s:Slc) (c:Nat) (q:Cq)
def QE.req:QE->Rq
 | .ins s i z=>insR s ((i:Int)+1) z.1 z.2
 | .rq s _ q=>rqT q s
def QE.iw:QE->Option (Nat×IW)
 | .ins _ i z=>some (i,z)
 | .rq _ _ _=>none
def QE.ok (n:Nat):QE->Prop
 | .ins s _ _=>s.len=0
 | .rq _ c q=>q.ok/\q.from_= -1 - (c:Int)/\c<n
structure CS where
 m:TkM
 ended:Bool
 least:Int
abbrev cuV (rb:Nat) (i:Nat) (c:CS) (tp:OA) (by_:Slc) (sv:OA) (bad:Int) (av:List Value):List Value :=
 [aP rb,Vi (-1 - (i:Int)),Vb c.m.call.Kind,pP tp,Vs by_,pP sv,Vi bad,Vo c.ended]++av
def CuO (σ:RS) (i b:Nat) (c:CS) (cs:List zb):Prop :=
 ∃(tp sv:OA) (by_:Slc) (bey:List Int) (bad:Int) (av:List Value) (tks svs bys rest:List zb),av.length=5/\TkO tp (some c.m) tks/\SvrW (some σ.disk) sv svs/\RowC 1 by_ (bey.map Vi) bys/\bey.length<=65536/\c.m.number= -1 - (i:Int)/\c.m.cfg=σ.cfg/\(∀ e∈c.m.rest,e.2.ok/\e.2.from_= -1 - (i:Int)/\∃ k:Nat,e.1=(k:Int)/\k<σ.op.length) /\
  cs=(b,cuV σ.rb i c tp by_ sv bad av)::(tks++(svs++(bys++rest)))
structure RD where
 fcs:List zb
 dcs:List zb
 gcs:List zb
 LB:List (List zb)
 OB:List (List zb)
 lb:List zb
 gb:List zb
 PB:List zb
 dm:List (Nat×Obj)
 we:Array MapEntry
 wc:Nat
 SB:List (List (Nat×Obj))
 line:Slc
 gone:Slc
 ll:List (Tx×Slc)
 top:Int
 x:RX
 Q:List (List QE)
 M:List SM
 C:List CS
 p:Nat
def repV (σ:RS) (x:RX) (line gone:Slc):List Value :=
 [Vi σ.cfg.Lanes,Vi σ.cfg.Shards,Vi σ.cfg.Window,Vi σ.cfg.Queue,Vp (some σ.disk),pP σ.f,pP σ.dp,pP σ.gt,Vs σ.lsl,Vs σ.osl,Vs σ.tsl,Vs x.cl,Vs line,mV σ.wm,Vs gone,Vo x.sv,Vo false,Vo x.dead]
def RD.cs (σ:RS) (d:RD):List zb:=(σ.rb,repV σ d.x d.line d.gone)::(d.fcs++(d.dcs++(d.gcs++(fl d.LB++(fl d.OB++(d.lb++(d.gb++(d.PB++(d.x.yb++σ.fx)))))))))
def RD.mp (σ:RS) (d:RD):List (Nat×Obj):=σ.fv.mp++(d.dm++((σ.wm,.map d.we d.wc)::fl d.SB))
def txC (p:Tx×Slc):List Value:=txW p.1.1 p.2
theorem zaf (p:Tx×Slc):(txC p).length=2:=rfl
def LRel (o:Option LJ) (h:Option LHd):Prop:=match o,h with
 | none,none=>True
 | some j,some h=>j.n=h.n/\j.left=h.ws.drop h.sent/\j.out=h.sent - h.acked/\(∀ x∈h.ws,zYc x)/\h.n<=65536/\OkH h
 | _,_=>False
def zGd (z:IW):Ver:=⟨z.1,z.2.Val,z.2.Drop⟩
def zch (l:List IW):SM:=l.foldl (λM z=>M.put z.2.Key (zGd z)) (λ_=>[])
def StO (M:SM) (l:List IW):Prop:=∀ k,okC 0 (M k)=true/\∀ y∈M k,y∈zch l k
def OwnP (σ:RS) (OB:List (List zb)) (SB:List (List (Nat×Obj))) (Q:List (List QE)) (Ms:List SM):Prop :=
 ∀(i:Nat) q M,Q[i]? =some q->Ms[i]? =some M->∃ p bs sm,σ.op[i]? =some p/\OB[i]? =some bs/\SB[i]? =some sm/\zSb p M σ.cfg.Queue.toNat (q.map QE.req) sm bs
structure XtI (σ:RS) (x:RX) (Q:List (List QE)) (Ms:List SM) (C:List CS) (qs:List (List (Nat×IW))) (inst:List (List IW)):Prop where
 ql:Q.length=σ.op.length
 ml:Ms.length=σ.op.length
 qq:qs=Q.map λq=>q.filterMap QE.iw
 qz:∀ q∈Q,∀ e∈q,e.ok C.length
 sto:∀(i:Nat) M l,Ms[i]? =some M->inst[i]? =some l->StO M l
 non:C=[]->Ms=inst.map zch
 disk:DkW (some σ.disk) x.kb
 cal:∃ ps:List Nat,RowC 1 x.cl (ps.map aP) x.cb/\ps.length=C.length/\x.CB.length=C.length/\∀(i:Nat) c,C[i]? =some c->∃ b bs,ps[i]? =some b/\x.CB[i]? =some bs/\CuO σ i b c bs
 cn:C.length<=1000
structure RepI (σ:RS) (d:RD) (log:List Tx) (fed:Nat) (s:TS):Prop where
 ok:RSok σ
 feed:FdO σ.fv σ.sp (some ⟨log,0,s.at_,fed,σ.cfg.Window.toNat,[],s.held,false⟩) σ.f d.fcs
 deps:DepO σ.dp d.top s.opn s.W d.dm d.dcs
 top:d.top+(if s.held.isSome=true then 1 else 0)=(s.at_:Int)
 gate:znd σ.gt s.g d.gcs
 ll:s.lanes.length=σ.lp.length
 lB:d.LB.length=σ.lp.length
 lane:∀(i:Nat) o,s.lanes[i]? =some o->∃ p bs h,σ.lp[i]? =some p/\d.LB[i]? =some bs/\LnO p (some ⟨(i:Int)+1,σ.cfg,h⟩) bs/\LRel o h
 ol:s.qs.length=σ.op.length
 il:s.inst.length=s.qs.length
 oB:d.OB.length=σ.op.length
 sB:d.SB.length=σ.op.length
 own:OwnP σ d.OB d.SB d.Q d.M
 xt:XtI σ d.x d.Q d.M d.C s.qs s.inst
 qgood:∀ q∈s.qs,∀ z∈q,zYc z.2.2/\1<=z.2.1/\z.2.1<=65536
 igood:∀ l∈s.inst,∀ z∈l,zYc z.2/\1<=z.1/\z.1<=65536
 line:RowC 2 d.line (d.ll.flatMap txC) d.lb
 lines:s.line=d.ll.map (·.1)
 lin:∀ p∈d.ll,InW d.PB p.2 p.1.2
 wok:MOk isKI d.we d.wc
 pend:∀ t∈s.pend,∃ sl,zQ d.we (Vi t.1)=some (.agg #[Vi t.1,Vs sl])/\InW d.PB sl t.2
 gone:RowC 1 d.gone (s.gone.map Vi) d.gb
def CS.view (c:CS):Int×Bool×Int×Bool×Int:=(c.m.call.Kind,c.m.begun,c.m.mark,c.ended,c.least)
def QE.of (i:Nat):QE->Bool
 | .ins _ _ _=>false
 | .rq _ c _=>c==i
def cntQ (i:Nat) (Q:List (List QE)):Nat:=(Q.map λq=>q.countP (QE.of i)).sum
def Few (M:SM) (n:Int):Prop:=∀ k,((M k).countP λv=>decide (v.Number<=n))<=1
structure CoI (mark:Nat) (Q:List (List QE)) (Ms:List SM) (i:Nat) (c:CS):Prop where
 out:c.m.reps.length+cntQ i Q=c.m.out
 nb:c.m.begun=false->c.m.rest=[]/\c.m.out=0
 le:c.m.begun=true->c.m.call.Kind=3->c.least<=(mark:Int)
 rst:c.m.call.Kind=3->∀ e∈c.m.rest,e.2.kind=4/\e.2.num=c.least
 rqs:c.m.call.Kind=3->∀ q∈Q,∀ s x,QE.rq s i x∈q->x.kind=4/\x.num=c.least
 few:c.m.begun=true->c.m.call.Kind=3->∀(k:Nat) q M,Q[k]? =some q->Ms[k]? =some M->(∃ e∈c.m.rest,e.1=(k:Int))\/(∃ e∈q,e.of i=true)\/Few M c.least
structure CI (mark:Nat) (Q:List (List QE)) (Ms:List SM) (C:List CS) (inst:List (List IW)) (p:Nat):Prop where
 il:∀ l∈inst,l.length<=p
 ip:p<=1000
 co:∀(i:Nat) c,C[i]? =some c->CoI mark Q Ms i c
structure Nx (log:List Tx) (fed:Nat) (d:RD) (s:TS) (d':RD) (s':TS):Prop where
 vw:d'.C.map CS.view=d.C.map CS.view
 dead:d'.x.dead=d.x.dead
 p:d'.p<=d.p+1
 ph:phi log fed s'+1=phi log fed s\/(s'=s/\d.C≠[])
theorem RD.fxm {σ:RS} {d:RD} {fr:List zb} {c:zb} (h:c∈σ.fx):c∈d.cs σ++fr:=by unfold RD.cs; simp [h]
theorem RD.pbm {σ:RS} {d:RD} {fr:List zb} {c:zb} (h:c∈d.PB):c∈d.cs σ++fr:=by unfold RD.cs; simp [h]
abbrev shN (c:Cfg) (k:ByteArray):Nat:=(zkb c k).1.toNat
def canD (σ:RS) (fed:Nat) (s:TS):Int:=match s.held with
 | none=>if s.at_<fed then 1 else 0
 | some t=>if t.1 - (σ.cfg.Window.toNat:Int)<=(s.g.mark:Int) then 3 else 0
def z2h (σ:RS) (d:RD) (k:ByteArray):Bool:=match d.Q[shN σ.cfg k]? with
 | some q=>decide (q.length<σ.cfg.Queue.toNat)
 | none=>false
def canW (σ:RS) (d:RD) (s:TS) (i:Nat):Int:=match s.lanes[i]? with
 | some (some j)=>match j.left with
  | x::_=>if z2h σ d x.Key then 5 else 0
  | []=>if j.out=0 then 6 else 0
 | _=>if s.line.length>0 then 4 else 0
def canO (d:RD) (i:Nat):Int:=match d.Q[i]? with
 | some (_::_)=>7
 | _=>0
def canG (s:TS):Int:=if s.gone.length>0 then 8 else 0
section
variable {W:World} {m0:List (Nat×Obj)} {w:World} {fr:List zb} {σ:RS} {d:RD} {log:List Tx} {fed:Nat} {s:TS}
theorem St.pR {w0:Base} {w:World} {l l':List zb} (h:St w0 l w)(p:∀ f:zb->Nat,(l.map f).sum=(l'.map f).sum:=by intro f_; simp [RD.cs,RD.mp] <;> omega):St w0 l' w:=h.perm (za p)
theorem s_k {R:Int->WP} (I:RepI σ d log fed s) (st:St ⟨W,d.mp σ++m0⟩ (d.cs σ++fr) w) (k:∀ w',Ext w w'->R (s.g.mark:Int) w'):C_o ⟨some ⟨σ.rb,0,none⟩⟩ w R:=by
 apply S_Gb;unfold F_Ue;intro b w1 hb hw;have e1:=Ext.new hw;have st1:=st.alloc hb hw;refine⟨_,st1.cell 0 rfl rfl,rfl,σ.gt,st1.cell 1 rfl rfl,?_⟩;have st2:St ⟨W,d.mp σ++m0⟩ (d.gcs++((σ.rb,repV σ d.x d.line d.gone)::(d.fcs++(d.dcs++(fl d.LB++(fl d.OB++(d.lb++(d.gb++(d.PB++(d.x.yb++(σ.fx++fr))))))))))) w1:=(st.keep e1).pR;exact s_q st2 I.gate (k w1 e1)
theorem fvm {q:Nat×Obj} (h:q∈σ.fv.mp):q∈(⟨W,d.mp σ++m0⟩:Base).mp:=by
 show q∈d.mp σ++m0;unfold RD.mp; simp [h]
theorem s_Rb {b:Nat} {R:Int->WP} (I:RepI σ d log fed s) (st:St ⟨W,d.mp σ++m0⟩ (d.cs σ++fr) w) (hb:(b,[aP σ.rb])∈σ.fx) (k:∀ w',St ⟨W,d.mp σ++m0⟩ (d.cs σ++fr) w'->R (canD σ fed s) w'):C_P (Z0 b) w R:=by
 apply S_N;unfold F_Dd;intro w1 e1;have st:=st.drew e1;have cb:∀ {w':World},St ⟨W,d.mp σ++m0⟩ (d.cs σ++fr) w'->w'.cell? ⟨b,0,none⟩=some (aP σ.rb):=λst=>(st.blk _ (RD.fxm hb)).cell rfl;refine⟨rfl,_,cb st,rfl,σ.f,st.cell 0 rfl rfl,rfl,⟨_⟩,⟨cb st,trivial⟩,s_k I st λw2 e2=> ?_⟩;have st:=st.keep e2;refine⟨st.cell 0 rfl rfl,cb st,?_⟩;have st2:St ⟨W,d.mp σ++m0⟩ (d.fcs++((σ.rb,repV σ d.x d.line d.gone)::(d.gcs++(d.dcs++(fl d.LB++(fl d.OB++(d.lb++(d.gb++(d.PB++(d.x.yb++(σ.fx++fr))))))))))) w2:=st.pR;refine s_7c (λq hq=>fvm hq) I.feed st2 λw3 st=> ?_
 have e:canM (some ⟨log,0,s.at_,fed,σ.cfg.Window.toNat,[],s.held,false⟩) (s.g.mark:Int)=canD σ fed s:=by
  unfold canM canD zzg;cases s.held with
  | none=>rfl
  | some t=>simp
 rw [e];exact k w3 (st.pR)
theorem s_F {i:Nat} {q:List QE} {R:Bool->WP} (I:RepI σ d log fed s) (st:St ⟨W,d.mp σ++m0⟩ (d.cs σ++fr) w) (hq:d.Q[i]? =some q) (k:∀ w',St ⟨W,d.mp σ++m0⟩ (d.cs σ++fr) w'->R (decide (q.length<σ.cfg.Queue.toNat)) w'):C_ib ⟨some ⟨σ.rb,0,none⟩⟩ (i:Int) w R:=by
 apply S_Fb;unfold F_Pe;intro b w1 hb hw;have e1:=Ext.new hw;have st1:=st.alloc hb hw;have st:=st.keep e1;obtain⟨ob,hor,hof⟩:=I.ok.orow;have hil:=(gSo hq).1;obtain⟨l,hl⟩:∃ l,d.M[i]? =some l:=⟨_,aA (by have:=I.xt.ql; have:=I.xt.ml; omega)⟩
 obtain⟨p,bs,sm,hp,hbs,hsm,oo⟩:=I.own i q l hq hl;obtain⟨a1,a2,a3⟩:=(hor.srcM (λc hc=>RD.fxm (hof c hc)) st).at1 (i:=i) (v:=pP p) (by rw [aF,hp]; rfl);refine⟨_,st1.cell 0 rfl rfl,rfl,σ.osl,st1.cell 1 rfl rfl,a1,O_,O_,p,by rw [tN]; exact a3,?_⟩;have st2:St ⟨W,sm++(σ.fv.mp++(d.dm++((σ.wm,.map d.we d.wc)::(fl (d.SB.eraseIdx i)++m0))))⟩ (d.cs σ++fr) w1:=st.mperm (za λf_=>by have h1_:=zM f_ hsm; simp [RD.cs,RD.mp] <;> omega);have st3:St _ (bs++((σ.rb,repV σ d.x d.line d.gone)::(d.fcs++(d.dcs++(d.gcs++(fl d.LB++(fl (d.OB.eraseIdx i)++(d.lb++(d.gb++(d.PB++(d.x.yb++(σ.fx++fr)))))))))))) w1:=st2.perm (za λf_=>by have h1_:=zM f_ hbs; simp [RD.cs,RD.mp] <;> omega);refine s_Hb oo st3 λw2 st=> ?_;have st:St _ (d.cs σ++fr) w2:=st.perm (List.Perm.symm (za λf_=>by have h1_:=zM f_ hbs; simp [RD.cs,RD.mp] <;> omega))
 have hd:decide ((σ.cfg.Queue.toNat:Int) - ((q.map QE.req).length:Int)>0)=decide (q.length<σ.cfg.Queue.toNat):=by
  rw [lM,decide_eq_decide];omega
 rw [hd];exact k w2 (st.mperm (List.Perm.symm (za λf_=>by have h1_:=zM f_ hsm; simp [RD.cs,RD.mp] <;> omega)))
theorem s_Sb {b i:Nat} {p:OA} {R:Int->WP} (I:RepI σ d log fed s) (st:St ⟨W,d.mp σ++m0⟩ (d.cs σ++fr) w) (hb:(b,[aP σ.rb,pP p,Vi (i:Int)])∈σ.fx) (hp:σ.op[i]? =some p) (k:∀ w',St ⟨W,d.mp σ++m0⟩ (d.cs σ++fr) w'->R (canO d i) w'):C_7 (Z0 b) w R:=by
 apply S_sb;unfold F_Ge;have hil:=(gSo hp).1;obtain⟨q,hq⟩:∃ q,d.Q[i]? =some q:=⟨_,aA (by have:=I.xt.ql; omega)⟩
 obtain⟨l,hl⟩:∃ l,d.M[i]? =some l:=⟨_,aA (by have:=I.xt.ml; omega)⟩
 obtain⟨p',bs,sm,hp',hbs,hsm,oo⟩:=I.own i q l hq hl;obtain rfl:=aE (hp.symm.trans hp');refine⟨rfl,p,(st.blk _ (RD.fxm hb)).cell rfl,?_⟩;have st2:St ⟨W,sm++(σ.fv.mp++(d.dm++((σ.wm,.map d.we d.wc)::(fl (d.SB.eraseIdx i)++m0))))⟩ (d.cs σ++fr) w:=st.mperm (za λf_=>by have h1_:=zM f_ hsm; simp [RD.cs,RD.mp] <;> omega);have st3:St _ (bs++((σ.rb,repV σ d.x d.line d.gone)::(d.fcs++(d.dcs++(d.gcs++(fl d.LB++(fl (d.OB.eraseIdx i)++(d.lb++(d.gb++(d.PB++(d.x.yb++(σ.fx++fr)))))))))))) w:=st2.perm (za λf_=>by have h1_:=zM f_ hbs; simp [RD.cs,RD.mp] <;> omega);have k:=k w st;unfold canO at k;rw [hq] at k;refine s_4b oo st3 ⟨λh=> ?_,λh=> ?_⟩
 ·have h:=dT h;cases q with
  | nil=>exact absurd h D_
  | cons z q=>exact k
 ·have h:=dF h;cases q with
  | nil=>exact k
  | cons z q=>exact absurd (show(((z::q).map QE.req).length:Int)>0 by rw [lM,aV]; omega) h
theorem s_Tb {b:Nat} {R:Int->WP} (I:RepI σ d log fed s) (st:St ⟨W,d.mp σ++m0⟩ (d.cs σ++fr) w) (hb:(b,[aP σ.rb])∈σ.fx) (k:∀ w',St ⟨W,d.mp σ++m0⟩ (d.cs σ++fr) w'->R (canG s) w'):C_ab (Z0 b) w R:=by
 apply S_tb;unfold F_Le;have hl:=I.gone.len;rw [lM,aW] at hl;have k:=k w st;unfold canG at k;refine⟨rfl,_,(st.blk _ (RD.fxm hb)).cell rfl,rfl,d.gone,st.cell 0 rfl rfl,λh=> ?_,λh=> ?_⟩
 ·have h:=dT h;rw [if_pos O_] at k; exact k
 ·have h:=dF h;rw [if_neg O_] at k; exact k
theorem zbf {c:Cfg} {x:Wr} (hc:zV c=0) (hx:zYc x):0<=(zkb c x.Key).1/\(zkb c x.Key).1<c.Shards:=by
 have hck:=z7 hc;obtain⟨x1,x2,_⟩:=hx;unfold zkb;rw [if_neg (by simpa using hc),if_neg O_];have h1:=z9h x.Key.data.toList 2166136261 O_;have hs:=hck.2.1;exact⟨Int.tmod_nonneg _ h1.1,eR _ O_⟩
theorem zXe (I:RepI σ d log fed s):d.line.len=s.line.length:=by
 have:=I.line.len;rw [zc zaf] at this;rw [I.lines,lM]; omega
theorem s_Ub {b i:Nat} {p:OA} {R:Int->WP} (I:RepI σ d log fed s) (st:St ⟨W,d.mp σ++m0⟩ (d.cs σ++fr) w) (hb:(b,[aP σ.rb,pP p])∈σ.fx) (hp:σ.lp[i]? =some p) (k:∀ w',St ⟨W,d.mp σ++m0⟩ (d.cs σ++fr) w'->R (canW σ d s i) w'):C_6 (Z0 b) w R:=by
 apply S_rb;unfold F_Fe;have hil:=(gSo hp).1;obtain⟨o,ho⟩:∃ o,s.lanes[i]? =some o:=⟨_,aA (by have:=I.ll; omega)⟩
 obtain⟨p',bs,h,hp',hbs,lo,lr⟩:=I.lane i o ho;obtain rfl:=aE (hp.symm.trans hp');have cb:∀ {w':World} {L:List zb} {v:Value} {o:Nat},St ⟨W,d.mp σ++m0⟩ (L++(d.cs σ++fr)) w'->[aP σ.rb,pP p][o]? =some v->w'.cell? ⟨b,o,none⟩=some v:=λst hv=>(st.blk _ (aH _ (RD.fxm hb))).cell hv;have lf:∀ {w':World} {L:List zb},St ⟨W,d.mp σ++m0⟩ (L++(d.cs σ++fr)) w'->St ⟨W,d.mp σ++m0⟩ (bs++(L++((σ.rb,repV σ d.x d.line d.gone)::(d.fcs++(d.dcs++(d.gcs++(fl (d.LB.eraseIdx i)++(fl d.OB++(d.lb++(d.gb++(d.PB++(d.x.yb++(σ.fx++fr))))))))))))) w':=λst=>st.perm (za λf_=>by have h1_:=zM f_ hbs; simp [RD.cs,RD.mp] <;> omega);have lb:∀ {w':World} {L:List zb},St ⟨W,d.mp σ++m0⟩ (bs++(L++((σ.rb,repV σ d.x d.line d.gone)::(d.fcs++(d.dcs++(d.gcs++(fl (d.LB.eraseIdx i)++(fl d.OB++(d.lb++(d.gb++(d.PB++(d.x.yb++(σ.fx++fr))))))))))))) w'->St ⟨W,d.mp σ++m0⟩ (L++(d.cs σ++fr)) w':=λst=>st.perm (List.Perm.symm (za λf_=>by have h1_:=zM f_ hbs; simp [RD.cs,RD.mp] <;> omega));refine⟨rfl,p,cb (L:=[]) st rfl,s_j lo (lf (L:=[]) st) ?_⟩;cases h with
 | none =>
  have hno:o=none:=by
   cases o with
   | none=>rfl
   | some j=>cases lr
  subst hno;have k:=k w st;unfold canW at k;rw [ho] at k;have hl:=zXe I;refine⟨λ_=>⟨rfl,_,cb (L:=[]) st rfl,rfl,d.line,st.cell 0 rfl rfl,λh=> ?_,λh=> ?_⟩,N_⟩
  ·have h:=dT h;rw [if_pos O_] at k; exact k
  ·have h:=dF h;rw [if_neg O_] at k; exact k
 | some h =>
  cases o with
  | none=>cases lr
  | some j =>
  obtain⟨j1,j2,j3,jg,jn,ok⟩:=lr;have hn:=ok.n
  have hne:(z7l (some ⟨(i:Int)+1,σ.cfg,some h⟩)==0)=false:=by
   show(h.n==0)=false;simp; omega
  refine⟨λhh=>(by rw [hne] at hh; cases hh),λ_=>⟨rfl,p,cb (L:=[]) st rfl,s_L lo (lf (L:=[]) st) λw1 st=> ?_⟩⟩;have st:St ⟨W,d.mp σ++m0⟩ ([]++(d.cs σ++fr)) w1:=lb st;intro b1 w2 hb1 hw2;have st:St ⟨W,d.mp σ++m0⟩ ([(b1,reqV zeroReq)]++(d.cs σ++fr)) w2:=st.alloc (cs:=reqV zeroReq) hb1 hw2;refine⟨st.writable 0,λw3 hw3=> ?_⟩;have st:St ⟨W,d.mp σ++m0⟩ ([(b1,reqV (zEc (some ⟨(i:Int)+1,σ.cfg,some h⟩)).2.1)]++(d.cs σ++fr)) w3:=st.put0 hw3
  have k0:∀ w',St ⟨W,d.mp σ++m0⟩ ([(b1,reqV (zEc (some ⟨(i:Int)+1,σ.cfg,some h⟩)).2.1)]++(d.cs σ++fr)) w'->(j.left=[]\/∃ x r,j.left=x::r/\z2h σ d x.Key=false)->F_Q (Z0 b) R false w':=λw' st hj=>by
   unfold F_Q;refine⟨N_,λ_=>⟨rfl,p,cb st rfl,s_C lo (lf st) ?_⟩⟩;have k:=k w' st.drop;unfold canW at k;rw [ho] at k;simp only at k;show(decide (h.acked=h.ws.length)=true->R 6 w')/\(decide (h.acked=h.ws.length)=false->R 0 w')
   have oks:=ok.s;have oka:=ok.a;rcases hj with hj | ⟨x,r,hj,hr⟩
   ·rw [hj] at k
    have hs:h.sent=h.ws.length:=by
     rw [hj] at j2;have:=congrArg List.length j2;rw [eC,bJ] at this;omega
    refine⟨λh1=> ?_,λh1=> ?_⟩
    ·have h1:=dT h1;rw [if_pos O_] at k; exact k
    ·have h1:=dF h1;rw [if_neg O_] at k; exact k
   ·rw [hj] at k;simp only at k;rw [hr] at k
    have hs:h.sent<h.ws.length:=by
     rw [hj] at j2;have:=congrArg List.length j2;rw [aV,bJ] at this;omega
    exact⟨λh1=>(by have h1:=dT h1; omega),λ_=>k⟩
  cases hl:j.left with
  | nil =>
   have hx:h.ws[h.sent]? =none:=by
    rw [hl] at j2;rw [List.getElem?_eq_none_iff];exact List.drop_eq_nil_iff.1 j2.symm
   have hm:(zEc (some ⟨(i:Int)+1,σ.cfg,some h⟩)).2.2=false:=by unfold zEc; simp only [hx]
   rw [hm];exact⟨N_,λ_=>k0 _ st (.inl hl)⟩
  | cons x r =>
   have hx:h.ws[h.sent]? =some x:=by
    rw [hl] at j2;have:=congrArg (λl=>l[0]?) j2;simp only [cA,dK,eE] at this;exact this.symm
   have hm:(zEc (some ⟨(i:Int)+1,σ.cfg,some h⟩)).2.2=true/\(zEc (some ⟨(i:Int)+1,σ.cfg,some h⟩)).1=(zkb σ.cfg x.Key).1:=by unfold zEc; simp only [hx]; exact⟨trivial,trivial⟩
   rw [hm.1,hm.2];have hgx:=jg x (mG hx);obtain⟨r1,r2⟩:=zbf I.ok.cfg hgx;have hon:=I.ok.on;have hol:=I.ol;obtain⟨q,hq⟩:∃ q,d.Q[shN σ.cfg x.Key]? =some q:=⟨_,aA (by have:=I.xt.ql; unfold shN; omega)⟩
   have hrk:z2h σ d x.Key=decide (q.length<σ.cfg.Queue.toNat):=by unfold z2h; rw [hq]
   have hcast:(zkb σ.cfg x.Key).1=((shN σ.cfg x.Key:Nat):Int):=by unfold shN; omega
   rw [hcast];have st':St ⟨W,d.mp σ++m0⟩ (d.cs σ++([(b1,reqV (zEc (some ⟨(i:Int)+1,σ.cfg,some h⟩)).2.1)]++fr)) w3:=st.pR;refine⟨λ_=>⟨rfl,⟨_⟩,⟨cb st rfl,trivial⟩,s_F I st' hq λw4 st=> ?_⟩,N_⟩;have st:St ⟨W,d.mp σ++m0⟩ ([(b1,reqV (zEc (some ⟨(i:Int)+1,σ.cfg,some h⟩)).2.1)]++(d.cs σ++fr)) w4:=st.pR;cases hr:decide (q.length<σ.cfg.Queue.toNat) with
   | false=>exact k0 w4 st (.inr ⟨x,r,hl,hrk.trans hr⟩)
   | true =>
    have k:=k w4 st.drop;unfold canW at k;rw [ho] at k;simp only [hl,hrk.trans hr,if_true] at k;unfold F_Q;exact⟨λ_=>k,N_⟩
end
end Go.Proofs.YtofjmclceflgiaaGreat
