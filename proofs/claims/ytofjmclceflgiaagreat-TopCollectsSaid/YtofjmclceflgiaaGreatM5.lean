/-
  A part of the proof of TopCollects.
  Conditions: none.
-/
import Derived.Test.YtofjmclceflgiaaGreatM4
import Derived.Test.YtofjmclceflgiaaGreatG1
import Derived.Test.YtofjmclceflgiaaGreatG2
import Derived.Test.YtofjmclceflgiaaGreatG3
namespace Go.Proofs.YtofjmclceflgiaaGreat
open Go
open Go.IntKind (i64 u64 u32 u8)
set_option linter.unusedVariables false
set_option linter.unusedSimpArgs false
set_option maxHeartbeats 4000000
def MM (σ:RS) (d:RD) (k:ByteArray):List Ver:=match d.M[shN σ.cfg k]? with
 | some M=>M k
 | none=>[]
section
variable {W:World} {m0:List (Nat×Obj)} {w:World} {fr:List zb} {σ:RS} {d:RD} {log:List Tx} {fed:Nat} {s:TS}
theorem z4e (I:RepI σ d log fed s) {i:Nat} {M:SM} (hM:d.M[i]? =some M):∃ l,s.inst[i]? =some l:=⟨_,aA (by have:=(gSo hM).1; have:=I.il; have:=I.ol; have:=I.xt.ml; omega)⟩
theorem z7k (I:RepI σ d log fed s) (h:TInv log fed σ.cfg.Queue.toNat (shN σ.cfg) s) {i:Nat} {M:SM} (hM:d.M[i]? =some M) {k:ByteArray}:(M k≠[]->shN σ.cfg k=i)/\(shN σ.cfg k=i->MM σ d k=M k):=by
 refine⟨λhne=> ?_,λe=> ?_⟩
 ·obtain⟨l,hl⟩:=z4e I hM;obtain⟨y,hy⟩:=cW _ hne;obtain⟨z,hz,rfl,_⟩:=(z9b l).1 ((I.xt.sto i M l hM hl k).2 y hy);exact h.ish i l hl z hz
 ·unfold MM;rw [e,hM]
theorem s_9c {R:Int->WP} (S:SO W m0 fr σ log fed d s w) (k:R (s.g.mark:Int) w):C_ub (some ⟨σ.rb,0,none⟩) w R:=by
 apply S_5;unfold F_Vd;refine s_i S.st ⟨N_,λ_=>⟨rfl,σ.gt,crb (A:=[]) S.st rfl,?_⟩⟩;have stg:St ⟨W,d.mp σ++m0⟩ (d.gcs++(({d with gcs:=[]}:RD).cs σ++fr)) w:=S.st.pR;exact s_q stg S.I.gate k
theorem s_Q {R:Slc->WP} (S:SO W m0 fr σ log fed d s w)
    (k:∀ sl (hs:List Hs) ob vx w',RowC 2 sl (hs.flatMap hdC) ob->hs.length<=16000->(hs.map (·.1)).Pairwise ltK->(∀ k,k∈hs.map (·.1)↔MM σ d k≠[])->(∀ z∈hs,InC vx z.2 (MM σ d z.1))->St ⟨W,d.mp σ++m0⟩ (ob++(vx++(d.cs σ++fr))) w'->R sl w'):C_H (some ⟨σ.rb,0,none⟩) w R:=by
 obtain⟨I,h,st,L,hb2,ci⟩:=S;apply S_G;unfold F_bd;refine s_i st ⟨λ_=>⟨rfl,σ.osl,crb (A:=[]) st rfl,?_⟩,N_⟩;obtain⟨rb,hor,hof⟩:=I.ok.orow;have hol:=hor.len;rw [lM,aW] at hol;have hon:σ.op.length<=16:=by have:=I.ok.on; have:=(z7 I.ok.cfg).2.1; omega
 have hmm:∀ k,MM σ d k≠[]->shN σ.cfg k<σ.op.length:=λk hk=>by
  unfold MM at hk;cases hi:d.M[shN σ.cfg k]? with
  | none=>rw [hi] at hk; exact absurd rfl hk
  | some l=>have:=(gSo hi).1; have:=I.xt.ml; omega
 refine⟨λout i w'=>∃(p:Nat) (hs:List Hs) (ob vx:List zb),i=(p:Int)/\p<=σ.op.length/\hs.length<=p*1000/\RowC 2 out (hs.flatMap hdC) ob/\(hs.map (·.1)).Nodup/\(∀ k,k∈hs.map (·.1)↔(shN σ.cfg k<p/\MM σ d k≠[]))/\(∀ z∈hs,InC vx z.2 (MM σ d z.1))/\St ⟨W,d.mp σ++m0⟩ (ob++(vx++(d.cs σ++fr))) w',λ_ i _=>σ.op.length - i.toNat,
  ⟨0,[],[],[],rfl,O_,by simp,RowC.nil,cX,λk=>by simp,λz hz=>(by cases hz),st⟩,?_⟩
 clear st;rintro out i w1 ⟨p,hs,ob,vx,rfl,hp,hlen,ro,hnd,hmem,hin,st⟩;have hrl:=ro.len;rw [zc zYb] at hrl;unfold F_Qc;refine⟨λhi=> ?_,λhi=> ?_⟩
 ·have hi:=dT hi;have wp:i64.wrap ((p:Int)+1)=((p+1:Nat):Int):=W_;obtain⟨q,hq⟩:∃ q,d.Q[p]? =some q:=⟨_,aA (by have:=I.xt.ql; omega)⟩
  obtain⟨M,hM⟩:∃ M,d.M[p]? =some M:=⟨_,aA (by have:=I.xt.ml; omega)⟩
  obtain⟨l,hl⟩:=z4e I hM;have hsto:=I.xt.sto p M l hM hl;obtain⟨po,obs,sm,hpo,hobs,hsm,oo⟩:=I.own p q M hq hM;obtain⟨a1,a2,a3⟩:=(hor.srcM (λc hc=>aH _ (aH _ (RD.fxm (hof c hc)))) st).at1 (i:=p) (v:=pP po) (by rw [aF,hpo]; rfl);have hll:l.length<=1000:=cH (ci.il l (mG hl)) ci.ip;have hga:=I.igood l (mG hl);have stm:St ⟨W,sm++(({d with SB:=d.SB.eraseIdx p}:RD).mp σ++m0)⟩ (ob++(vx++(d.cs σ++fr))) w1:=st.mperm (za λf_=>by have h1_:=zM f_ hsm; simp [RD.cs,RD.mp] <;> omega);have sto:St _ (obs++(ob++(vx++(({d with OB:=d.OB.eraseIdx p}:RD).cs σ++fr)))) w1:=stm.perm (za λf_=>by have h1_:=zM f_ hobs; simp [RD.cs,RD.mp] <;> omega);refine⟨a1,O_,hi,po,by rw [tN]; exact a3,s_6b (K:=l.map (·.2.Key)) oo sto (λk hk=> ?_) (by rw [lM]; omega) (λk=>by have:=hsto.len k; omega) λsl zs ob2 vx2 w2 ro2' hl2' hk2' hm2' hi2' st=> ?_⟩
  ·obtain⟨y,hy⟩:=cW _ hk;obtain⟨z,hz,rfl,_⟩:=(z9b l).1 ((hsto k).2 y hy);exact⟨aQ.2 ⟨z,hz,rfl⟩,(hga z hz).1.2.1⟩
  obtain⟨hs2,hhs⟩:∃ hs2:List Hs,hs2=zs.map λz=>(z.1,z.2.1):=⟨_,rfl⟩
  have ro2:RowC 2 sl (hs2.flatMap hdC) ob2:=by rw [hhs,gW]; exact ro2'
  have hl2:hs2.length<=1000:=by rw [lM] at hl2'; rw [hhs,lM]; omega
  have hmk:hs2.map (·.1)=zs.map (·.1):=by rw [hhs,dR]; rfl
  have hk2:(hs2.map (·.1)).Pairwise ltK:=by rw [hmk]; exact hk2'
  have hm2:∀ k,k∈hs2.map (·.1)↔M k≠[]:=λk=>by rw [hmk]; exact hm2' k
  have hi2:∀ z∈hs2,InC vx2 z.2 (M z.1):=λz hz=>by
   rw [hhs] at hz;obtain⟨z0,hz0,rfl⟩:=aQ.1 hz;exact hi2' z0 hz0
  have hr2:=ro2.len;rw [zc zYb] at hr2;have st:St ⟨W,d.mp σ++m0⟩ (ob++((ob2++(vx2++vx))++(d.cs σ++fr))) w2:=(st.perm (List.Perm.symm (za λf_=>by have h1_:=zM f_ hobs; simp [RD.cs,RD.mp] <;> omega))).mperm (List.Perm.symm (za λf_=>by have h1_:=zM f_ hsm; simp [RD.cs,RD.mp] <;> omega));refine⟨hs2.flatMap hdC,ro2.srcM (λc hc=>by simp [hc]) st,?_⟩
  have hone:zv (hs2.flatMap hdC)=true:=by
   have:∀ l:List Hs,zv (l.flatMap hdC)=true:=λl=>by
    induction l with
    | nil=>rfl
    | cons x l ih=>rw [aY]; show zv (Vt x.1::Vs x.2::l.flatMap hdC)=true; unfold zv at ih ⊢; rw [fM,fM,ih]; rfl
   exact this hs2
  refine ro.append st (by rw [zc zYb]; omega) hone rfl O_ λout' ob' w3 ro' st hl'=> ?_;rw [wp]
  have hdis:∀ k,k∈hs2.map (·.1)->shN σ.cfg k=p/\MM σ d k=M k:=λk hk=>by
   have h1:=(z7k I h hM).1 ((hm2 k).1 hk);exact⟨h1,(z7k I h hM).2 h1⟩
  refine⟨⟨p+1,hs++hs2,ob',ob2++(vx2++vx),rfl,O_,by rw [aB]; omega,by rw [bE]; exact ro',?_,λk=> ?_,λz hz=> ?_,st⟩,by show σ.op.length - ((p+1:Nat):Int).toNat<σ.op.length - (p:Int).toNat; omega⟩
  ·rw [aR];refine cJ.2 ⟨hnd,fT (λ{a b} (hab:ltK a b) (e:a=b)=>zwg b (e ▸ hab)) hk2,λa ha b hb e=> ?_⟩;have h1:=((hmem a).1 ha).1;have h2:=(hdis b hb).1;rw [e] at h1;omega
  ·rw [aR,aG,hmem,hm2];constructor
   ·rintro(⟨a,b⟩ | hk)
    ·exact⟨O_,b⟩
    ·obtain⟨e1,e2⟩:=hdis k ((hm2 k).2 hk);exact⟨O_,by rw [e2]; exact hk⟩
   ·rintro⟨a,b⟩;by_cases hkp:shN σ.cfg k=p
    ·right;rw [<-(z7k I h hM).2 hkp]; exact b
    ·exact .inl ⟨O_,b⟩
  ·rcases aG.1 hz with hz | hz
   ·exact(hin z hz).mono λq hq=>by simp [hq]
   ·rw [(hdis z.1 (aQ.2 ⟨z,hz,rfl⟩)).2];exact(hi2 z hz).mono λq hq=>by simp [hq]
 ·have hi:=dF hi;obtain rfl:p=σ.op.length:=O_;unfold F_db;refine s_hd ro st O_ λhs' ob' w2 hpm hso ro' st=>k out hs' ob' vx w2 ro' (by rw [hpm.length_eq]; omega) ?_ (λk=> ?_) (λz hz=>hin z (hpm.mem_iff.1 hz)) st
  ·have hnd':=(hpm.map (·.1)).nodup_iff.2 hnd;refine cN.2 ((hso.and (cN.1 hnd')).imp λ{a b} hab=> ?_);refine bX λhlt=>hab.2 ?_;exact z5j (List.le_antisymm (gH.1 hab.1) (gH.1 hlt))
  ·rw [(hpm.map (·.1)).mem_iff,hmem];exact⟨λhh=>hh.2,λhh=>⟨hmm k hh,hh⟩⟩
end
abbrev En:=T_e
def enC (e:En):List Value:=[Vt e.Key,Vt e.Val]
theorem zim (e:En):(enC e).length=2:=rfl
def zXf (k:ByteArray) (vs:List Ver):Option En:=match vs.getLast? with
 | some v=>if v.Drop=true then none else some ⟨k,v.Val⟩
 | none=>none
section
variable {W:World} {m0:List (Nat×Obj)} {w:World} {fr:List zb} {σ:RS} {d:RD} {log:List Tx} {fed:Nat} {s:TS}
theorem s_ad {R:Slc->WP} (S:SO W m0 fr σ log fed d s w) (hmk:∀ k,∀ v∈MM σ d k,v.Number<=(s.g.mark:Int)) (hml:∀ k,(MM σ d k).length<=1099511627776)
    (k:∀ sl (ks:List ByteArray) ob w',ks.Pairwise ltK->(∀ k,k∈ks↔MM σ d k≠[])->RowC 2 sl ((ks.filterMap λk=>zXf k (MM σ d k)).flatMap enC) ob->ks.length<=16000->SO W m0 (ob++fr) σ log fed d s w'->R sl w'):C_nb (some ⟨σ.rb,0,none⟩) w R:=by
 apply S_T;unfold F_Jd;refine s_9c S (s_Q S λvsl hs ob vx w1 vro hhl hks hkm hin st=> ?_);obtain⟨I,h,_,L,hb2,ci⟩:=S;have hvl:=vro.len;rw [zc zYb] at hvl
 refine⟨λout i w'=>∃(p:Nat) (ob':List zb),i=(p:Int)/\p<=hs.length/\out.len<=p/\RowC 2 out ((((hs.map (·.1)).take p).filterMap λk=>zXf k (MM σ d k)).flatMap enC) ob'/\St ⟨W,d.mp σ++m0⟩ (ob'++(ob++(vx++(d.cs σ++fr)))) w',λ_ i _=>hs.length - i.toNat,
  ⟨0,[],rfl,O_,by show 0<=0; omega,RowC.nil,st⟩,?_⟩
 clear st;rintro out i w2 ⟨p,ob',rfl,hp,hol,ro,st⟩;unfold F_ad;refine⟨λhi=> ?_,λhi=> ?_⟩
 ·have hi:=dT hi;have wp:i64.wrap ((p:Int)+1)=((p+1:Nat):Int):=W_;have src:zj w2 vsl 2 (hs.flatMap hdC):=vro.srcM (λc hc=>by simp [hc]) st;obtain⟨a1,z,hz,hc⟩:=src.getN zYb O_ (i:=(p:Int)) O_ hi;rw [tN] at hz;obtain⟨key,sl⟩:=z;have hzm:=mG hz;have hinz:=hin _ hzm;have hne:MM σ d key≠[]:=(hkm key).1 (aQ.2 ⟨_,hzm,rfl⟩);refine⟨a1,O_,hi,⟨key,sl⟩,hc,λb1 w3 hb1 hw3=> ?_⟩;have st:=st.alloc (cs:=hdC (Be,⟨none,0,0⟩)) hb1 hw3;refine⟨st.writable 0,λw4 hw4=> ?_⟩;have st:St ⟨W,d.mp σ++m0⟩ ((b1,hdC (key,sl))::(ob'++(ob++(vx++(d.cs σ++fr))))) w4:=st.put0 hw4;have vsrc:zj w4 sl 3 ((MM σ d key).flatMap verC):=hinz.src (λq hq=>by simp [hq]) st;have hsl:=zub vsrc;have hvlen:=hml key;refine⟨sl,st.cell 0 rfl rfl,λlast i w'=>∃ q:Nat,i=(q:Int)/\q<=sl.len/\last=(if q=0 then none else some ⟨pblk sl.ptr,poff sl.ptr+(q - 1)*3,none⟩)/\w'=w4,λ_ i _=>sl.len - i.toNat,⟨0,rfl,O_,rfl,rfl⟩,?_⟩;rintro last i _ ⟨q,rfl,hq,rfl,rfl⟩;unfold F_9c;refine⟨λhi2=> ?_,λhi2=> ?_⟩
  ·have hi2:=dT hi2;have wq:i64.wrap ((q:Int)+1)=((q+1:Nat):Int):=W_;obtain⟨a,v,hv,hvc⟩:=zWc vsrc (i:=q) O_;refine⟨sl,st.cell 0 rfl rfl,a,O_,hi2,v.Number,by rw [tN]; exact z3j hvc,λ_=>⟨sl,st.cell 0 rfl rfl,a,O_,hi2,?_⟩,λhh=> ?_⟩
   ·unfold F_Xb;rw [wq];exact⟨⟨q+1,rfl,O_,by rw [if_neg O_,tN,Nat.add_sub_cancel],rfl⟩,by show sl.len - ((q+1:Nat):Int).toNat<sl.len - (q:Int).toNat; omega⟩
   ·have:=dF hh;exact absurd (hmk key v (mG hv)) this
  ·have hi2:=dF hi2;have hqe:q=(MM σ d key).length:=O_;have hpos:(MM σ d key).length≠0:=λe=>hne (aX e);rw [if_neg O_];obtain⟨a,v,hv,hvc⟩:=zWc vsrc (i:=q - 1) O_;have hlast:(MM σ d key).getLast? =some v:=by rw [List.getLast?_eq_getElem?,<-hqe]; exact hv
   have htk:(hs.map (·.1)).take (p+1)=(hs.map (·.1)).take p++[key]:=by rw [bL,aF,hz]; rfl
   refine⟨λ_=>⟨rfl,v.Drop,zy.1 hvc 2 _ rfl,?_⟩,λhh=>(by cases hh)⟩;unfold F_Yb F_Wb;rw [wp];refine⟨λhd=>λw5 e5=> ?_,λhd=> ?_⟩
   ·have hd:v.Drop=false:=by simpa using hd
    have st:=st.drew e5;have vsrc5:zj w5 sl 3 ((MM σ d key).flatMap verC):=hinz.src (λq hq=>by simp [hq]) st;obtain⟨a',v',hv',hvc'⟩:=zWc vsrc5 (i:=q - 1) O_;obtain rfl:v=v':=aE (hv.symm.trans hv');refine⟨key,st.cell 0 rfl rfl,rfl,v.Val,zy.1 hvc' 1 _ rfl,λb2 w6 hb2 hw6=>⟨enC ⟨key,v.Val⟩,zJ hb2 hw6 rfl,?_⟩⟩;refine ro.append (St.drop1 (St.drop1 (st.alloc (cs:=enC ⟨key,v.Val⟩) hb2 hw6))) rfl rfl rfl (by show(out.len+1)*32<=_; omega) λout' ob2 w7 ro' st hl'=> ?_;refine⟨⟨p+1,ob2,rfl,O_,O_,?_,st⟩,by show hs.length - ((p+1:Nat):Int).toNat<hs.length - (p:Int).toNat; omega⟩;rw [htk,fB,bE]
    have e:([key].filterMap λk=>zXf k (MM σ d k)).flatMap enC=enC ⟨key,v.Val⟩:=by
     have:zXf key (MM σ d key)=some ⟨key,v.Val⟩:=by unfold zXf; rw [hlast]; simp [hd]
     simp [this]
    rw [e]; exact ro'
   ·have hd:v.Drop=true:=by simpa using hd
    refine⟨⟨p+1,ob',rfl,O_,O_,?_,st.drop1⟩,by show hs.length - ((p+1:Nat):Int).toNat<hs.length - (p:Int).toNat; omega⟩;rw [htk,fB,bE]
    have e:([key].filterMap λk=>zXf k (MM σ d k)).flatMap enC=[]:=by
     have:zXf key (MM σ d key)=none:=by unfold zXf; rw [hlast]; simp [hd]
     simp [this]
    rw [e,bZ]; exact ro
 ·have hi:=dF hi;obtain rfl:p=hs.length:=O_;rw [bF (by rw [lM]; exact bC _)] at ro;exact k out (hs.map (·.1)) ob' w2 hks hkm ro (by rw [lM]; exact hhl) ⟨I,h,st.wq (ob++vx),L,hb2,ci⟩
end
def wldV (x:T_g):List Value:=[Vi x.Config.Lanes,Vi x.Config.Shards,Vi x.Config.Window,Vi x.Config.Queue,Vs x.Log,Vi x.Capacity,Vi x.Fed,Vs x.Picks]
theorem z8k {ts:List Tx} (h:chkL 1 ts=0):zId ts:=by
 refine⟨λi t ht=> ?_,λt ht=> ?_,zUi h⟩
 ·obtain⟨_,c⟩:=zpc h ht;rw [c]; omega
 ·obtain⟨i,hi⟩:=bG.1 ht;exact(zpc h hi).1
abbrev fedN (fed:Int) (n:Nat):Nat:=if fed<0\/fed>((n:Nat):Int) then 0 else fed.toNat
section
variable {W:World} {m0:List (Nat×Obj)} {w:World} {fr:List zb} {x:T_g} {ts:List Tx} {sls:List Slc}
theorem s_1 {R:OA->OA->WP} (st:St ⟨W,m0⟩ fr w) (ha:∀ mp l' w',St ⟨W,mp⟩ (l'++fr) w'->LAt w' x.Log ts sls) (hl:x.Log.len<=4398046511104)
    (k0:(x.Capacity<0\/x.Capacity>16777216\/chkL 1 ts≠0\/zV x.Config≠0)->∀ w',St ⟨W,m0⟩ fr w'->R none none w')
    (k1:zId ts->∀ σ d top db w',σ.cfg=x.Config->zZh d->SO W m0 fr σ ts (fedN x.Fed ts.length) d (s0 x.Config.Lanes.toNat x.Config.Shards.toNat top) w'->R (some ⟨σ.rb,0,none⟩) db w'):C_3 x w R:=by
 apply S_yb;unfold F_se;intro b_ w1 hb hw;have st:St ⟨W,m0⟩ ((b_,wldV x)::fr) w1:=st.alloc (cs:=wldV x) hb hw;refine⟨x.Capacity,st.cell 0 rfl rfl,s_cc st (λhcap=> ?_) λhcap db w2 st=> ?_⟩
 ·refine⟨x.Log,st.cell 0 rfl rfl,s_fb st (λl w' st=>ha m0 (l++[(b_,wldV x)]) w' (by simpa using st)) hl (λhc w' st=>⟨λ_=>k0 O_ w' st.drop1,λh=>(by simp at h)⟩) λhc b cs w' so st=>⟨λ_=>k0 O_ w' (St.drop (a:=cs) st).drop1,λh=>(by simp at h)⟩⟩
 ·refine⟨x.Log,st.cell 1 rfl rfl,s_fb st (λl w' st=>ha m0 (l++[(db,zRb x.Capacity),(b_,wldV x)]) w' (by simpa using st)) hl (λhc w' st=>⟨λ_=>k0 O_ w' st.drop1.drop1,λh=> ?_⟩) λhc sb scs w3 so st=>⟨λh=>(by simp at h),λ_=> ?_⟩⟩
  ·have:chkL 1 ts=0:=by simpa using h
   exact absurd this hc
  ·have L:=z8k hc;have st:St ⟨W,m0⟩ ((db,zRb x.Capacity)::(scs++((b_,wldV x)::fr))) w3:=st.pq;refine⟨x.Config,(?_:zf w3 b_ 0 _),?_⟩
   ·have kb:=st.blk (b_,wldV x) (by simp);exact⟨kb.cell rfl,kb.cell rfl,kb.cell rfl,kb.cell rfl,trivial⟩
   refine s_kb hcap hc so st (λhcf w' st=>⟨λ_=>k0 (.inr (.inr (.inr hcf))) w' (st.wq ((db,zRb x.Capacity)::(scs++[(b_,wldV x)]))),N_⟩) λhcf σ d top w' e F I st=>⟨N_,λ_=> ?_⟩
   have hbc:w'.cell? ⟨b_,6,none⟩=some (Vi x.Fed):=(st.blk (b_,wldV x) (by simp)).cell rfl;refine⟨x.Fed,hbc,s_gd F I st λe2 d' w4 F' I' st=> ?_⟩
   have hfed:fedN x.Fed ts.length<=ts.length:=by
    unfold fedN;split
    ·exact bU _
    ·omega
   obtain⟨hi,hph⟩:=zqh (fed:=fedN x.Fed ts.length) (cap:=σ.cfg.Queue.toNat) (sh:=shN σ.cfg) L hfed x.Config.Lanes.toNat x.Config.Shards.toNat top;have hpl:=z8l L (fedN x.Fed ts.length);have hll:=L.len
   exact k1 L σ d' top _ w4 e F' ⟨I',hi,st.wq [(b_,wldV x)],L,by rw [hph]; omega,by
    obtain⟨f1,f2,f3⟩:=F';rw [f1,f2];refine⟨λl hl=> ?_,O_,λi c hc=>(by cases hc)⟩;have hl:l∈List.replicate x.Config.Shards.toNat []:=hl;rw [bQ hl]; exact bC _⟩
end
def kA:ByteArray:=ByteArray.mk #[97]
def w1k:Wr:=⟨kA,ByteArray.mk #[49],false⟩
def w2k:Wr:=⟨kA,ByteArray.mk #[50],false⟩
def ts20:List Tx:=[(1,[w1k]),(2,[w2k])]
def cfg20:Cfg:=⟨2,1,2,1⟩
theorem z9q:chkL 1 ts20=0:=D_
theorem z9k:zV cfg20=0:=by unfold zV; rw [if_pos]; unfold zih cfg20; simp
theorem zar (L:zId ts20) (top:Nat):phi ts20 2 (s0 2 1 top)=14:=by
 rw [(zqh (cap:=0) (sh:=λ_=>0) L (show 2<=ts20.length by decide) 2 1 top).2];rfl
abbrev k1V:Ver:=⟨1,ByteArray.mk #[49],false⟩
abbrev k2V:Ver:=⟨2,ByteArray.mk #[50],false⟩
theorem cnt1:z8 [w1k]=[w1k]:=D_
theorem cnt2:z8 [w2k]=[w2k]:=D_
theorem zOj {log:List Tx} {fed:Nat} {s:TS} (hall:∀ f,sm (λl=>sm f l) s.inst=zFg log fed f) (z:IW):(∃ l∈s.inst,z∈l)↔∃ t∈log.take fed,z.1=t.1/\z.2∈z8 t.2:=by
 classical
 have hf:=hall λy=>if y=z then 1 else 0
 have pos:∀ {l:List IW},z∈l->1<=sm (λy=>if y=z then 1 else 0) l:=λ{l} hz=>by
  have:=zCb (f:=λy:IW=>if y=z then 1 else 0) hz;simpa using this
 have inv:∀ {l:List IW},sm (λy=>if y=z then 1 else 0) l≠0->z∈l:=λ{l} h=>by
  obtain⟨y,hy,hne⟩:=zag h;by_cases e:y=z
  ·rw [<-e]; exact hy
  ·exact absurd (if_neg e) hne
 have hp:∀ t:Tx,z∈prs t↔z.1=t.1/\z.2∈z8 t.2:=λt=>by
  unfold prs;rw [aQ];constructor
  ·rintro⟨x,hx,rfl⟩; exact⟨rfl,hx⟩
  ·rintro⟨h1,h2⟩; exact⟨z.2,h2,by rw [<-h1]⟩
 constructor
 ·rintro⟨l,hl,hz⟩;have h1:=zCb (f:=λl:List IW=>sm (λy=>if y=z then 1 else 0) l) hl;have h2:=pos hz;have h3:zFg log fed (λy=>if y=z then 1 else 0)≠0:=O_;obtain⟨t,ht,hne⟩:=zag h3;exact⟨t,ht,(hp t).1 (inv hne)⟩
 ·rintro⟨t,ht,hz⟩;have h1:=zCb (f:=λt:Tx=>sm (λy=>if y=z then 1 else 0) (prs t)) ht;have h2:=pos ((hp t).2 hz)
  have h3:sm (λl=>sm (λy=>if y=z then 1 else 0) l) s.inst≠0:=by
   rw [hf];unfold zFg;omega
  obtain⟨l,hl,hne⟩:=zag h3;exact⟨l,hl,inv hne⟩
theorem vs20 {W:World} {m0:List (Nat×Obj)} {w:World} {fr:List zb} {σ:RS} {d:RD} {s:TS} (S:SO W m0 fr σ ts20 2 d s w) (hC:d.C=[]) (hall:∀ f,sm (λl=>sm f l) s.inst=zFg ts20 2 f) (k:ByteArray):MM σ d k=if k=kA then [k1V,k2V] else []:=by
 have hM:=S.I.xt.non hC
 have hok:zhe (MM σ d k):=by
  unfold MM;cases hi:d.M[shN σ.cfg k]? with
  | none=>exact List.Pairwise.nil
  | some M =>
   obtain⟨l,hl⟩:=z4e S.I hi;exact(zHb.1 (S.I.xt.sto _ M l hi hl k).1).1
 have fwd:∀ y,y∈MM σ d k->k=kA/\(y=k1V\/y=k2V):=λy hy=>by
  unfold MM at hy;cases hi:d.M[shN σ.cfg k]? with
  | none=>rw [hi] at hy; cases hy
  | some M =>
   obtain⟨l,hl⟩:=z4e S.I hi;rw [hi] at hy;obtain⟨z,hz,hk,rfl⟩:=(z9b l).1 ((S.I.xt.sto _ M l hi hl k).2 y hy);obtain⟨t,ht,h1,h2⟩:=(zOj hall z).1 ⟨l,mG hl,hz⟩;obtain⟨z1,z2⟩:=z;have ht:t∈[((1:Int),[w1k]),(2,[w2k])]:=ht;simp only [aU,gB,or_false] at ht;rcases ht with rfl | rfl
   ·have h2:z2∈z8 [w1k]:=h2;rw [cnt1] at h2;obtain rfl:=bK.1 h2;obtain rfl:z1=1:=h1;exact⟨hk.symm,.inl rfl⟩
   ·have h2:z2∈z8 [w2k]:=h2;rw [cnt2] at h2;obtain rfl:=bK.1 h2;obtain rfl:z1=2:=h1;exact⟨hk.symm,.inr rfl⟩
 have bwd:∀ z:IW,z.2.Key=kA->(∃ t∈ts20.take 2,z.1=t.1/\z.2∈z8 t.2)->zGd z∈MM σ d kA:=λz hz hh=>by
  obtain⟨l,hl,hzl⟩:=(zOj hall z).2 hh;obtain⟨i,hi⟩:=bG.1 hl;have hs:=S.h.ish i l hi _ hzl;have hMi:d.M[i]? =some (zch l):=by rw [hM,aF,hi]; rfl
  rw [hz] at hs;rw [(z7k S.I S.h hMi).2 hs];exact(z9b l).2 ⟨z,hzl,hz,rfl⟩
 by_cases hk:k=kA
 ·subst hk;rw [if_pos rfl];refine zie (r:=λa b:Ver=>a.Number<b.Number) (λa=>by omega) (λa b h1 h2=>by omega) hok (List.pairwise_pair.2 (by show(1:Int)<2; omega)) λy=>⟨λhy=>by have:=(fwd y hy).2; simpa using this,λhy=> ?_⟩
  simp only [aU,gB,or_false] at hy;rcases hy with rfl | rfl
  ·exact bwd (1,w1k) rfl ⟨(1,[w1k]),aI ..,rfl,by rw [cnt1]; exact bK.2 rfl⟩
  ·exact bwd (2,w2k) rfl ⟨(2,[w2k]),aJ _ (aI ..),rfl,by rw [cnt2]; exact bK.2 rfl⟩
 ·rw [if_neg hk];refine List.eq_nil_iff_forall_not_mem.2 λy hy=>hk (fwd y hy).1
section
variable {W:World} {w:World}
theorem zPj {fr:List zb} {σ:RS} {d:RD} {s:TS} {n:Nat} {R:Bool->WP} (hR:∀ w',RowKit.Below W.heap.size W w'->R true w')
    (S:SO W [] fr σ ts20 2 d s w) (hC:d.C=[]) (hz:∀ i,i<ntk σ->canK σ 2 d s i=0) (hn:phi ts20 2 s+n=14):F_D R (some ⟨σ.rb,0,none⟩) (n:Int) w:=by
 unfold F_D;have hck:=z7 S.I.ok.cfg;have hlp:1<=s.lanes.length:=by have:=S.I.ok.ln; have:=hck.1; have:=S.I.ll; omega
 have hq1:1<=σ.cfg.Queue.toNat:=by have:=hck.2.2.2; omega
 have hw1:1<=(σ.cfg.Window.toNat:Int):=by have:=hck.2.2.1; omega
 have hsh:∀ k,shN σ.cfg k<s.qs.length:=λk=>by
  have h1:=S.I.ok.on;have h2:=S.I.ol;have h3:=hck.2.1
  have:(zkb σ.cfg k).1<σ.cfg.Shards:=by
   unfold zkb;rw [if_neg (by simpa using S.I.ok.cfg)];split
   ·show(0:Int)<_; omega
   ·exact eR _ O_
  unfold shN;omega
 obtain⟨hp0,hmark,hall⟩:=zmk S.L S.h hw1 hq1 hlp hsh (zjl S.I hC hz);have hn14:n=14:=O_;subst hn14;have hv:=vs20 S hC hall
 have hnum:∀ k,∀ v∈MM σ d k,v.Number<=2:=λk v hm=>by
  rw [hv] at hm;split at hm
  ·simp only [aU,gB,or_false] at hm;rcases hm with rfl | rfl
   ·show(1:Int)<=2; omega
   ·show(2:Int)<=2; omega
  ·cases hm
 refine s_ad S (λk v hv=>by rw [hmark]; exact hnum k v hv) (λk=>by rw [hv]; split <;> simp) λsl ks ob w1 h1 h2 ro hkl S1=> ?_
 have hks:ks=[kA]:=zie (r:=ltK) zwg (λa b=>zql) h1 (List.pairwise_singleton _ _) λk=>by
  rw [h2,hv,bK];by_cases h:k=kA <;> simp [h]
 have he:(ks.filterMap λk=>zXf k (MM σ d k))=[(⟨kA,ByteArray.mk #[50]⟩:En)]:=by
  rw [hks];have:zXf kA (MM σ d kA)=some ⟨kA,ByteArray.mk #[50]⟩:=by rw [hv,if_pos rfl]; rfl
  simp [this]
 rw [he] at ro;have hl:=ro.len
 have hl:sl.len=1:=by
  have hl:2=sl.len*2:=hl;omega
 have src:zj w1 sl 2 ([(⟨kA,ByteArray.mk #[50]⟩:En)].flatMap enC):=ro.srcM (λc hc=>by simp [hc]) S1.st;obtain⟨a,y,hy,hc⟩:=src.getN zim O_ (i:=0) O_ O_;obtain rfl:=aE hy;rw [hl];refine⟨λ_=>⟨a,O_,O_,_,hc,?_⟩,N_⟩;have e:((kA==ByteArray.mk #[97])&&(ByteArray.mk #[50]==ByteArray.mk #[50]))=true:=by rw [ba_eqV,ba_eqV,decide_eq_true (show kA=ByteArray.mk #[97] from rfl),decide_eq_true (show ByteArray.mk #[50]=ByteArray.mk #[50] from rfl)]; rfl
 show R ((kA==ByteArray.mk #[97])&&(ByteArray.mk #[50]==ByteArray.mk #[50])) w1;rw [e];exact hR _ S1.st.below
theorem s_yc {R:Bool->WP} (st:St ⟨W,[]⟩ [] w) (hR:∀ w',RowKit.Below W.heap.size W w'->R true w'):C_x w R:=by
 apply S_zb;unfold F_1c;intro b w1 hb hw1 b1 w2 hb1 hw2;have st:=(st.alloc (cs:=wV w1k) hb hw1).alloc (cs:=txW 0 ⟨none,0,0⟩) hb1 hw2;refine⟨st.writable 0,λw3 hw3 b2 w4 hb2 hw4 b3 w5 hb3 hw5=> ?_⟩;have st:=((st.put0 hw3).alloc (cs:=wV w2k) hb2 hw4).alloc (cs:=txW 0 ⟨none,0,0⟩) hb3 hw5;refine⟨st.writable 0,λw6 hw6=> ?_⟩;have st:St ⟨W,[]⟩ [(b3,txW 2 ⟨some ⟨b2,0,none⟩,1,1⟩),(b2,wV w2k),(b1,txW 1 ⟨some ⟨b,0,none⟩,1,1⟩),(b,wV w1k)] w6:=st.put0 hw6;refine⟨⟨1,⟨some ⟨b,0,none⟩,1,1⟩⟩,(st.get 2 rfl).all,⟨2,⟨some ⟨b2,0,none⟩,1,1⟩⟩,(st.get 0 rfl).all,λb4 w7 hb4 hw7=> ?_⟩;have st:St ⟨W,[]⟩ [(b4,txW 1 ⟨some ⟨b,0,none⟩,1,1⟩++txW 2 ⟨some ⟨b2,0,none⟩,1,1⟩),(b3,txW 2 ⟨some ⟨b2,0,none⟩,1,1⟩),(b2,wV w2k),(b1,txW 1 ⟨some ⟨b,0,none⟩,1,1⟩),(b,wV w1k)] w7:=st.alloc hb4 hw7;generalize hfr:[(b4,txW 1 ⟨some ⟨b,0,none⟩,1,1⟩++txW 2 ⟨some ⟨b2,0,none⟩,1,1⟩),(b3,txW 2 ⟨some ⟨b2,0,none⟩,1,1⟩),(b2,wV w2k),(b1,txW 1 ⟨some ⟨b,0,none⟩,1,1⟩),(b,wV w1k)]=fr at st
 have lat:∀(mp:List (Nat×Obj)) (l':List zb) (w':World),St ⟨W,mp⟩ (l'++fr) w'->LAt w' ⟨some ⟨b4,0,none⟩,2,2⟩ ts20 [⟨some ⟨b,0,none⟩,1,1⟩,⟨some ⟨b2,0,none⟩,1,1⟩]:=λmp l' w' st=>by
  subst hfr;refine⟨rfl,⟨rfl,.inr ⟨rfl,(st.blk (b4,_) (by simp)).all⟩⟩,λi t s ht hs=> ?_,λs hs=> ?_⟩
  ·match i,ht,hs with
   | 0,ht,hs=>obtain rfl:=aE ht; obtain rfl:=aE hs; exact⟨rfl,.inr ⟨rfl,(st.blk (b,wV w1k) (by simp)).all⟩⟩
   | 1,ht,hs=>obtain rfl:=aE ht; obtain rfl:=aE hs; exact⟨rfl,.inr ⟨rfl,(st.blk (b2,wV w2k) (by simp)).all⟩⟩
   | n+2,ht,hs=>simp [ts20] at ht
  ·simp at hs;rcases hs with rfl | rfl <;> exact⟨by show 1<=1; omega,by show 1*40<=_; omega⟩
 refine s_1 (x:=⟨cfg20,⟨some ⟨b4,0,none⟩,2,2⟩,0,2,⟨none,0,0⟩⟩) (ts:=ts20) st lat (by show 2<=_; omega) (λh=> ?_) λL σ d top db w8 e F S=>⟨N_,λ_=> ?_⟩
 ·exfalso;rcases h with h | h | h | h
  ·exact absurd h (by show ¬ (0:Int)<0; omega)
  ·exact absurd h (by show ¬ (0:Int)>16777216; omega)
  ·exact h z9q
  ·exact h z9k
 have S:SO W [] fr σ ts20 2 d (s0 2 1 top) w8:=S;refine⟨λn w'=>∃(p:Nat) (d:RD) (s:TS),n=(p:Int)/\(d.C=[]/\d.x.dead=false/\d.p<=p)/\SO W [] fr σ ts20 2 d s w'/\phi ts20 2 s+p=14,λn _=>50 - n.toNat,⟨0,d,_,rfl,⟨F.1,F.2.2,by rw [F.2.1]; exact bC _⟩,S,zar L top⟩,?_⟩;rintro n w9 ⟨p,d,s,rfl,⟨hC,hdead,hpp⟩,S,hph⟩;unfold F_eb;refine⟨λhi=> ?_,λhi=>(by have:=dF hi; omega)⟩;refine s_tc S O_ (λhd=>by rw [hdead] at hd; cases hd) (λhz ev w4 S=> ?_) (λhne=>absurd hC hne) λev d' s' w4 S tr=> ?_
 ·intro b5 w5 hb5 hw5;have st:=S.st.alloc (cs:=evV ev0) hb5 hw5;refine⟨st.writable 0,λw6 hw6=>⟨λ_=> ?_,N_⟩⟩;exact zPj hR ⟨S.I,S.h,(st.put0 hw6).drop1,S.L,S.b,S.ci⟩ hC hz hph
 ·intro b5 w5 hb5 hw5;have st:=S.st.alloc (cs:=evV ev0) hb5 hw5;refine⟨st.writable 0,λw6 hw6=>⟨N_,λ_=> ?_⟩⟩;have wp:i64.wrap ((p:Int)+1)=((p+1:Nat):Int):=W_;rw [wp];obtain⟨tp,⟨nx,_,_⟩ | ⟨i,c,c',hc,_⟩⟩:=tr
  rotate_left
  ·rw [hC] at hc; cases hc
  have hC':d'.C=[]:=by
   have:=nx.vw;rw [hC] at this;exact List.map_eq_nil_iff.1 this
  have hph':phi ts20 2 s'+1=phi ts20 2 s:=nx.ph.resolve_right λh=>h.2 hC;exact⟨⟨p+1,d',s',rfl,⟨hC',nx.dead.trans hdead,O_⟩,⟨S.I,S.h,(st.put0 hw6).drop1,S.L,S.b,S.ci⟩,O_⟩,by show 50 - ((p+1:Nat):Int).toNat<50 - (p:Int).toNat; omega⟩
end
theorem s_yd {w:World} {l_:Slc} {mark:Int} {hs:List Hs} {R:Bool->WP} (src:zj w l_ 2 (hs.flatMap hdC)) (hl:hs.length<=16000) (hv:∀ z∈hs,∃ vs:List Ver,zj w z.2 3 (vs.flatMap verC)/\vs.countP (λv=>decide (v.Number<=mark))<=1/\vs.length<=1000) (k:R true w):C_Bc l_ mark w R:=by
 apply S_Nc;unfold F_Cf;have hll:=src.1;rw [zc zYb] at hll;refine⟨λi w'=>w'=w/\∃ p:Nat,i=(p:Int)/\p<=hs.length,λi _=>hs.length - i.toNat,⟨rfl,0,rfl,O_⟩,?_⟩;rintro i w1 ⟨rfl,p,rfl,hp⟩;unfold F_Ne;refine⟨λhi=> ?_,λ_=>k⟩;have hi:=dT hi;obtain⟨a1,z,hz,hc⟩:=src.getN zYb O_ (i:=(p:Int)) O_ hi;rw [tN] at hz;obtain⟨vs,hvs,hfew,hvl⟩:=hv z (mG hz);have hsl:=zub hvs;refine⟨λn kk w'=>w'=w1/\∃ q:Nat,kk=(q:Int)/\q<=vs.length/\n=(((vs.take q).countP (λv=>decide (v.Number<=mark)):Nat):Int),λ_ kk _=>vs.length - kk.toNat,⟨rfl,0,rfl,O_,by rw [gO]; rfl⟩,?_⟩;rintro n kk w2 ⟨rfl,q,rfl,hq,rfl⟩;unfold F_Me;have hcell:=zy.1 hc 1 _ rfl;have wp:i64.wrap ((p:Int)+1)=((p+1:Nat):Int):=W_;have wq:i64.wrap ((q:Int)+1)=((q+1:Nat):Int):=W_;refine⟨a1,O_,hi,z.2,hcell,λhk=>⟨a1,O_,hi,z.2,hcell,?_⟩,λhk=> ?_⟩
 ·have hk:=dT hk;obtain⟨a,v,hv',hvc⟩:=zWc hvs (i:=q) O_
  have htk:(vs.take (q+1)).countP (λv=>decide (v.Number<=mark))=(vs.take q).countP (λv=>decide (v.Number<=mark))+(if v.Number<=mark then 1 else 0):=by
   rw [bL,hv',eT];congr 1;by_cases h:v.Number<=mark <;> simp [h]
  have hcl:=List.countP_le_length (p:=λv:Ver=>decide (v.Number<=mark)) (l:=vs.take q);rw [aZ] at hcl;refine⟨a,O_,hk,v.Number,by rw [tN]; exact z3j hvc,λhle=> ?_,λhle=> ?_⟩
  ·have hle:=dT hle;unfold F_uc;rw [wq,i64_in _ O_ O_];exact⟨⟨rfl,q+1,rfl,O_,by rw [htk,if_pos hle]; omega⟩,by show vs.length - ((q+1:Nat):Int).toNat<vs.length - (q:Int).toNat; omega⟩
  ·have hle:=dF hle;unfold F_uc;rw [wq];exact⟨⟨rfl,q+1,rfl,O_,by rw [htk,if_neg hle]; omega⟩,by show vs.length - ((q+1:Nat):Int).toNat<vs.length - (q:Int).toNat; omega⟩
 ·have hk:=dF hk;have hqe:q=vs.length:=O_;rw [bF O_];refine⟨λh=>(by have:=dT h; omega),λ_=> ?_⟩;rw [wp];exact⟨⟨rfl,p+1,rfl,O_⟩,by show hs.length - ((p+1:Nat):Int).toNat<hs.length - (p:Int).toNat; omega⟩
theorem s_bd {w:World} {mark:Int} {marks open_:Slc} {ms:List Int} {os:List Bool} {R:Int->WP} (hm:zj w marks 1 (ms.map Vi)) (ho:zj w open_ 1 (os.map Value.bool)) (hl:os.length=ms.length) (hb:ms.length<=1000)
    (k:∀ n,n<=mark->(∀(i:Nat) m,ms[i]? =some m->os[i]? =some true->n<=m)->R n w):C_2b mark marks open_ w R:=by
 apply S_3b;unfold F_3e;have hml:=hm.len_eq;have hol:=ho.len_eq;refine⟨λn i w'=>w'=w/\∃ p:Nat,i=(p:Int)/\p<=ms.length/\n<=mark/\∀(j:Nat) m,j<p->ms[j]? =some m->os[j]? =some true->n<=m,λ_ i _=>ms.length - i.toNat,⟨rfl,0,rfl,O_,eO _,λj m hj=>absurd hj (eX _)⟩,?_⟩;rintro n i w1 ⟨rfl,p,rfl,hp,hn,hj⟩;unfold F_ke;refine⟨λhi=> ?_,λhi=>k n hn λj m h1 h2=>hj j m (by have:=dF hi; have:=(gSo h1).1; omega) h1 h2⟩;have hi:=dT hi;obtain⟨o,hoo⟩:∃ o,os[p]? =some o:=⟨_,aA O_⟩
 obtain⟨m,hmm⟩:∃ m,ms[p]? =some m:=⟨_,aA O_⟩
 obtain⟨a1,a2,a3⟩:=ho.at1 (i:=p) (v:=Vo o) (by rw [aF,hoo]; rfl);obtain⟨b1,b2,b3⟩:=hm.at1 (i:=p) (v:=Vi m) (by rw [aF,hmm]; rfl);have wp:i64.wrap ((p:Int)+1)=((p+1:Nat):Int):=W_
 have nx:∀ n',n'<=n->(o=true->n'<=m)->F_Jb (p:Int) (λ(n_':Int) (i':Int) w'=>(w'=w1/\∃ p:Nat,i'=(p:Int)/\p<=ms.length/\n_'<=mark/\∀(j:Nat) m,j<p->ms[j]? =some m->os[j]? =some true->n_'<=m)/\ms.length - i'.toNat<ms.length - (p:Int).toNat) n' w1:=λn' h1 h2=>by
  unfold F_Jb;rw [wp];refine⟨⟨rfl,p+1,rfl,O_,O_,λj m' hjp e1 e2=> ?_⟩,O_⟩;by_cases hjj:j=p
  ·subst hjj;obtain rfl:=aE (e1.symm.trans hmm);exact h2 (aE (hoo.symm.trans e2))
  ·have:=hj j m' O_ e1 e2;omega
 refine⟨a1,O_,O_,o,by rw [tN]; exact a3,λht=>⟨b1,O_,hi,m,by rw [tN]; exact b3,?_⟩,λhf=> ?_⟩
 ·unfold F_Kb;refine⟨λhlt=>⟨b1,O_,hi,m,by rw [tN]; exact b3,?_⟩,λhlt=> ?_⟩
  ·have hlt:=dT hlt;exact nx m O_ λ_=>eO _
  ·have hlt:=dF hlt;exact nx n (eO _) λ_=>by omega
 ·unfold F_Kb;exact⟨N_,λ_=>nx n (eO _) λh=>by rw [h] at hf; cases hf⟩
theorem s_pd {w:World} {sl:Slc} {ps:List Int} {i:Int} {R:Int->WP} (hp:zj w sl 1 (ps.map Vi)) (h0:0<=i) (k:∀ v,R v w):C_fc sl i w R:=by
 apply S_pc;unfold F_mf;refine⟨λhi=> ?_,λ_=>k i⟩;have hi:=dT hi;obtain⟨a,v,hv,hc⟩:=hp.get h0 hi;exact⟨a,h0,hi,v,hc,k v⟩
theorem RowC.set1 {α:Type} {f:α->Value} {w0:Base} {w:World} {s:Slc} {xs:List α} {bs l:List zb} {i:Nat} (h:RowC 1 s (xs.map f) bs) (st:St w0 (bs++l) w) (hi:i<s.len) (y:α) :
    IsAt s.ptr/\zr w (pblk s.ptr) (poff s.ptr+i) 1/\∀ w',w'=World.puts (pblk s.ptr) (poff s.ptr+i) [f y] w->∃ bs',RowC 1 s ((xs.set i y).map f) bs'/\St w0 (bs'++l) w':=by
 have e:∀ zs:List α,zs.flatMap (λx=>[f x])=zs.map f:=λzs=>by
  induction zs with
  | nil=>rfl
  | cons x l ih=>rw [aY,ih]; rfl
 have:=RowC.setE (sz:=1) (f:=λx=>[f x]) (λ_=>rfl) D_ (by rw [e]; exact h) st hi y;simpa only [aW,e] using this
abbrev kV (k:Int):Value:=Vb k
def zal (c:T_f):List Value:=[Vb c.Kind,Vt c.Key,Vt c.End]
theorem z5e (c:T_f):(zal c).length=3:=rfl
def LR (ks ms ls:List Int) (os:List Bool) (V:List (Int×Bool×Int×Bool×Int)):Prop :=
 (ks.length=V.length/\ms.length=V.length/\ls.length=V.length/\os.length=V.length)/\∀(i:Nat) v,V[i]? =some v->ks[i]? =some v.1/\(v.2.1=true->ms[i]? =some v.2.2.1/\(v.2.2.2.1=false->os[i]? =some true)/\∃ lw,ls[i]? =some lw/\lw<=v.2.2.2.2)
theorem LR.new {ks ms ls:List Int} {os:List Bool} {V:List (Int×Bool×Int×Bool×Int)} {v:Int×Bool×Int×Bool×Int} (h:LR ks ms ls os V) (hv:v.2.1=false):LR (ks++[v.1]) (ms++[0]) (ls++[0]) (os++[false]) (V++[v]):=by
 obtain⟨⟨h1,h2,h3,h4⟩,h⟩:=h;refine⟨⟨by simp [h1],by simp [h2],by simp [h3],by simp [h4]⟩,λi u hu=> ?_⟩;rcases z9c hu with hu | ⟨rfl,rfl⟩
 ·have hi:=(gSo hu).1;rw [aO O_,aO O_,aO O_,aO O_];exact h i u hu
 ·refine⟨by rw [<-h1,aS (bC _),cY]; rfl,λhb=> ?_⟩;rw [hv] at hb; cases hb
theorem LR.upd {ks ms ls ms' ls':List Int} {os os':List Bool} {V:List (Int×Bool×Int×Bool×Int)} {i:Nat} {v:Int×Bool×Int×Bool×Int} (h:LR ks ms ls os V) (hi:i<V.length) (e1:ms'.length=ms.length) (e2:ls'.length=ls.length) (e3:os'.length=os.length) (hne:∀ j,j≠i->ms'[j]? =ms[j]?/\ls'[j]? =ls[j]?/\os'[j]? =os[j]?)
    (hk:ks[i]? =some v.1) (hv:v.2.1=true->ms'[i]? =some v.2.2.1/\(v.2.2.2.1=false->os'[i]? =some true)/\∃ lw,ls'[i]? =some lw/\lw<=v.2.2.2.2):LR ks ms' ls' os' (V.set i v):=by
 obtain⟨⟨h1,h2,h3,h4⟩,h⟩:=h;refine⟨by simp only [aK]; omega,λj u hu=> ?_⟩;rcases zE hu with ⟨rfl,rfl⟩ | ⟨hj,hu⟩
 ·exact⟨hk,hv⟩
 ·obtain⟨a,b,c⟩:=hne j hj;rw [a,b,c];exact h j u hu
def LS (W:World) (b_:Nat) (x:T_g) (σ:RS) (log:List Tx) (fed p n:Nat) (kinds marks low open_:Slc) (w:World):Prop :=
 ∃(d:RD) (s:TS) (ks ms ls:List Int) (os:List Bool) (kb mb lb ob:List zb),RowC 1 kinds (ks.map kV) kb/\RowC 1 marks (ms.map Vi) mb/\RowC 1 low (ls.map Vi) lb/\RowC 1 open_ (os.map Value.bool) ob/\d.C.length<=n/\d.p<=p/\LR ks ms ls os (d.C.map CS.view)/\SO W [] (kb++(mb++(lb++(ob++[(b_,wldV x)])))) σ log fed d s w
theorem LS.up {W:World} {b_:Nat} {x:T_g} {σ:RS} {log:List Tx} {fed p n m:Nat} {kinds marks low open_:Slc} {w:World} (h:LS W b_ x σ log fed p n kinds marks low open_ w) (hm:n<=m):LS W b_ x σ log fed p m kinds marks low open_ w:=by
 obtain⟨d,s,ks,ms,ls,os,kb,mb,lb,ob,h1,h2,h3,h4,h5,h⟩:=h;exact⟨d,s,ks,ms,ls,os,kb,mb,lb,ob,h1,h2,h3,h4,O_,h⟩
section
variable {W:World} {w:World} {b_:Nat} {x:T_g} {σ:RS} {log:List Tx} {fed p n:Nat} {kinds marks low open_:Slc} {R:Bool->WP} {again_:Slc->Slc->Slc->Slc->Int->WP}
theorem zQj (hp:p<600) (ag:∀ {kinds marks low open_:Slc} {w':World},LS W b_ x σ log fed (p+1) (p+1) kinds marks low open_ w'->again_ kinds marks low open_ ((p+1:Nat):Int) w') (h:LS W b_ x σ log fed (p+1) (p+1) kinds marks low open_ w):F_n (p:Int) again_ kinds marks low open_ w:=by
 unfold F_n;have wp:i64.wrap ((p:Int)+1)=((p+1:Nat):Int):=W_;rw [wp];exact ag h
theorem zJi (hp:p<600) (ag:∀ {kinds marks low open_:Slc} {w':World},LS W b_ x σ log fed (p+1) (p+1) kinds marks low open_ w'->again_ kinds marks low open_ ((p+1:Nat):Int) w')
    {b1:Nat} {ev:T_a} {d:RD} {s:TS} {ks ms ls:List Int} {os:List Bool} {kb mb lb ob:List zb} (rk:RowC 1 kinds (ks.map kV) kb) (rm:RowC 1 marks (ms.map Vi) mb) (rl:RowC 1 low (ls.map Vi) lb) (ro:RowC 1 open_ (os.map Value.bool) ob) (hn:d.C.length<=p+1) (hdp:d.p<=p+1)
    (S:SO W [] ((b1,evV ev)::(kb++(mb++(lb++(ob++[(b_,wldV x)]))))) σ log fed d s w)
    (hA:ev.Kind≠12->LR ks ms ls os (d.C.map CS.view))
    (hB:ev.Kind=12->∃(i:Nat) (v lw:Int),ev.Task= -1 - (i:Int)/\i<os.length/\ks[i]? =some v/\ls[i]? =some lw/\(v=3->∀ k,(MM σ d k).countP (λv=>decide (v.Number<=lw))<=1)/\LR ks ms ls (os.set i false) (d.C.map CS.view)) :
    F_T R (some ⟨σ.rb,0,none⟩) (p:Int) again_ kinds marks low open_ b1 w:=by
 unfold F_T;obtain⟨I,hT,st,L,hph,ci⟩:=S;have st:St ⟨W,d.mp σ++[]⟩ ((b1,evV ev)::(d.cs σ++(kb++(mb++(lb++(ob++[(b_,wldV x)])))))) w:=st.pq;refine⟨ev.Kind,st.cell 0 rfl rfl,λh12=> ?_,λh12=> ?_⟩
 rotate_left
 ·refine zQj hp ag ⟨d,s,ks,ms,ls,os,kb,mb,lb,ob,rk,rm,rl,ro,hn,hdp,hA (by simpa using h12),I,hT,st.drop1,L,hph,ci⟩
 obtain⟨i,v,lw,hti,hio,hkv,hlv,hfew,hlr⟩:=hB (by simpa using h12);have rol:=ro.len;rw [lM,aW] at rol;have rkl:=rk.len;rw [lM,aW] at rkl;have rll:=rl.len;rw [lM,aW] at rll;have hil:=(gSo hkv).1;have hil2:=(gSo hlv).1;have hlr0:=hlr;obtain⟨⟨q1,q2,q3,q4⟩,_⟩:=hlr0;rw [lM] at q4;rw [aK] at q4;have wi:i64.wrap ((-1) - ev.Task)=(i:Int):=by rw [hti,i64_in _ O_ O_]; omega
 have sto:St ⟨W,d.mp σ++[]⟩ (ob++((b1,evV ev)::(d.cs σ++(kb++(mb++(lb++[(b_,wldV x)])))))) w:=st.pq;obtain⟨oa,ow,oput⟩:=ro.set1 sto (i:=i) O_ false;refine⟨ev.Task,st.cell 0 rfl rfl,oa,?_⟩;rw [wi];refine⟨O_,O_,by rw [tN]; exact ow,λw12 hw12 w14 hd14=> ?_⟩;rw [tN] at hw12;obtain⟨ob',ro',st'⟩:=oput w12 hw12;have st2:St ⟨W,d.mp σ++[]⟩ ((b1,evV ev)::(d.cs σ++(kb++(mb++(lb++(ob'++[(b_,wldV x)])))))) w14:=(st'.drew hd14).pq;obtain⟨ka,_,kc⟩:=(rk.srcM (λc hc=>by simp [hc]) st2).at1 (i:=i) (v:=kV v) (by rw [aF,hkv]; rfl);refine⟨ev.Task,st2.cell 0 rfl rfl,ka,?_⟩;rw [wi]
 have k4:∀ {w':World},St ⟨W,d.mp σ++[]⟩ ((b1,evV ev)::(d.cs σ++(kb++(mb++(lb++(ob'++[(b_,wldV x)])))))) w'->F_S R (p:Int) again_ kinds marks low open_ false w':=λ{w'} st=>by
  unfold F_S;exact⟨N_,λ_=>zQj hp ag ⟨d,s,ks,ms,ls,os.set i false,kb,mb,lb,ob',rk,rm,rl,ro',hn,hdp,hlr,I,hT,st.drop1,L,hph,ci⟩⟩
 refine⟨O_,O_,v,by rw [tN]; exact kc,λh3=> ?_,λ_=>k4 st2⟩;have h3:v=3:=by simpa using h3
 obtain⟨la,_,lc⟩:=(rl.srcM (λc hc=>by simp [hc]) st2).at1 (i:=i) (v:=Vi lw) (by rw [aF,hlv]; rfl);refine⟨ev.Task,st2.cell 0 rfl rfl,la,?_⟩;rw [wi];have S2:SO W [] ((b1,evV ev)::(kb++(mb++(lb++(ob'++[(b_,wldV x)]))))) σ log fed d s w14:=⟨I,hT,st2.pq,L,hph,ci⟩
 refine⟨O_,O_,lw,by rw [tN]; exact lc,s_Q S2 λvsl hs vb vx w15 vro hhl hks hkm hin st3=> ?_⟩;have st4:St ⟨W,d.mp σ++[]⟩ ((b1,evV ev)::(vb++(vx++(d.cs σ++(kb++(mb++(lb++(ob'++[(b_,wldV x)])))))))) w15:=st3.pq;obtain⟨_,_,lc2⟩:=(rl.srcM (λc hc=>by simp [hc]) st4).at1 (i:=i) (v:=Vi lw) (by rw [aF,hlv]; rfl);refine⟨by rw [tN]; exact lc2,st4.cell 0 rfl rfl,s_yd (hs:=hs) (vro.srcM (λc hc=>by simp [hc]) st4) hhl (λz hz=> ?_) (k4 (st4.wq (vb++vx)))⟩;obtain⟨vcb,hvr,hvm⟩:=hin z hz;refine⟨MM σ d z.1,hvr.srcM (λc hc=>by simp [hvm c hc]) st4,hfew h3 z.1,?_⟩;unfold MM;cases hM:d.M[shN σ.cfg z.1]? with
 | none=>exact bU _
 | some M =>
  obtain⟨l,hl⟩:=z4e I hM;exact cH ((I.xt.sto _ M l hM hl).len z.1) (cH (ci.il l (mG hl)) ci.ip)
theorem zFd {α:Type} {l:List α} {i j:Nat} {y:α} (h:j≠i):(l.set i y)[j]? =l[j]? :=aT λe=>h e.symm
theorem z2o (hp:p<600) (ag:∀ {kinds marks low open_:Slc} {w':World},LS W b_ x σ log fed (p+1) (p+1) kinds marks low open_ w'->again_ kinds marks low open_ ((p+1:Nat):Int) w')
    {ps:List Int} (hpk:zj W x.Picks 1 (ps.map Vi)) (h:LS W b_ x σ log fed p (p+1) kinds marks low open_ w):F_o R b_ (some ⟨σ.rb,0,none⟩) (p:Int) again_ kinds marks low open_ w:=by
 unfold F_o;obtain⟨d,s,ks,ms,ls,os,kb,mb,lb,ob,rk,rm,rl,ro,hn,hdp,hlr,S⟩:=h;have cx:∀ {o:Nat} {v:Value},(wldV x)[o]? =some v->w.cell? ⟨b_,o,none⟩=some v:=λhv=>(S.st.blk (b_,wldV x) (by simp)).cell hv;refine⟨x.Picks,cx rfl,s_pd (S.st.ext.src hpk) O_ λpv=> ?_⟩
 have bad:∀ {e:Int} {ev:T_a} {w':World} {X:WP},e≠0->SO W [] (kb++(mb++(lb++(ob++[(b_,wldV x)])))) σ log fed d s w'->∀ b1 w9,b1=w'.heap.size->w9=w'.alloc (Obj.cells (evV ev0).toArray y_d (0,0))->zr w9 b1 0 6/\∀ w10,w10=World.puts b1 0 (evV ev) w9->((e != 0)=true->F_n (p:Int) again_ kinds marks low open_ w10)/\((e != 0)=false->X w10):=λ{e ev w' X} he S b1 w9 hb1 hw9=>by
  have st:=S.st.alloc (cs:=evV ev0) hb1 hw9;refine⟨st.writable 0,λw10 hw10=>⟨λ_=> ?_,λh=>absurd (by simpa using h) he⟩⟩;exact zQj hp ag ⟨d,s,ks,ms,ls,os,kb,mb,lb,ob,rk,rm,rl,ro,O_,O_,hlr,S.I,S.h,(st.put0 hw10).drop1,S.L,S.b,S.ci⟩
 have ci0:=S.ci;have I0:=S.I;refine s_tc S O_ (λ_ ev w' S=> ?_) (λ_ ev w' S=> ?_) (λ_ ev w' S=> ?_) λev d' s' w' S tr=> ?_
 ·exact λb1 w9 hb1 hw9=>bad D_ S b1 w9 hb1 hw9
 ·exact λb1 w9 hb1 hw9=>bad D_ S b1 w9 hb1 hw9
 ·exact λb1 w9 hb1 hw9=>bad D_ S b1 w9 hb1 hw9
 intro b1 w9 hb1 hw9;have st:=S.st.alloc (cs:=evV ev0) hb1 hw9;refine⟨st.writable 0,λw10 hw10=>⟨N_,λ_=> ?_⟩⟩;have st:St ⟨W,d'.mp σ++[]⟩ ((b1,evV ev)::(d'.cs σ++(kb++(mb++(lb++(ob++[(b_,wldV x)])))))) w10:=st.put0 hw10;have so:∀ {kb mb lb ob:List zb} {w':World},St ⟨W,d'.mp σ++[]⟩ ((b1,evV ev)::(d'.cs σ++(kb++(mb++(lb++(ob++[(b_,wldV x)])))))) w'->SO W [] ((b1,evV ev)::(kb++(mb++(lb++(ob++[(b_,wldV x)]))))) σ log fed d' s' w':=λst=>⟨S.I,S.h,st.pq,S.L,S.b,S.ci⟩
 obtain⟨hp1,htr⟩:=tr;refine⟨ev.Kind,st.cell 0 rfl rfl,λh9=> ?_,λh9=> ?_⟩
 ·have h9:ev.Kind=9:=by simpa using h9
  rcases htr with ⟨_,h,_⟩ | ⟨i,c,c',hc,rfl,hM,hC,hti,⟨_,hmk,hB⟩ | ⟨h,_⟩ | ⟨h,_⟩⟩
  ·exact absurd h9 h
  ·have hil:=(gSo hc).1;have hlr0:=hlr;obtain⟨⟨q1,q2,q3,q4⟩,hv⟩:=hlr;rw [lM] at q1 q2 q3 q4;have rol:=ro.len;rw [lM,aW] at rol;have rml:=rm.len;rw [lM,aW] at rml;have rll:=rl.len;rw [lM,aW] at rll;have wi:i64.wrap ((-1) - ev.Task)=(i:Int):=by rw [hti,i64_in _ O_ O_]; omega
   intro w17 hd17;have st:=st.drew hd17;refine⟨ev.Task,st.cell 0 rfl rfl,ev.Mark,st.cell 0 rfl rfl,s_bd (rm.srcM (λc hc=>by simp [hc]) st) (ro.srcM (λc hc=>by simp [hc]) st) O_ O_ λn hnm hno=> ?_⟩;have stl:St ⟨W,d'.mp σ++[]⟩ (lb++((b1,evV ev)::(d'.cs σ++(kb++(mb++(ob++[(b_,wldV x)])))))) w17:=st.pq;obtain⟨la,lw_,lput⟩:=rl.set1 stl (i:=i) O_ n;rw [wi];refine⟨st.cell 0 rfl rfl,la,O_,O_,by rw [tN]; exact lw_,λw19 hw19=> ?_⟩;rw [tN] at hw19;obtain⟨lb',rl',st'⟩:=lput w19 hw19;have stm:St ⟨W,d'.mp σ++[]⟩ (mb++((b1,evV ev)::(d'.cs σ++(kb++(lb'++(ob++[(b_,wldV x)])))))) w19:=st'.pq;have st19:St ⟨W,d'.mp σ++[]⟩ ((b1,evV ev)::(d'.cs σ++(kb++(mb++(lb'++(ob++[(b_,wldV x)])))))) w19:=st'.pq;obtain⟨ma,mw_,mput⟩:=rm.set1 stm (i:=i) O_ ev.Mark;refine⟨ev.Task,st19.cell 0 rfl rfl,ev.Mark,st19.cell 0 rfl rfl,ma,?_⟩;rw [wi];refine⟨O_,O_,by rw [tN]; exact mw_,λw20 hw20=> ?_⟩;rw [tN] at hw20;obtain⟨mb',rm',st''⟩:=mput w20 hw20;have sto:St ⟨W,d'.mp σ++[]⟩ (ob++((b1,evV ev)::(d'.cs σ++(kb++(mb'++(lb'++[(b_,wldV x)])))))) w20:=st''.pq;have st20:St ⟨W,d'.mp σ++[]⟩ ((b1,evV ev)::(d'.cs σ++(kb++(mb'++(lb'++(ob++[(b_,wldV x)])))))) w20:=st''.pq;obtain⟨oa,ow_,oput⟩:=ro.set1 sto (i:=i) O_ true;refine⟨ev.Task,st20.cell 0 rfl rfl,oa,?_⟩;rw [wi];refine⟨O_,O_,by rw [tN]; exact ow_,λw21 hw21=> ?_⟩;rw [tN] at hw21;obtain⟨ob',ro',st3⟩:=oput w21 hw21;have st21:St ⟨W,d'.mp σ++[]⟩ ((b1,evV ev)::(d'.cs σ++(kb++(mb'++(lb'++(ob'++[(b_,wldV x)])))))) w21:=st3.pq;refine zJi hp ag rk rm' rl' ro' (by rw [hC,aK]; exact hn) O_ (so st21) (λ_=> ?_) (λh=>by rw [h9] at h; cases h);rw [hC,cV];have hkv:=(hv i c.view (by rw [aF,hc]; rfl)).1;have hset:∀ {α:Type} {l:List α} {y:α},i<l.length->(l.set i y)[i]? =some y:=λh=>aL h;rcases hB with ⟨rfl,hb0⟩ | ⟨n',r,rfl,hn1,hn2⟩
   ·refine hlr0.upd (by rw [lM]; exact hil) (aK ..) (aK ..) (aK ..) (λj hj=>⟨zFd hj,zFd hj,zFd hj⟩) hkv λh=> ?_;have h:c'.m.begun=true:=h;rw [hb0] at h; cases h
   ·refine hlr0.upd (by rw [lM]; exact hil) (aK ..) (aK ..) (aK ..) (λj hj=>⟨zFd hj,zFd hj,zFd hj⟩) hkv λ_=>⟨?_,λ_=>hset O_,n,hset O_,?_⟩
    ·rw [hset O_,hmk]; rfl
    ·show n<=n';rcases hn2 with rfl | ⟨j,e,he,hb,hen,rfl⟩
     ·omega
     ·obtain⟨_,hve⟩:=hv j e.view (by rw [aF,he]; rfl);obtain⟨h1,h2,_⟩:=hve hb;exact hno j _ h1 (h2 hen)
  ·rw [h9] at h; cases h
  ·rw [h9] at h; cases h
 ·have h9:ev.Kind≠9:=by simpa using h9
  rcases htr with ⟨nx,_,h12⟩ | ⟨i,c,c',hc,rfl,hM,hC,hti,⟨h,_⟩ | ⟨h12,rfl,hall⟩ | ⟨h11,hcc⟩⟩
  ·have hlen:d'.C.length=d.C.length:=by
     have:=congrArg List.length nx.vw
     rwa [lM,lM] at this
   exact zJi hp ag rk rm rl ro O_ O_ (so st) (λ_=>by rw [nx.vw]; exact hlr) λh=>absurd h h12
  ·exact absurd h h9
  ·have hil:=(gSo hc).1;have hlr0:=hlr;obtain⟨⟨q1,q2,q3,q4⟩,hv⟩:=hlr;rw [lM] at q1 q2 q3 q4;obtain⟨hkv,hvv⟩:=hv i c.view (by rw [aF,hc]; rfl)
   have hbg:c.m.begun=true:=by
    unfold allM at hall;simp only [aD] at hall;exact hall.1
   obtain⟨hm1,_,lw,hlw,hle⟩:=hvv hbg;refine zJi hp ag rk rm rl ro (by rw [hC,aK]; exact hn) O_ (so st) (λh=>absurd h12 h) λ_=>⟨i,c.m.call.Kind,lw,hti,O_,hkv,hlw,λh3 k=> ?_,?_⟩
   ·unfold MM;cases hMk:d'.M[shN σ.cfg k]? with
    | none=>exact bU _
    | some M =>
     rw [hM] at hMk;obtain⟨q,hq⟩:∃ q,d.Q[shN σ.cfg k]? =some q:=⟨_,aA (by have:=(gSo hMk).1; have:=I0.xt.ml; have:=I0.xt.ql; omega)⟩
     have hf:=(ci0.co i c hc).all hall h3 hq hMk k;refine cH (List.countP_mono_left λv _ hv=> ?_) hf;have hle:lw<=c.least:=hle;simp only [decide_eq_true_eq] at hv ⊢;omega
   ·rw [hC,cV];refine hlr0.upd (by rw [lM]; exact hil) rfl rfl (aK ..) (λj hj=>⟨rfl,rfl,zFd hj⟩) hkv λ_=>⟨hm1,N_,lw,hlw,hle⟩
  ·have hil:=(gSo hc).1;obtain⟨hkv,hvv⟩:=hlr.2 i c.view (by rw [aF,hc]; rfl);refine zJi hp ag rk rm rl ro (by rw [hC,aK]; exact hn) O_ (so st) (λ_=> ?_) λh=>by rw [h11] at h; cases h
   rw [hC,cV];refine hlr.upd (by rw [lM]; exact hil) rfl rfl rfl (λj hj=>⟨rfl,rfl,rfl⟩) (by rcases hcc with rfl | rfl <;> exact hkv) λhb=> ?_;rcases hcc with rfl | rfl
   ·exact hvv hb
   ·obtain⟨a1,a2,a3⟩:=hvv hb;exact⟨a1,N_,a3⟩
end
section
variable {W:World} {w:World} {b_:Nat} {x:T_g} {σ:RS} {log:List Tx} {fed p n:Nat} {kinds marks low open_:Slc} {R:Bool->WP} {again_:Slc->Slc->Slc->Slc->Int->WP}
theorem z3o {calls:Slc} {cs:List T_f} {every:Int} {ps:List Int} (hev:0<=every/\every<=255) (hcs:zj W calls 3 (cs.flatMap zal)) (hcl:calls.len<=4398046511104) (hpk:zj W x.Picks 1 (ps.map Vi)) (hp:p<=600)
    (ag:p<600->∀ {kinds marks low open_:Slc} {w':World},LS W b_ x σ log fed (p+1) (p+1) kinds marks low open_ w'->again_ kinds marks low open_ ((p+1:Nat):Int) w')
    (K:∀ {w1},RowKit.Below W.heap.size W w1->C_x w1 R) (h:LS W b_ x σ log fed p p kinds marks low open_ w):F_Bb calls every R b_ (some ⟨σ.rb,0,none⟩) again_ kinds marks low open_ (p:Int) w:=by
 unfold F_Bb;refine⟨λhi=> ?_,λ_=> ?_⟩
 rotate_left
 ·obtain⟨d,s,ks,ms,ls,os,kb,mb,lb,ob,rk,rm,rl,ro,hn,hdp,hlr,S⟩:=h;exact K S.st.below
 have hi:=dT hi;have hp6:p<600:=O_;have ag:=λ{kinds marks low open_:Slc} {w':World}=>ag hp6 (kinds:=kinds) (marks:=marks) (low:=low) (open_:=open_) (w':=w');obtain⟨e,he⟩:∃ e:Int,e=i64.wrap (1+i64.wrap (Int.tmod every 9)):=⟨_,rfl⟩
 have hm1:=Int.tmod_nonneg 9 hev.1;have hm2:=eR every (show(0:Int)<9 by decide)
 have he1:1<=e/\e<=9:=by
  rw [he,i64_in (Int.tmod every 9) O_ O_,i64_in _ O_ O_];omega
 obtain⟨j,hj⟩:∃ j:Nat,i64.wrap (Int.tdiv (p:Int) e)=(j:Int):=by
  have h1:0<=Int.tdiv (p:Int) e:=Int.tdiv_nonneg O_ O_;have h2:Int.tdiv (p:Int) e<=(p:Int):=Int.tdiv_le_self e O_;rw [i64_in _ O_ O_];exact⟨(Int.tdiv (p:Int) e).toNat,O_⟩
 have k2:∀ {kinds marks low open_:Slc} {w':World},LS W b_ x σ log fed p (p+1) kinds marks low open_ w'->F_o R b_ (some ⟨σ.rb,0,none⟩) (p:Int) again_ kinds marks low open_ w':=λh=>z2o hp6 ag hpk h;rw [<-he,hj];refine⟨O_,O_,λhc=> ?_,λ_=>k2 (h.up O_)⟩;simp only [aD,decide_eq_true_eq] at hc;obtain⟨d,s,ks,ms,ls,os,kb,mb,lb,ob,rk,rm,rl,ro,hn,hdp,hlr,S⟩:=h;have hlr0:=hlr;obtain⟨⟨q1,q2,q3,q4⟩,_⟩:=hlr0;rw [lM] at q1 q2 q3 q4;obtain⟨ca,c0,hc0,hcc⟩:=(S.st.ext.src hcs).getN z5e O_ (i:=(j:Int)) O_ hc.1.2;refine⟨ca,O_,hc.1.2,c0,hcc,s_sd S O_ (λv e1 w22 hne S=>⟨λh=>absurd (by simpa using h) hne,λ_=>k2 ⟨d,s,ks,ms,ls,os,kb,mb,lb,ob,rk,rm,rl,ro,O_,hdp,hlr,S⟩⟩) λv c d' w22 hC hck hcb hce hdp' S=>⟨λ_=> ?_,N_⟩⟩;obtain⟨ca2,c02,hc02,hcc2⟩:=(S.st.ext.src hcs).getN z5e O_ (i:=(j:Int)) O_ hc.1.2;obtain rfl:=aE (hc0.symm.trans hc02);have rkl:=rk.len;rw [lM,aW] at rkl;have rml:=rm.len;rw [lM,aW] at rml;have rll:=rl.len;rw [lM,aW] at rll;have rol:=ro.len;rw [lM,aW] at rol;refine⟨ca2,O_,hc.1.2,c0.Kind,(show zf _ _ _ [Vb c0.Kind,Vt c0.Key,Vt c0.End] from hcc2).1,λb2 w23 hb2 hw23=>⟨[kV c0.Kind],zS hb2 hw23 rfl,?_⟩⟩;have st1:St ⟨W,d'.mp σ++[]⟩ (kb++(d'.cs σ++(mb++(lb++(ob++[(b_,wldV x)]))))) w23:=((S.st.alloc (cs:=[kV c0.Kind]) hb2 hw23).drop1).pq;refine rk.append st1 rfl rfl rfl (by show(kinds.len+1)*1<=_; omega) λkinds3 kb3 w24 rk3 st2 _ b3 w25 hb3 hw25=>⟨[Vi 0],zS hb3 hw25 rfl,?_⟩
 have st3:St ⟨W,d'.mp σ++[]⟩ (mb++(d'.cs σ++(kb3++(lb++(ob++[(b_,wldV x)]))))) w25:=((st2.alloc (cs:=[Vi 0]) hb3 hw25).drop1).pq;refine rm.append st3 rfl rfl rfl (by show(marks.len+1)*8<=_; omega) λmarks3 mb3 w26 rm3 st4 _ b4 w27 hb4 hw27=>⟨[Vi 0],zS hb4 hw27 rfl,?_⟩
 have st5:St ⟨W,d'.mp σ++[]⟩ (lb++(d'.cs σ++(kb3++(mb3++(ob++[(b_,wldV x)]))))) w27:=((st4.alloc (cs:=[Vi 0]) hb4 hw27).drop1).pq;refine rl.append st5 rfl rfl rfl (by show(low.len+1)*8<=_; omega) λlow3 lb3 w28 rl3 st6 _ b5 w29 hb5 hw29=>⟨[Vo false],zS hb5 hw29 rfl,?_⟩
 have st7:St ⟨W,d'.mp σ++[]⟩ (ob++(d'.cs σ++(kb3++(mb3++(lb3++[(b_,wldV x)]))))) w29:=((st6.alloc (cs:=[Vo false]) hb5 hw29).drop1).pq;refine ro.append st7 rfl rfl rfl (by show(open_.len+1)*1<=_; omega) λopen3 ob3 w30 ro3 st8 _=> ?_;have hview:c.view.1=c0.Kind:=by show c.m.call.Kind=_; rw [hck]
 refine k2 ⟨d',s,ks++[c0.Kind],ms++[0],ls++[0],os++[false],kb3,mb3,lb3,ob3,by rw [aR]; exact rk3,by rw [aR]; exact rm3,by rw [aR]; exact rl3,by rw [aR]; exact ro3,by rw [hC,aB,bT]; omega,O_,?_,⟨S.I,S.h,st8.pq,S.L,S.b,S.ci⟩⟩;rw [hC,aR,<-hview];exact hlr.new (v:=c.view) hcb
end
theorem zjm (x:T_g) {calls:Slc} {every:Int} {w:World} {ts:List Tx} {sls:List Slc} {ps:List Int} {cs:List T_f} {R:Bool->WP} (ha:LAt w x.Log ts sls) (hl:x.Log.len<=4398046511104) (hp:zj w x.Picks 1 (ps.map Vi)) (hev:0<=every/\every<=255) (hcs:zj w calls 3 (cs.flatMap zal)) (hcl:calls.len<=4398046511104)
    (K:∀ {w1},RowKit.Below w.heap.size w w1->C_x w1 R):C_bb x calls every w R:=by
 apply S_Q;unfold F_xd;intro b_ w1 hb hw;have st:St ⟨w,[]⟩ [(b_,wldV x)] w1:=(St.start w).alloc (cs:=wldV x) hb hw;refine⟨x,(st.get 0 rfl).all,s_1 st (λmp l' w' st=>ha.ext st.ext) hl (λ_ w2 st=>⟨λ_=>K st.below,N_⟩) λL σ d top db w2 e F S=>⟨N_,λ_=> ?_⟩⟩;obtain⟨f1,f2,f3⟩:=F;refine⟨λkinds marks low open_ i w'=>∃ p:Nat,i=(p:Int)/\p<=600/\LS w b_ x σ ts (fedN x.Fed ts.length) p p kinds marks low open_ w',λ_ _ _ _ i _=>600 - i.toNat,⟨0,rfl,O_,d,_,[],[],[],[],[],[],[],[],RowC.nil,RowC.nil,RowC.nil,RowC.nil,by rw [f1]; exact bC _,by rw [f2]; exact bC _,?_,S⟩,?_⟩
 ·rw [f1];exact⟨⟨rfl,rfl,rfl,rfl⟩,λi v hv=>(by cases hv)⟩
 ·rintro kinds marks low open_ i w3 ⟨p,rfl,hp6,h⟩;exact z3o hev hcs hcl hp hp6 (λhlt=>λ{kinds marks low open_ w'} h'=>⟨⟨p+1,rfl,O_,h'⟩,by show 600 - ((p+1:Nat):Int).toNat<600 - (p:Int).toNat; omega⟩) K h
theorem zbl {w:World} {s:Slc} (h:OkSl w s 1 8 (λes=>∃ e_:Int,es=[Vi e_]/\((-9223372036854775808)<=e_/\e_<=9223372036854775807))) :
    ∃ l:List Int,zj w s 1 (l.map Vi)/\s.len<=s.cap/\s.cap*8<=140737488351232/\l.length=s.len/\∀ x∈l,-9223372036854775808<=x/\x<=9223372036854775807:=by
 obtain⟨l,h1,h2,h3,h4,h5⟩:=zyg (f:=λx:Int=>[Vi x]) (Pr:=λe_:Int=> -9223372036854775808<=e_/\e_<=9223372036854775807) h (λes ⟨e,he,hb⟩=>⟨e,he,hb⟩) (λ_=>rfl) D_
 have e:∀ l:List Int,(l.flatMap λx:Int=>[Vi x])=l.map Vi:=λl=>by
  induction l with
  | nil=>rfl
  | cons x l ih=>rw [aY,ih]; rfl
 rw [e] at h1;exact⟨l,h1,h2,h3,h4,h5⟩
theorem z6e (x0:T_g) (x1:Slc) (x2:Int) (w:World) (h0:O_b w x0) (h1:OkSl w x1 3 40 (λes=>∃ e_:T_f,es=[Vb e_.Kind,Vt e_.Key,Vt e_.End]/\(O_d w e_))) (h2:0<=x2/\x2<=255):C_bb x0 x1 x2 w (λb w'=>b=true/\RowKit.Below w.heap.size w w'):=by
 obtain⟨_,hlog,_,_,hpk⟩:=h0;obtain⟨ts,sls,ha,hl⟩:=zkp hlog;obtain⟨ps,hp,_⟩:=zbl hpk;obtain⟨cs,hcs,hcl,hcap,hlen,_⟩:=zyg (f:=zal) h1 (λes ⟨e,h,h'⟩=>⟨e,h,h'⟩) z5e D_;exact zjm x0 ha hl hp h2 hcs O_ λ{w1} hb=>s_yc ((St.start w).keep hb) λw' hb'=>⟨rfl,hb'⟩
end Go.Proofs.YtofjmclceflgiaaGreat
