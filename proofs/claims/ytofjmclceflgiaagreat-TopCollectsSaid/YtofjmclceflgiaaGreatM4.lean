/-
  A part of the proof of TopCollects.
  Conditions: none.
-/
import Derived.Test.YtofjmclceflgiaaGreatM3
import Derived.Test.YtofjmclceflgiaaGreatG1
import Derived.Test.YtofjmclceflgiaaGreatG2
import Derived.Test.YtofjmclceflgiaaGreatG3
namespace Go.Proofs.YtofjmclceflgiaaGreat
open Go
open Go.IntKind (i64 u64 u32 u8)
set_option linter.unusedVariables false
set_option linter.unusedSimpArgs false
set_option maxHeartbeats 4000000
structure SO (W:World) (m0:List (Nat×Obj)) (fr:List zb) (σ:RS) (log:List Tx) (fed:Nat) (d:RD) (s:TS) (w:World):Prop where
 I:RepI σ d log fed s
 h:TInv log fed σ.cfg.Queue.toNat (shN σ.cfg) s
 st:St ⟨W,d.mp σ++m0⟩ (d.cs σ++fr) w
 L:zId log
 b:phi log fed s<=4521984
 ci:CI s.g.mark d.Q d.M d.C s.inst d.p
def evV (e:T_a):List Value:=[Vi e.Task,Vb e.Kind,Vi e.Number,Vi e.Shard,Vi e.Count,Vi e.Mark]
def ev0:T_a:=⟨0,0,0,0,0,0⟩
theorem zRj {log:List Tx} {fed cap:Nat} {sh:ByteArray->Nat} {s:TS} (h:TInv log fed cap sh s) {x:Int} (hx:(∃ t∈s.pend,t.1=x)\/(∃ t∈s.line,t.1=x)\/(∃ j,some j∈s.lanes/\j.n=x)\/x∈s.gone):x∈s.opn:=by
 have ho:=h.opn (one1 x);have e1:one1 x x=1:=if_pos rfl
 have hpos:sm (one1 x) s.opn≠0:=by
  rcases hx with ⟨t,ht,e⟩ | ⟨t,ht,e⟩ | ⟨j,hj,e⟩ | hx
  ·have:=zCb (f:=λt:Tx=>one1 x t.1) ht;simp only [e,e1] at this; omega
  ·have:=zCb (f:=λt:Tx=>one1 x t.1) ht;simp only [e,e1] at this; omega
  ·have:=zCb (f:=zod (one1 x)) hj;have e2:zod (one1 x) (some j)=1:=by show one1 x j.n=1; rw [e]; exact e1
   omega
  ·have:=zCb (f:=one1 x) hx;omega
 obtain⟨y,hy,hne⟩:=zag hpos;unfold one1 at hne;split at hne
 ·rename_i e; exact e ▸ hy
 ·exact absurd rfl hne
section
variable {W:World} {m0:List (Nat×Obj)} {w:World} {fr:List zb} {σ:RS} {d:RD} {log:List Tx} {fed:Nat} {s:TS}
theorem s_Tc {b:Nat} {R:T_a->WP} (S:SO W m0 fr σ log fed d s w) (hb:(b,[aP σ.rb])∈σ.fx) (h1:s.held=none) (h2:s.at_<fed)
    (k:∀ ev d' s' w',SO W m0 fr σ log fed d' s' w'->Nx log fed d s d' s'->R ev w'):C_K (Z0 b) 1 w R:=by
 obtain⟨I,h,st,L,hb2,ci⟩:=S;apply S_l;unfold F_4;intro b_ w1 hb_ hw1;have st:St ⟨W,d.mp σ++m0⟩ ([(b_,evV ev0)]++(d.cs σ++fr)) w1:=st.alloc (cs:=evV ev0) hb_ hw1;refine⟨λ_=>⟨rfl,_,(st.blk _ (aH _ (RD.fxm hb))).cell rfl,rfl,σ.f,st.cell 1 rfl rfl,?_⟩,N_⟩;have st:St ⟨W,d.mp σ++m0⟩ (d.fcs++([(b_,evV ev0)]++(({d with fcs:=[]}:RD).cs σ++fr))) w1:=st.pR;refine s_Sc (λq hq=>fvm hq) I.feed st λfcs' w2 fo st=> ?_
 have hr:zAg (some ⟨log,0,s.at_,fed,σ.cfg.Window.toNat,[],s.held,false⟩)=(((s.at_+1:Nat):Int),0,some ⟨log,0,s.at_+1,fed,σ.cfg.Window.toNat,[],log[s.at_]?,false⟩):=by
  unfold zAg;simp only [h1,h2,if_true,bW,if_false]
 rw [hr] at fo;have st:St ⟨W,d.mp σ++m0⟩ ([(b_,evV ev0)]++(({d with fcs:=fcs'}:RD).cs σ++fr)) w2:=st.pR;refine⟨st.writable 0,λw3 hw3=> ?_⟩;rw [hr] at hw3;have st:=st.put0 hw3;obtain⟨hi,hp⟩:=zBl L h h1 h2
 have hls:(log[s.at_]?).isSome=true:=by
  have:=h.fl;rw [aA O_]; rfl
 refine⟨⟨0,0,((s.at_+1:Nat):Int),0,0,0⟩,(st.get 0 rfl).all,k _ {d with fcs:=fcs'} (rdS log s) w3 ⟨{ I with feed:=fo,top:= ?_ },hi,st.drop1,L,O_,ci⟩ ⟨rfl,rfl,dN _,.inl hp⟩⟩;have ht:=I.top;rw [h1] at ht;show d.top+(if(log[s.at_]?).isSome=true then 1 else 0)=((s.at_+1:Nat):Int)
 rw [if_pos hls];have ht:d.top+0=(s.at_:Int):=ht;omega
theorem D_k0 {b b_ bt:Nat} {t:Tx} {sl:Slc} {rw_ fcs':List zb} {R:T_a->WP} (I:RepI σ d log fed s) (h:TInv log fed σ.cfg.Queue.toNat (shN σ.cfg) s) (L:zId log) (hb2:phi log fed s<=4521984) (ci:CI s.g.mark d.Q d.M d.C s.inst d.p)
    (hb:(b,[aP σ.rb])∈σ.fx) (h1:s.held=some t) (fo:FdO σ.fv σ.sp (some ⟨log,0,s.at_,fed,σ.cfg.Window.toNat,[],none,false⟩) σ.f fcs') (ro:RowC 3 sl (t.2.flatMap wV) rw_)
    (st:St ⟨W,d.mp σ++m0⟩ ((bt,txW t.1 sl)::(b_,evV ev0)::(rw_++(({d with fcs:=fcs'}:RD).cs σ++fr))) w)
    (k:∀ ev d' s' w',SO W m0 fr σ log fed d' s' w'->Nx log fed d s d' s'->R ev w'):F_i (Z0 b) R b_ (Z0 bt) w:=by
 unfold F_i;intro w1 e1;have st:=st.drew e1;have cb:∀ {w':World} {mp:List (Nat×Obj)} {A:List zb} {d':RD},St ⟨W,mp⟩ (A++(d'.cs σ++fr)) w'->w'.cell? ⟨b,0,none⟩=some (aP σ.rb):=λst=>(st.blk _ (aH _ (RD.fxm hb))).cell rfl;have cr:∀ {w':World} {mp:List (Nat×Obj)} {A:List zb} {d':RD} {o:Nat} {v:Value},St ⟨W,mp⟩ (A++(d'.cs σ++fr)) w'->(repV σ d'.x d'.line d'.gone)[o]? =some v->w'.cell? ⟨σ.rb,o,none⟩=some v:=λst hv=>(st.blk (σ.rb,_) (aH _ (bB _ (aI ..)))).cell hv;have hA:∀ {w':World} {mp:List (Nat×Obj)} {d':RD},St ⟨W,mp⟩ ((bt,txW t.1 sl)::(b_,evV ev0)::(rw_++(d'.cs σ++fr))) w'->St ⟨W,mp⟩ (([(bt,txW t.1 sl),(b_,evV ev0)]++rw_)++(d'.cs σ++fr)) w':=λst=>st.pq;obtain⟨ha,htl⟩:=h.held t h1;have htn:t.1=(s.at_:Int):=by have:=L.num _ _ htl; omega
 have hok:=L.ok t (mG htl)
 have htop:d.top<t.1:=by
  have:=I.top;rw [h1] at this;have this:d.top+1=(s.at_:Int):=this;omega
 obtain⟨hno,hng⟩:=h.heldN t h1;refine⟨rfl,_,cb (hA st),rfl,σ.dp,cr (hA st) rfl,rfl,⟨t.1,sl⟩,(st.get 0 rfl).all,?_⟩;have st:St ⟨W,d.dm++(({d with dm:=[]}:RD).mp σ++m0)⟩ (d.dcs++((bt,txW t.1 sl)::(b_,evV ev0)::(rw_++(({d with fcs:=fcs',dcs:=[]}:RD).cs σ++fr)))) w1:=(st.pR).mperm (za λf_=>by simp [RD.cs,RD.mp] <;> omega);refine s_ec (x:=⟨t.1,sl⟩) I.deps st (λmp l' w' st=>ro.srcM (λc hc=>by simp [hc]) st) hok htop λU dm' dcs' w2 hUn hUo dpo st=> ?_;obtain⟨d1,hd1⟩:∃ d1:RD,d1={d with fcs:=fcs',dcs:=dcs',dm:=dm',top:=t.1,PB:=rw_++d.PB}:=⟨_,rfl⟩
 have st:St ⟨W,d1.mp σ++m0⟩ ([(bt,txW t.1 sl),(b_,evV ev0)]++(d1.cs σ++fr)) w2:=by
  subst hd1;exact(st.pR).mperm (za λf_=>by simp [RD.cs,RD.mp] <;> omega)
 obtain⟨hi,hp⟩:=zCl L h h1 hUo hUn;have hPB:∀ c∈d.PB,c∈rw_++d.PB:=λc hc=>aH _ hc;have hin:InW (rw_++d.PB) sl t.2:=⟨rw_,ro,λc hc=>bB _ hc⟩
 have htop':t.1+(if(none:Option Tx).isSome=true then 1 else 0)=(s.at_:Int):=by show t.1+0=_; omega
 have k1:∀ d' w',RepI σ d' log fed (dsS t U s)->(d'.Q=d.Q/\d'.M=d.M/\d'.C=d.C/\d'.p=d.p/\d'.x=d.x)->St ⟨W,d'.mp σ++m0⟩ ([(bt,txW t.1 sl),(b_,evV ev0)]++(d'.cs σ++fr)) w'->F_B R b_ (Z0 bt) (U.length:Nat) w':=λd' w' I' ⟨e1,e2,e3,e4,e5⟩ st=>by
  unfold F_B;refine⟨rfl,t.1,st.cell 0 rfl rfl,st.writable 1,λw3 hw3=> ?_⟩;have st:=st.put1 hw3;exact⟨⟨0,0,t.1,0,(U.length:Nat),0⟩,(st.get 1 rfl).all,k _ d' _ w3 ⟨I',hi,st.drop1.drop1,L,O_,by rw [e1,e2,e3,e4]; exact ci⟩ ⟨by rw [e3],by rw [e5],O_,.inl hp⟩⟩
 refine⟨λhu=> ?_,λhu=> ?_⟩
 ·have hu:U=[]:=by
    have:((U.length:Nat):Int)=0:=by simpa using hu
    exact aX O_
  intro w3 e3;have st:=st.drew e3;have hl1:d1.line=d.line:=by rw [hd1]
  refine⟨rfl,_,cb st,rfl,_,cb st,rfl,d1.line,cr st rfl,rfl,⟨t.1,sl⟩,(st.get 0 rfl).all,λb1 w4 hb1 hw4=> ?_⟩;have st4:St ⟨W,d1.mp σ++m0⟩ ([(b1,txW t.1 sl),(bt,txW t.1 sl),(b_,evV ev0)]++(d1.cs σ++fr)) w4:=st.alloc (cs:=txW t.1 sl) hb1 hw4;refine⟨cr st4 rfl,cb st4,cb st4,txW t.1 sl,zJ hb1 hw4 rfl,?_⟩;have hll:=zXe I
  have hbn:s.line.length*3<=4521984:=by
   have h3:sm (λt=>3+2*cw t) s.line>=s.line.length*3:=by
    have:∀ l:List Tx,l.length*3<=sm (λt=>3+2*cw t) l:=λl=>by
     induction l with
     | nil=>exact bU _
     | cons x l ih=>rw [sm_cons,aV]; omega
    exact this _
   unfold phi at hb2;omega
  have st5:St ⟨W,d1.mp σ++m0⟩ (d.lb++([(bt,txW t.1 sl),(b_,evV ev0)]++(({d1 with lb:=[]}:RD).cs σ++fr))) w4:=by
   have:=st4.drop1;subst hd1;exact this.pR
  have I':=I.line;rw [hl1];refine I'.append st5 rfl rfl rfl (by show(d.line.len+1)*32<=_; omega) λln lb' w6 ro' st hlen=> ?_;have st:St ⟨W,d1.mp σ++m0⟩ ([(bt,txW t.1 sl),(b_,evV ev0)]++(({d1 with lb:=lb'}:RD).cs σ++fr)) w6:=st.pR;have st':St ⟨W,d1.mp σ++m0⟩ ((σ.rb,repV σ d1.x d1.line d1.gone)::(([(bt,txW t.1 sl),(b_,evV ev0)]++(d1.fcs++(d1.dcs++(d1.gcs++(fl d1.LB++(fl d1.OB++(lb'++(d1.gb++(d1.PB++(d1.x.yb++σ.fx))))))))))++fr)) w6:=st.pR;refine⟨cb st,rfl,st'.writable 0,λw7 hw7=> ?_⟩;have st:=st'.put0 hw7;have st:St ⟨W,d1.mp σ++m0⟩ ((σ.rb,repV σ d1.x ln d1.gone)::(([(bt,txW t.1 sl),(b_,evV ev0)]++(d1.fcs++(d1.dcs++(d1.gcs++(fl d1.LB++(fl d1.OB++(lb'++(d1.gb++(d1.PB++(d1.x.yb++σ.fx))))))))))++fr)) w7:=st;have st:St ⟨W,d1.mp σ++m0⟩ ([(bt,txW t.1 sl),(b_,evV ev0)]++(({d1 with lb:=lb',line:=ln,ll:=d.ll++[(t,sl)]}:RD).cs σ++fr)) w7:=st.pR;refine k1 {d1 with lb:=lb',line:=ln,ll:=d.ll++[(t,sl)]} w7 ?_ (by subst hd1; exact⟨rfl,rfl,rfl,rfl,rfl⟩) st;subst hd1;refine { ok:=I.ok,feed:=fo,deps:=dpo,top:=htop',gate:=I.gate,ll:=I.ll,lB:=I.lB,lane:=I.lane,ol:=I.ol,il:=I.il,oB:=I.oB,sB:=I.sB,own:=I.own,qgood:=I.qgood,igood:=I.igood,line:= ?_,lines:= ?_,lin:=λp hp=> ?_,wok:=I.wok,pend:=λx hx=> ?_,gone:=I.gone,xt:=I.xt }
  ·show RowC 2 ln ((d.ll++[(t,sl)]).flatMap txC) lb';rw [bE]; exact ro'
  ·show(if U=[] then s.line++[t] else s.line)=(d.ll++[(t,sl)]).map (·.1);rw [if_pos hu,aR,I.lines]; rfl
  ·rcases aG.1 hp with hp | hp
   ·exact(I.lin p hp).mono hPB
   ·have:p=(t,sl):=by simpa using hp
    rw [this]; exact hin
  ·have hx:x∈(if U=[] then s.pend else s.pend++[t]):=hx;rw [if_pos hu] at hx;obtain⟨z,hz1,hz2⟩:=I.pend x hx;exact⟨z,hz1,hz2.mono hPB⟩
 ·have hu:U≠[]:=λe=>by rw [e] at hu; exact absurd hu D_
  intro w3 e3;have st:=st.drew e3;have hw1:d1.we=d.we/\d1.wc=d.wc:=by rw [hd1]; exact⟨rfl,rfl⟩
  have stm:St ⟨W,(σ.wm,.map d.we d.wc)::(σ.fv.mp++(d1.dm++(fl d1.SB++m0)))⟩ ([(bt,txW t.1 sl),(b_,evV ev0)]++(d1.cs σ++fr)) w3:=by
   have:=st;subst hd1;exact this.mperm (za λf_=>by simp [RD.cs,RD.mp] <;> omega)
  refine⟨rfl,_,cb st,rfl,some σ.wm,cr st rfl,rfl,t.1,st.cell 0 rfl rfl,⟨t.1,sl⟩,(st.get 0 rfl).all,σ.wm,d.we,d.wc,rfl,stm.objAt 0 rfl,I.wok.all,I.wok.nodup,⟨_,rfl⟩,λes1 c1 w4 hset hw4=> ?_⟩;have st:=stm.mset0 hw4;have st:St ⟨W,({d1 with we:=es1,wc:=c1}:RD).mp σ++m0⟩ ([(bt,txW t.1 sl),(b_,evV ev0)]++(({d1 with we:=es1,wc:=c1}:RD).cs σ++fr)) w4:=(st.mperm (za λf_=>by simp [RD.cs,RD.mp] <;> omega))
  obtain⟨ok1,va,vb⟩:=I.wok.set ⟨_,rfl⟩ hset;refine k1 _ w4 ?_ (by subst hd1; exact⟨rfl,rfl,rfl,rfl,rfl⟩) st;subst hd1;refine { ok:=I.ok,feed:=fo,deps:=dpo,top:=htop',gate:=I.gate,ll:=I.ll,lB:=I.lB,lane:=I.lane,ol:=I.ol,il:=I.il,oB:=I.oB,sB:=I.sB,own:=I.own,qgood:=I.qgood,igood:=I.igood,line:=I.line,lines:= ?_,lin:=λp hp=>(I.lin p hp).mono hPB,wok:=ok1,pend:=λx hx=> ?_,gone:=I.gone,xt:=I.xt }
  ·show(if U=[] then s.line++[t] else s.line)=_;rw [if_neg hu]; exact I.lines
  ·have hx:x∈(if U=[] then s.pend else s.pend++[t]):=hx;rw [if_neg hu] at hx;rcases aG.1 hx with hx | hx
   ·obtain⟨z,hz1,hz2⟩:=I.pend x hx;refine⟨z,(vb _ λe=> ?_).trans hz1,hz2.mono hPB⟩
    have e:x.1=t.1:=by
     have e:Vi x.1=Vi t.1:=e;simpa using e
    have:=zRj h (.inl ⟨x,hx,e⟩);rw [htn] at this;exact hno this
   ·have:x=t:=by simpa using hx
    subst this;exact⟨sl,va,hin⟩
theorem s_Uc {b:Nat} {t:Tx} {R:T_a->WP} (S:SO W m0 fr σ log fed d s w) (hb:(b,[aP σ.rb])∈σ.fx) (h1:s.held=some t) (h2:t.1 - (σ.cfg.Window.toNat:Int)<=(s.g.mark:Int))
    (k:∀ ev d' s' w',SO W m0 fr σ log fed d' s' w'->Nx log fed d s d' s'->R ev w'):C_K (Z0 b) 3 w R:=by
 obtain⟨I,h,st,L,hb2,ci⟩:=S;apply S_l;unfold F_4;intro b_ w1 hb_ hw1;have st:St ⟨W,d.mp σ++m0⟩ ([(b_,evV ev0)]++(d.cs σ++fr)) w1:=st.alloc (cs:=evV ev0) hb_ hw1;have cb:∀ {w':World} {A:List zb},St ⟨W,d.mp σ++m0⟩ (A++(d.cs σ++fr)) w'->w'.cell? ⟨b,0,none⟩=some (aP σ.rb):=λst=>(st.blk _ (aH _ (RD.fxm hb))).cell rfl;have cr:∀ {w':World} {A:List zb} {o:Nat} {v:Value},St ⟨W,d.mp σ++m0⟩ (A++(d.cs σ++fr)) w'->(repV σ d.x d.line d.gone)[o]? =some v->w'.cell? ⟨σ.rb,o,none⟩=some v:=λst hv=>(st.blk (σ.rb,_) (aH _ (bB _ (aI ..)))).cell hv
 have hr:zNe (some ⟨log,0,s.at_,fed,σ.cfg.Window.toNat,[],s.held,false⟩) (s.g.mark:Int)=(t,0,some ⟨log,0,s.at_,fed,σ.cfg.Window.toNat,[],none,false⟩):=by
  unfold zNe zzg;simp only [h1]
  rw [if_neg (by rintro(hh | hh); · cases hh
                 ·exact hh h2)]
 have mk:∀ {w':World} {A:List zb} {R:Int->WP},St ⟨W,d.mp σ++m0⟩ (A++(d.cs σ++fr)) w'->(∀ w2,St ⟨W,d.mp σ++m0⟩ (A++(d.cs σ++fr)) w2->R (s.g.mark:Int) w2)->C_o ⟨some ⟨σ.rb,0,none⟩⟩ w' R:=λ{w' A R} st kk =>
  s_k (fr:=A++fr) I (st.pR) λw2 e2=>kk w2 (st.keep e2)
 have dsp:∀ {w':World} {A:List zb} {R:T_c->Int->WP},St ⟨W,d.mp σ++m0⟩ (A++(d.cs σ++fr)) w'->(∀ sl rw_ fcs' w2,RowC 3 sl (t.2.flatMap wV) rw_->FdO σ.fv σ.sp (some ⟨log,0,s.at_,fed,σ.cfg.Window.toNat,[],none,false⟩) σ.f fcs'->St ⟨W,d.mp σ++m0⟩ (A++(rw_++(({d with fcs:=fcs'}:RD).cs σ++fr))) w2->R ⟨t.1,sl⟩ 0 w2)->C_z σ.f (s.g.mark:Int) w' R:=λ{w' A R} st kk=>by
  have st:St ⟨W,d.mp σ++m0⟩ (d.fcs++(A++(({d with fcs:=[]}:RD).cs σ++fr))) w':=st.pR;refine s_rb (λq hq=>fvm hq) I.feed st λsl rw_ fcs' w2 ro _ fo st=> ?_;rw [hr] at ro fo ⊢;exact kk sl rw_ fcs' w2 ro fo (st.pR)
 refine⟨N_,λ_=>⟨N_,λ_=>λw2 e2=> ?_⟩⟩;have st:=st.drew e2;refine⟨rfl,_,cb st,rfl,σ.f,cr st rfl,rfl,⟨_⟩,⟨cb st,trivial⟩,mk st λw3 st=>⟨cr st rfl,cb st,dsp st λsl rw_ fcs' w4 ro fo st=>λb2 w5 hb3 hw5=> ?_,λb3 w4 hb3 hw4=> ?_⟩,λb4 w3 hb4 hw3=> ?_⟩
 ·have st:=st.alloc (cs:=txW 0 ⟨none,0,0⟩) hb3 hw5;exact⟨st.writable 0,λw6 hw6=>D_k0 I h L hb2 ci hb h1 fo ro (st.put0 hw6) k⟩
 ·have st:St ⟨W,d.mp σ++m0⟩ ([(b3,txW 0 ⟨none,0,0⟩),(b_,evV ev0)]++(d.cs σ++fr)) w4:=st.alloc (cs:=txW 0 ⟨none,0,0⟩) hb3 hw4;refine⟨cr st rfl,cb st,dsp st λsl rw_ fcs' w5 ro fo st=> ?_⟩;exact⟨st.writable 0,λw6 hw6=>D_k0 I h L hb2 ci hb h1 fo ro (st.put0 hw6) k⟩
 ·have st:St ⟨W,d.mp σ++m0⟩ ([(b4,txW 0 ⟨none,0,0⟩),(b_,evV ev0)]++(d.cs σ++fr)) w3:=st.alloc (cs:=txW 0 ⟨none,0,0⟩) hb4 hw3;refine⟨⟨cb st,trivial⟩,cr st rfl,cb st,mk st λw4 st=>⟨cr st rfl,cb st,dsp st λsl rw_ fcs' w5 ro fo st=> ?_⟩⟩;exact⟨st.writable 0,λw6 hw6=>D_k0 I h L hb2 ci hb h1 fo ro (st.put0 hw6) k⟩
end
set_option maxHeartbeats 4000000
section
variable {W:World} {m0:List (Nat×Obj)} {w:World} {fr:List zb} {σ:RS} {d:RD} {log:List Tx} {fed:Nat} {s:TS}
def z4o (σ:RS) (LB:List (List zb)) (lanes:List (Option LJ)):Prop:=∀(i:Nat) o,lanes[i]? =some o->∃ p bs h,σ.lp[i]? =some p/\LB[i]? =some bs/\LnO p (some ⟨(i:Int)+1,σ.cfg,h⟩) bs/\LRel o h
theorem zVe {LB:List (List zb)} {lanes:List (Option LJ)} {i:Nat} {p:OA} {bs bs':List zb} {o':Option LJ} {h':Option LHd} (H:z4o σ LB lanes) (hbs:LB[i]? =some bs) (hp:σ.lp[i]? =some p) (lo:LnO p (some ⟨(i:Int)+1,σ.cfg,h'⟩) bs') (lr:LRel o' h'):z4o σ (LB.set i bs') (lanes.set i o'):=λj o ho=>by
 by_cases hij:i=j
 ·subst hij
  have hil:i<lanes.length:=by
   have:=(gSo ho).1
   rwa [aK] at this
  rw [aL hil] at ho;obtain rfl:=aE ho;exact⟨p,bs',h',hp,aL (gSo hbs).1,lo,lr⟩
 ·rw [aT hij] at ho;obtain⟨p,bs,h,a,b,c,e⟩:=H j o ho;exact⟨p,bs,h,a,by rw [aT hij]; exact b,c,e⟩
theorem zrg {OB:List (List zb)} {SB:List (List (Nat×Obj))} {Q:List (List QE)} {Ms:List SM} {i:Nat} {p:OA} {bs bs':List zb} {sm sm':List (Nat×Obj)} {q':List QE} {M':SM} (H:OwnP σ OB SB Q Ms) (hbs:OB[i]? =some bs) (hsm:SB[i]? =some sm) (hp:σ.op[i]? =some p)
    (oo:zSb p M' σ.cfg.Queue.toNat (q'.map QE.req) sm' bs'):OwnP σ (OB.set i bs') (SB.set i sm') (Q.set i q') (Ms.set i M'):=λj q l hq hl=>by
 by_cases hij:i=j
 ·subst hij
  have h1:i<Q.length:=by
   have:=(gSo hq).1
   rwa [aK] at this
  have h2:i<Ms.length:=by
   have:=(gSo hl).1
   rwa [aK] at this
  rw [aL h1] at hq;rw [aL h2] at hl;obtain rfl:=aE hq;obtain rfl:=aE hl;exact⟨p,bs',sm',hp,aL (gSo hbs).1,aL (gSo hsm).1,oo⟩
 ·rw [aT hij] at hq hl;obtain⟨p,bs,sm,a,b,c,e⟩:=H j q l hq hl;exact⟨p,bs,sm,a,by rw [aT hij]; exact b,by rw [aT hij]; exact c,e⟩
theorem zvb {α:Type} {l:List α} {i:Nat} {x y:α} (h:y∈l.set i x):y∈l\/y=x:=cK h
theorem XtI.push {x:RX} {Q:List (List QE)} {Ms:List SM} {C:List CS} {qs:List (List (Nat×IW))} {inst:List (List IW)} {k:Nat} {q:List QE} {e:QE} (X:XtI σ x Q Ms C qs inst) (hq:Q[k]? =some q) (he:e.ok C.length) :
    XtI σ x (Q.set k (q++[e])) Ms C (qs.set k ((q++[e]).filterMap QE.iw)) inst :=
 ⟨by rw [aK]; exact X.ql,X.ml,by rw [cV,X.qq],λq' hq' y hy=>by
  rcases zvb hq' with h | rfl
  ·exact X.qz q' h y hy
  ·rcases aG.1 hy with hy | hy
   ·exact X.qz q (mG hq) y hy
   ·have:y=e:=by simpa using hy
    rw [this]; exact he,X.sto,X.non,X.disk,X.cal,X.cn⟩
theorem zkm {l:List Nat} {i x y:Nat} (h:l[i]? =some x):(l.set i y).sum+x=l.sum+y:=by
 induction l generalizing i with
 | nil=>simp at h
 | cons a l ih =>
  cases i with
  | zero =>
   have:a=x:=by simpa using h
   simp [this]; omega
  | succ i =>
   have:=ih (i:=i) (by simpa using h);simp only [cS,gE]; omega
theorem zWe {i k:Nat} {Q:List (List QE)} {q q':List QE} (h:Q[k]? =some q):cntQ i (Q.set k q')+q.countP (QE.of i)=cntQ i Q+q'.countP (QE.of i):=by
 unfold cntQ;rw [cV];exact zkm (by rw [aF,h]; rfl)
theorem zE {α:Type} {l:List α} {i j:Nat} {x y:α} (h:(l.set i x)[j]? =some y):(j=i/\y=x)\/(j≠i/\l[j]? =some y):=by
 by_cases hij:i=j
 ·subst hij;rw [aL (by have:=(gSo h).1; rwa [aK] at this)] at h;exact .inl ⟨rfl,(aE h).symm⟩
 ·rw [aT hij] at h;exact .inr ⟨λe=>hij e.symm,h⟩
theorem CI.push {mark:Nat} {Q:List (List QE)} {Ms:List SM} {C:List CS} {inst:List (List IW)} {p k:Nat} {q:List QE} {s:Slc} {i:Nat} {z:IW} (c:CI mark Q Ms C inst p) (hq:Q[k]? =some q):CI mark (Q.set k (q++[.ins s i z])) Ms C inst p :=
 ⟨c.il,c.ip,λj cs hj=>by
  obtain⟨a1,a2,a3,a4,a5,a6⟩:=c.co j cs hj;have hc:=zWe (i:=j) (q':=q++[.ins s i z]) hq;rw [eT] at hc;have h0:[QE.ins s i z].countP (QE.of j)=0:=rfl;refine⟨O_,a2,a3,a4,λh3 q' hq' s' x' hx=> ?_,λhb h3 k' q' M hk hM=> ?_⟩
  ·rcases zvb hq' with h | rfl
   ·exact a5 h3 q' h s' x' hx
   ·rcases aG.1 hx with hx | hx
    ·exact a5 h3 q (mG hq) s' x' hx
    ·simp at hx
  ·rcases zE hk with ⟨rfl,rfl⟩ | ⟨_,hk⟩
   ·rcases a6 hb h3 k' q M hq hM with h | ⟨e,he,h⟩ | h
    ·exact .inl h
    ·exact .inr (.inl ⟨e,bB _ he,h⟩)
    ·exact .inr (.inr h)
   ·exact a6 hb h3 k' q' M hk hM⟩
theorem zac {α:Type} {l:List α} {i:Nat} {x:α} (h:l[i]? =some x):l.set i x=l:=by
 obtain⟨h1,rfl⟩:=gSo h;exact List.set_getElem_self h1
theorem zcl (h:phi log fed s<=4521984):s.line.length*3<=4521984/\s.gone.length<=4521984:=by
 have h3:sm (λt=>3+2*cw t) s.line>=s.line.length*3:=by
  have:∀ l:List Tx,l.length*3<=sm (λt=>3+2*cw t) l:=λl=>by
   induction l with
   | nil=>exact bU _
   | cons x l ih=>rw [sm_cons,aV]; omega
  exact this _
 unfold phi at h;omega
theorem crb {mp:List (Nat×Obj)} {A:List zb} {o:Nat} {v:Value} (st:St ⟨W,mp⟩ (A++(d.cs σ++fr)) w) (hv:(repV σ d.x d.line d.gone)[o]? =some v):w.cell? ⟨σ.rb,o,none⟩=some v :=
 (st.blk (σ.rb,_) (aH _ (bB _ (aI ..)))).cell hv
theorem cfx {mp:List (Nat×Obj)} {A:List zb} {b o:Nat} {cs:List Value} {v:Value} (st:St ⟨W,mp⟩ (A++(d.cs σ++fr)) w) (hb:(b,cs)∈σ.fx) (hv:cs[o]? =some v):w.cell? ⟨b,o,none⟩=some v :=
 (st.blk (b,cs) (aH _ (RD.fxm hb))).cell hv
theorem s_Vc {b i:Nat} {p:OA} {R:T_a->WP} (S:SO W m0 fr σ log fed d s w) (hb:(b,[aP σ.rb,pP p])∈σ.fx) (hp:σ.lp[i]? =some p) (h1:s.lanes[i]? =some none) (h2:0<s.line.length)
    (k:∀ ev d' s' w',SO W m0 fr σ log fed d' s' w'->Nx log fed d s d' s'->R ev w'):C_J (Z0 b) 4 w R:=by
 obtain⟨I,h,st,L,hb2,ci⟩:=S;apply S_g;unfold F_Vb;intro b_ w1 hb_ hw1;have st:St ⟨W,d.mp σ++m0⟩ ([(b_,evV ev0)]++(d.cs σ++fr)) w1:=st.alloc (cs:=evV ev0) hb_ hw1;obtain⟨p',bs,hh,hp',hbs,lo,lr⟩:=I.lane i none h1;obtain rfl:=aE (hp.symm.trans hp')
 have hh0:hh=none:=by cases hh with
  | none=>rfl
  | some x=>cases lr
 subst hh0;have hll:=zXe I
 obtain⟨⟨t,sl⟩,r,hdl⟩:∃ z r,d.ll=z::r:=by
  cases hd:d.ll with
  | nil=>have:=I.lines; rw [hd] at this; rw [this] at h2; cases h2
  | cons z r=>exact⟨z,r,rfl⟩
 have hsl:s.line=t::r.map (·.1):=by rw [I.lines,hdl]; rfl
 have hin:=I.lin (t,sl) (by rw [hdl]; exact aI ..);have hinl:sl.len=t.2.length:=hin.len;have htm:t∈log:=cT (h.txs t (aH _ (by rw [hsl]; exact aI ..)));have hok:=L.ok t htm;have hrow:=I.line;rw [hdl] at hrow;have hcap:=hrow.cap_le;have hlen1:1<=d.line.len:=by rw [hll]; exact h2
 have src:zj w1 d.line 2 (((t,sl)::r).flatMap txC):=hrow.src (l:=[(b_,evV ev0)]++(({d with lb:=[]}:RD).cs σ++fr)) (w0:=⟨W,d.mp σ++m0⟩) (st.pR);obtain⟨ia,z,hz,hc⟩:=src.getN zaf O_ (i:=0) O_ O_;obtain rfl:(t,sl)=z:=aE hz;have hc:zf w1 (pblk d.line.ptr) (poff d.line.ptr) (txW t.1 sl):=hc;refine⟨λ_=>⟨rfl,_,cfx st hb rfl,rfl,d.line,crb st rfl,ia,O_,O_,⟨t.1,sl⟩,hc,λb1 w2 hb1 hw2=> ?_⟩,N_⟩;have st:St ⟨W,d.mp σ++m0⟩ ([(b1,txW 0 ⟨none,0,0⟩),(b_,evV ev0)]++(d.cs σ++fr)) w2:=st.alloc (cs:=txW 0 ⟨none,0,0⟩) hb1 hw2;refine⟨st.writable 0,λw3 hw3 w4 e4=> ?_⟩;have st:St ⟨W,d.mp σ++m0⟩ ([(b1,txW t.1 sl),(b_,evV ev0)]++(d.cs σ++fr)) w4:=(st.put0 hw3).drew e4;refine⟨rfl,_,cfx st hb rfl,rfl,_,cfx st hb rfl,rfl,d.line,crb st rfl,⟨O_,O_,O_,O_⟩,λln hln=> ?_⟩;have hcut:=hrow.cut (lo:=1) (hi:=((d.line.len:Nat):Int)) (mx:=((d.line.cap:Nat):Int)) O_ O_ O_ O_ O_;rw [<-hln] at hcut;have hrl:=hrow.len;rw [zc zaf,aV] at hrl
 have ecut:(((((t,sl)::r).flatMap txC).drop ((1:Int).toNat*2)).take ((((d.line.len:Nat):Int).toNat - (1:Int).toNat)*2))=r.flatMap txC:=by
  rw [aY,eD (by rfl),bF (by rw [zc zaf,tN]; show r.length*2<=(d.line.len - 1)*2; omega)]
 rw [ecut] at hcut;obtain⟨d1,hd1⟩:∃ d1:RD,d1={d with line:=ln,ll:=r}:=⟨_,rfl⟩
 have st':St ⟨W,d.mp σ++m0⟩ ((σ.rb,repV σ d.x d.line d.gone)::(([(b1,txW t.1 sl),(b_,evV ev0)]++(d.fcs++(d.dcs++(d.gcs++(fl d.LB++(fl d.OB++(d.lb++(d.gb++(d.PB++(d.x.yb++σ.fx))))))))))++fr)) w4:=st.pR;refine⟨rfl,st'.writable 0,λw5 hw5 w6 e6=> ?_⟩;have st:St ⟨W,d.mp σ++m0⟩ ((σ.rb,repV σ d.x ln d.gone)::(([(b1,txW t.1 sl),(b_,evV ev0)]++(d.fcs++(d.dcs++(d.gcs++(fl d.LB++(fl d.OB++(d.lb++(d.gb++(d.PB++(d.x.yb++σ.fx))))))))))++fr)) w6:=(st'.put0 hw5).drew e6
 have st:St ⟨W,d1.mp σ++m0⟩ ([(b1,txW t.1 sl),(b_,evV ev0)]++(d1.cs σ++fr)) w6:=by
  subst hd1;exact st.pR
 have hbs1:d1.LB[i]? =some bs:=by rw [hd1]; exact hbs
 have hPB1:d1.PB=d.PB:=by rw [hd1]
 have stl:St ⟨W,d1.mp σ++m0⟩ (bs++([(b1,txW t.1 sl),(b_,evV ev0)]++(({d1 with LB:=d1.LB.eraseIdx i}:RD).cs σ++fr))) w6:=st.perm (za λf_=>by have h1_:=zM f_ hbs1; simp [RD.cs,RD.mp] <;> omega)
 have hsr:∀ {l':List zb} {w':World},St ⟨W,d1.mp σ++m0⟩ (l'++([(b1,txW t.1 sl),(b_,evV ev0)]++(({d1 with LB:=d1.LB.eraseIdx i}:RD).cs σ++fr))) w'->zj w' sl 3 (t.2.flatMap wV):=λ{l' w'} st=>by
  refine hin.src (λc hc=> ?_) st;have hc:c∈({d1 with LB:=d1.LB.eraseIdx i}:RD).PB:=by rw [hd1]; exact hc
  exact aH _ (aH _ (RD.pbm hc))
 have hsll:sl.len<=140737488351232:=by have:=hok.2.2.1; omega
 refine⟨rfl,p,cfx st hb rfl,⟨t.1,sl⟩,(st.get 0 rfl).all,?_⟩;refine s_9b (t:=⟨t.1,sl⟩) (ws:=t.2) lo stl hsr hsll hin.cap λbs' w7 lo' st=> ?_
 have htk:zlh (some ⟨(i:Int)+1,σ.cfg,none⟩) t.1 t.2=(some ⟨(i:Int)+1,σ.cfg,some ⟨t.1,z8 t.2,0,0⟩⟩,0):=by
  unfold zlh;simp only [if_pos hok]
 rw [htk] at lo';obtain⟨hi,hph⟩:=zDl h hsl h1;have st:St ⟨W,({d1 with LB:=d1.LB.set i bs'}:RD).mp σ++m0⟩ ([(b1,txW t.1 sl),(b_,evV ev0)]++(({d1 with LB:=d1.LB.set i bs'}:RD).cs σ++fr)) w7:=st.perm (za λf_=>by have h1_:=zUd (y:=bs') f_ hbs1; simp [RD.cs,RD.mp] <;> omega);refine⟨t.1,st.cell 0 rfl rfl,st.writable 1,λw8 hw8=> ?_⟩;have st:=st.put1 hw8;refine⟨⟨0,0,t.1,0,0,0⟩,(st.get 1 rfl).all,k _ {d1 with LB:=d1.LB.set i bs'} (tkS i t (r.map (·.1)) s) w8 ⟨?_,hi,st.drop1.drop1,L,O_,by subst hd1; exact ci⟩ (by subst hd1; exact⟨rfl,rfl,dN _,.inl hph⟩)⟩;subst hd1;refine { ok:=I.ok,feed:=I.feed,deps:=I.deps,top:=I.top,gate:=I.gate,ll:= ?_,lB:= ?_,lane:=zVe (σ:=σ) I.lane hbs hp lo' ?_,ol:=I.ol,il:=I.il,oB:=I.oB,sB:=I.sB,own:=I.own,qgood:=I.qgood,igood:=I.igood,line:=hcut,lines:=rfl,lin:=λz hz=>I.lin z (by rw [hdl]; exact aJ _ hz),wok:=I.wok,pend:=I.pend,gone:=I.gone,xt:=I.xt }
 ·show(s.lanes.set i _).length=_;rw [aK]; exact I.ll
 ·show(d.LB.set i bs').length=_;rw [aK]; exact I.lB
 ·exact⟨rfl,rfl,rfl,λx hx=>hok.2.2.2 x (zZe hx),hok.2.1,zgk hok⟩
theorem s_Wc {b i:Nat} {p:OA} {n:Int} {R:T_a->WP} (S:SO W m0 fr σ log fed d s w) (hb:(b,[aP σ.rb,pP p])∈σ.fx) (hp:σ.lp[i]? =some p) (h1:s.lanes[i]? =some (some ⟨n,[],0⟩))
    (k:∀ ev d' s' w',SO W m0 fr σ log fed d' s' w'->Nx log fed d s d' s'->R ev w'):C_J (Z0 b) 6 w R:=by
 obtain⟨I,h,st,L,hb2,ci⟩:=S;apply S_g;unfold F_Vb;intro b_ w1 hb_ hw1;have st:St ⟨W,d.mp σ++m0⟩ ([(b_,evV ev0)]++(d.cs σ++fr)) w1:=st.alloc (cs:=evV ev0) hb_ hw1;obtain⟨p',bs,hh,hp',hbs,lo,lr⟩:=I.lane i _ h1;obtain rfl:=aE (hp.symm.trans hp');cases hh with
 | none=>cases lr
 | some hh =>
 obtain⟨j1,j2,j3,jg,jn,ok⟩:=lr;have j1:n=hh.n:=j1;have j2:([]:List Wr)=hh.ws.drop hh.sent:=j2;have j3:0=hh.sent - hh.acked:=j3
 have hs:hh.acked=hh.ws.length:=by
  have:=congrArg List.length j2;rw [eC,bJ] at this;have:=ok.s;have:=ok.a;omega
 have hdn:zDg (some ⟨(i:Int)+1,σ.cfg,some hh⟩)=(some ⟨(i:Int)+1,σ.cfg,none⟩,n,0):=by
  unfold zDg;simp only [if_pos hs,j1]
 have stl:St ⟨W,d.mp σ++m0⟩ (bs++([(b_,evV ev0)]++(({d with LB:=d.LB.eraseIdx i}:RD).cs σ++fr))) w1:=st.perm (za λf_=>by have h1_:=zM f_ hbs; simp [RD.cs,RD.mp] <;> omega);refine⟨N_,λ_=>⟨N_,λ_=>⟨rfl,p,cfx st hb rfl,s_8b lo stl λbs' w2 lo' st=> ?_⟩⟩⟩;rw [hdn] at lo' ⊢;intro w3 e3;obtain⟨d1,hd1⟩:∃ d1:RD,d1={d with LB:=d.LB.set i bs'}:=⟨_,rfl⟩
 have st:St ⟨W,d1.mp σ++m0⟩ ([(b_,evV ev0)]++(d1.cs σ++fr)) w3:=by
  subst hd1;exact(st.perm (za λf_=>by have h1_:=zUd (y:=bs') f_ hbs; simp [RD.cs,RD.mp] <;> omega)).drew e3
 refine⟨rfl,_,cfx st hb rfl,rfl,_,cfx st hb rfl,rfl,d1.gone,crb st rfl,λb3 w4 hb3 hw4=> ?_⟩;have st4:St ⟨W,d1.mp σ++m0⟩ ([(b3,[Vi n]),(b_,evV ev0)]++(d1.cs σ++fr)) w4:=st.alloc (cs:=[Vi n]) hb3 hw4;refine⟨crb st4 rfl,cfx st4 hb rfl,cfx st4 hb rfl,[Vi n],zS hb3 hw4 rfl,?_⟩;have hgl:d1.gone=d.gone:=by rw [hd1]
 have hgn:=I.gone;have hgl2:=hgn.len;rw [lM,aW] at hgl2;have hbn:=(zcl hb2).2;rw [hgl]
 have st5:St ⟨W,d1.mp σ++m0⟩ (d.gb++([(b_,evV ev0)]++(({d1 with gb:=[]}:RD).cs σ++fr))) w4:=by
  have:=st4.drop1;subst hd1;exact this.pR
 refine hgn.append st5 rfl rfl rfl (by show(d.gone.len+1)*8<=_; omega) λgn gb' w5 ro' st hlen=> ?_;have st':St ⟨W,d1.mp σ++m0⟩ ((σ.rb,repV σ d1.x d1.line d1.gone)::(([(b_,evV ev0)]++(d1.fcs++(d1.dcs++(d1.gcs++(fl d1.LB++(fl d1.OB++(d1.lb++(gb'++(d1.PB++(d1.x.yb++σ.fx))))))))))++fr)) w5:=st.pR;refine⟨(st'.blk (b,[aP σ.rb,pP p]) (by simp [hb])).cell rfl,rfl,st'.writable 0,λw6 hw6=> ?_⟩;have st:St ⟨W,d1.mp σ++m0⟩ ((σ.rb,repV σ d1.x d1.line gn)::(([(b_,evV ev0)]++(d1.fcs++(d1.dcs++(d1.gcs++(fl d1.LB++(fl d1.OB++(d1.lb++(gb'++(d1.PB++(d1.x.yb++σ.fx))))))))))++fr)) w6:=st'.put0 hw6;have st:St ⟨W,({d1 with gone:=gn,gb:=gb'}:RD).mp σ++m0⟩ ([(b_,evV ev0)]++(({d1 with gone:=gn,gb:=gb'}:RD).cs σ++fr)) w6:=st.pR;obtain⟨hi,hph⟩:=zFl h h1;refine⟨st.writable 0,λw7 hw7=> ?_⟩;have st:=st.put0 hw7;refine⟨⟨0,0,n,0,0,0⟩,(st.get 0 rfl).all,k _ {d1 with gone:=gn,gb:=gb'} (dnS i n s) w7 ⟨?_,hi,st.drop1,L,O_,by subst hd1; exact ci⟩ (by subst hd1; exact⟨rfl,rfl,dN _,.inl hph⟩)⟩;subst hd1;refine { ok:=I.ok,feed:=I.feed,deps:=I.deps,top:=I.top,gate:=I.gate,ll:= ?_,lB:= ?_,lane:=zVe (σ:=σ) (h':=none) I.lane hbs hp lo' trivial,ol:=I.ol,il:=I.il,oB:=I.oB,sB:=I.sB,own:=I.own,qgood:=I.qgood,igood:=I.igood,line:=I.line,lines:=I.lines,lin:=I.lin,wok:=I.wok,pend:=I.pend,gone:= ?_,xt:=I.xt }
 ·show(s.lanes.set i _).length=_;rw [aK]; exact I.ll
 ·show(d.LB.set i bs').length=_;rw [aK]; exact I.lB
 ·show RowC 1 gn ((s.gone++[n]).map Vi) gb';rw [aR]; exact ro'
theorem s_Xc {b i:Nat} {p:OA} {n:Int} {x:Wr} {r:List Wr} {o:Nat} {q:List QE} {R:T_a->WP} (S:SO W m0 fr σ log fed d s w) (hb:(b,[aP σ.rb,pP p])∈σ.fx) (hp:σ.lp[i]? =some p) (h1:s.lanes[i]? =some (some ⟨n,x::r,o⟩)) (h2:d.Q[shN σ.cfg x.Key]? =some q) (h3:q.length<σ.cfg.Queue.toNat)
    (k:∀ ev d' s' w',SO W m0 fr σ log fed d' s' w'->Nx log fed d s d' s'->R ev w'):C_J (Z0 b) 5 w R:=by
 obtain⟨I,h,st,L,hb2,ci⟩:=S;apply S_g;unfold F_Vb;intro b_ w1 hb_ hw1;have st:St ⟨W,d.mp σ++m0⟩ ([(b_,evV ev0)]++(d.cs σ++fr)) w1:=st.alloc (cs:=evV ev0) hb_ hw1;obtain⟨p',bs,hh,hp',hbs,lo,lr⟩:=I.lane i _ h1;obtain rfl:=aE (hp.symm.trans hp');cases hh with
 | none=>cases lr
 | some hh =>
 obtain⟨j1,j2,j3,jg,jn,ok⟩:=lr;have j1:n=hh.n:=j1;have j2:x::r=hh.ws.drop hh.sent:=j2;have j3:o=hh.sent - hh.acked:=j3
 have hx:hh.ws[hh.sent]? =some x:=by
  have:=congrArg (λl=>l[0]?) j2;simp only [cA,dK,eE] at this;exact this.symm
 have hsl:=(gSo hx).1;have hgx:=jg x (mG hx)
 have hnx:zEc (some ⟨(i:Int)+1,σ.cfg,some hh⟩)=((zkb σ.cfg x.Key).1,zje ((i:Int)+1) n x,true):=by
  unfold zEc; simp only [hx,j1]
 have hst:zmh (some ⟨(i:Int)+1,σ.cfg,some hh⟩)=(some ⟨(i:Int)+1,σ.cfg,some ⟨hh.n,hh.ws,hh.sent+1,hh.acked⟩⟩,0):=by
  unfold zmh; simp only [if_pos hsl]
 obtain⟨r1,r2⟩:=zbf I.ok.cfg hgx;have hcast:(zkb σ.cfg x.Key).1=((shN σ.cfg x.Key:Nat):Int):=by unfold shN; omega
 have stl:St ⟨W,d.mp σ++m0⟩ (bs++([(b_,evV ev0)]++(({d with LB:=d.LB.eraseIdx i}:RD).cs σ++fr))) w1:=st.perm (za λf_=>by have h1_:=zM f_ hbs; simp [RD.cs,RD.mp] <;> omega);refine⟨N_,λ_=>⟨λ_=>⟨rfl,p,cfx st hb rfl,s_L lo stl λw2 st=> ?_⟩,N_⟩⟩;rw [hnx,hcast];intro b2 w3 hb3 hw3;have st:St ⟨W,d.mp σ++m0⟩ ([(b2,reqV zeroReq),(b_,evV ev0)]++(d.cs σ++fr)) w3:=(st.alloc (cs:=reqV zeroReq) hb3 hw3).perm (List.Perm.symm (za λf_=>by have h1_:=zM f_ hbs; simp [RD.cs,RD.mp] <;> omega));refine⟨st.writable 0,λw4 hw4 w5 e5=> ?_⟩;have st:St ⟨W,d.mp σ++m0⟩ ([(b2,reqV (zje ((i:Int)+1) n x)),(b_,evV ev0)]++(d.cs σ++fr)) w5:=(st.put0 hw4).drew e5;obtain⟨ob,hor,hof⟩:=I.ok.orow;have hkl:=(gSo h2).1;obtain⟨l,hl⟩:∃ l,d.M[shN σ.cfg x.Key]? =some l:=⟨_,aA (by have:=I.xt.ml; have:=I.xt.ql; omega)⟩
 obtain⟨po,obs,sm,hpo,hobs,hsm,oo⟩:=I.own _ q l h2 hl;obtain⟨a1,a2,a3⟩:=(hor.srcM (λc hc=>aH _ (RD.fxm (hof c hc))) st).at1 (i:=shN σ.cfg x.Key) (v:=pP po) (by rw [aF,hpo]; rfl);refine⟨rfl,_,cfx st hb rfl,rfl,σ.osl,crb st rfl,a1,O_,O_,po,by rw [tN]; exact a3,zje ((i:Int)+1) n x,(st.get 0 rfl).all,?_⟩;have stm:St ⟨W,sm++(({d with SB:=d.SB.eraseIdx (shN σ.cfg x.Key)}:RD).mp σ++m0)⟩ ([(b2,reqV (zje ((i:Int)+1) n x)),(b_,evV ev0)]++(d.cs σ++fr)) w5:=st.mperm (za λf_=>by have h1_:=zM f_ hsm; simp [RD.cs,RD.mp] <;> omega);have sto:St _ (obs++([(b2,reqV (zje ((i:Int)+1) n x)),(b_,evV ev0)]++(({d with OB:=d.OB.eraseIdx (shN σ.cfg x.Key)}:RD).cs σ++fr))) w5:=stm.perm (za λf_=>by have h1_:=zM f_ hobs; simp [RD.cs,RD.mp] <;> omega);refine s_K (r:=zje ((i:Int)+1) n x) (bey:=[]) oo sto (λ_=>RowC.nil.src (bs:=[]) (by assumption)) (by simp) (λst hR=>s_5b (s:=⟨none,0,0⟩) st O_ (by have:=ok.n; omega) hgx rfl hR) (by rw [lM]; exact h3) λs' obs' w6 hs' oo' st=> ?_;obtain⟨d1,hd1⟩:∃ d1:RD,d1={d with OB:=d.OB.set (shN σ.cfg x.Key) obs',Q:=d.Q.set (shN σ.cfg x.Key) (q++[.ins s' i (n,x)])}:=⟨_,rfl⟩
 have st:St ⟨W,d1.mp σ++m0⟩ ([(b2,reqV (zje ((i:Int)+1) n x)),(b_,evV ev0)]++(d1.cs σ++fr)) w6:=by
  have st1:=st.mperm (mp':=d.mp σ++m0) (List.Perm.symm (za λf_=>by have h1_:=zM f_ hsm; simp [RD.cs,RD.mp] <;> omega));subst hd1;exact st1.perm (za λf_=>by have h1_:=zUd (y:=obs') f_ hobs; simp [RD.cs,RD.mp] <;> omega)
 have hbs1:d1.LB[i]? =some bs:=by rw [hd1]; exact hbs
 have stl:St ⟨W,d1.mp σ++m0⟩ (bs++([(b2,reqV (zje ((i:Int)+1) n x)),(b_,evV ev0)]++(({d1 with LB:=d1.LB.eraseIdx i}:RD).cs σ++fr))) w6:=st.perm (za λf_=>by have h1_:=zM f_ hbs1; simp [RD.cs,RD.mp] <;> omega);refine⟨rfl,p,cfx st hb rfl,s_7b lo stl λbs' w7 lo' st=> ?_⟩;rw [hst] at lo';have st7:St ⟨W,({d1 with LB:=d1.LB.set i bs'}:RD).mp σ++m0⟩ ([(b2,reqV (zje ((i:Int)+1) n x)),(b_,evV ev0)]++(({d1 with LB:=d1.LB.set i bs'}:RD).cs σ++fr)) w7:=st.perm (za λf_=>by have h1_:=zUd (y:=bs') f_ hbs1; simp [RD.cs,RD.mp] <;> omega);refine⟨rfl,p,cfx st7 hb rfl,s_j lo' st ?_⟩;have hqs:s.qs[shN σ.cfg x.Key]? =some (q.filterMap QE.iw):=by rw [I.xt.qq,aF,h2]; rfl
 obtain⟨hi,hph⟩:=zEl h h1 hqs rfl (dI (List.length_filterMap_le ..) h3);refine⟨st7.writable 1,λw8 hw8=> ?_⟩;have st:=st7.put1 hw8;refine⟨⟨0,0,hh.n,((shN σ.cfg x.Key:Nat):Int),0,0⟩,(st.get 1 rfl).all,k _ {d1 with LB:=d1.LB.set i bs'} (sdS i (shN σ.cfg x.Key) n x r o (q.filterMap QE.iw) s) w8 ⟨?_,hi,st.drop1.drop1,L,O_,?_⟩ (by subst hd1; exact⟨rfl,rfl,dN _,.inl hph⟩)⟩
 rotate_left
 ·subst hd1; exact ci.push h2
 subst hd1
 have hown:=zrg (σ:=σ) (q':=q++[.ins s' i (n,x)]) (M':=l) (sm':=sm) I.own hobs hsm hpo (by
  rw [aR]; exact oo')
 rw [zac hl,zac hsm] at hown;have hxt:=I.xt.push (e:= .ins s' i (n,x)) h2 hs';rw [fB] at hxt;refine { ok:=I.ok,feed:=I.feed,deps:=I.deps,top:=I.top,gate:=I.gate,ll:= ?_,lB:= ?_,lane:=zVe (σ:=σ) I.lane hbs hp lo' ?_,ol:= ?_,il:= ?_,oB:= ?_,sB:=I.sB,own:=hown,qgood:=λq' hq' z hz=> ?_,igood:=I.igood,line:=I.line,lines:=I.lines,lin:=I.lin,wok:=I.wok,pend:=I.pend,gone:=I.gone,xt:=hxt }
 ·show(s.lanes.set i _).length=_;rw [aK]; exact I.ll
 ·show(d.LB.set i bs').length=_;rw [aK]; exact I.lB
 ·refine⟨j1,?_,?_,jg,jn,⟨by show hh.sent+1<=hh.ws.length; omega,by show hh.acked<=hh.sent+1; have:=ok.a; omega,ok.n,ok.l,ok.k⟩⟩
  ·show r=hh.ws.drop (hh.sent+1);have:=congrArg (λl=>l.drop 1) j2;simpa [fS] using this
  ·show o+1=hh.sent+1 - hh.acked;have:=ok.a; omega
 ·show(s.qs.set _ _).length=_;rw [aK]; exact I.ol
 ·show s.inst.length=(s.qs.set _ _).length;rw [aK]; exact I.il
 ·show(d.OB.set _ obs').length=_;rw [aK]; exact I.oB
 ·rcases mem_set hq' with rfl | hq'
  ·rcases aG.1 hz with hz | hz
   ·exact I.qgood _ (mG hqs) z hz
   ·have:z=(i,n,x):=by simpa using hz
    rw [this];exact⟨hgx,by have:=ok.n; show 1<=n; omega,by show n<=65536; omega⟩
  ·exact I.qgood q' hq' z hz
end
set_option maxHeartbeats 4000000
theorem z7e (l:List IW) (z:IW):zch (l++[z])=(zch l).put z.2.Key (zGd z):=by unfold zch; rw [List.foldl_append]; rfl
theorem zlm {α:Type} {P:List α->Prop} (h0:P []) (h1:∀ l x,P l->P (l++[x])) (l:List α):P l:=by
 have:∀ r:List α,P r.reverse:=λr=>by
  induction r with
  | nil=>exact h0
  | cons x r ih=>rw [List.reverse_cons]; exact h1 _ _ ih
 have:=this l.reverse
 rwa [List.reverse_reverse] at this
theorem mem_put {M:SM} {k j:ByteArray} {x y:Ver}:y∈(M.put k x) j↔(j=k/\y=x)\/y∈M j:=by
 unfold SM.put;by_cases h:j=k
 ·subst h;rw [if_pos rfl];unfold zvg;rw [aG,aU];constructor
  ·rintro(h | h | h)
   ·exact .inr (cT h)
   ·exact .inl ⟨rfl,h⟩
   ·exact .inr (dM h)
  ·rintro(⟨_,h⟩ | h)
   ·exact .inr (.inl h)
   ·rw [<-bM (upF x.Number (M j)) (M j)] at h;rcases aG.1 h with h | h
    ·exact .inl h
    ·exact .inr (.inr h)
 ·rw [if_neg h];exact⟨.inr,λhh=>hh.resolve_left λe=>h e.1⟩
theorem zdj {x:Ver} {vs:List Ver} (hr:zhe vs) (hn:∀ y∈vs,y.Number≠x.Number):zhe (zvg x vs):=by
 have hd:∀ y∈vs.drop (upF x.Number vs),x.Number<y.Number:=λy hy=>by
  obtain⟨j,hj⟩:=bG.1 hy;rw [dK] at hj;have:=(zVc (at_:=x.Number) hr hj)
  omega
 have ht:∀ y∈vs.take (upF x.Number vs),y.Number<x.Number:=λy hy=>by
  obtain⟨j,hj⟩:=bG.1 hy;have hm:=cT hy;rw [dJ] at hj;split at hj
  ·rename_i hlt
   have:=(zVc (at_:=x.Number) hr hj).2 hlt;have:=hn y hm;omega
  ·cases hj
 unfold zvg zhe;refine List.pairwise_append.2 ⟨hr.sublist (List.take_sublist _ _),cZ.2 ⟨hd,hr.sublist (gV _ _)⟩,λa ha b hb=> ?_⟩;rcases aU.1 hb with rfl | hb
 ·exact ht a ha
 ·have:=ht a ha;have:=hd b hb;omega
theorem z9b {k:ByteArray} {y:Ver}:∀ l:List IW,y∈zch l k↔∃ z∈l,z.2.Key=k/\y=zGd z:=by
 refine zlm ⟨N_,λ⟨z,hz,_⟩=>(by cases hz)⟩ λl x ih=> ?_;rw [z7e,mem_put,ih];constructor
 ·rintro(⟨h1,h2⟩ | ⟨z,hz,h⟩)
  ·exact⟨x,by simp,h1.symm,h2⟩
  ·exact⟨z,bB _ hz,h⟩
 ·rintro⟨z,hz,h1,h2⟩;rcases aG.1 hz with hz | hz
  ·exact .inr ⟨z,hz,h1,h2⟩
  ·have:z=x:=by simpa using hz
   subst this;exact .inl ⟨h1.symm,h2⟩
abbrev zmm (z:IW):Prop:=zYc z.2/\1<=z.1/\z.1<=65536
theorem zYl {z:IW} (h:zmm z):mayV (zGd z)=true:=by
 obtain⟨⟨_,_,h3,h4⟩,h1,h2⟩:=h;have h3:(zGd z).Val.size<=1024:=h3;have h1:1<=(zGd z).Number:=h1;have h2:(zGd z).Number<=65536:=h2;have h4:(zGd z).Drop=true->(zGd z).Val.size=0:=h4;unfold mayV;rw [decide_eq_true h1,decide_eq_true h2,decide_eq_true h3];cases hd:(zGd z).Drop with
 | false=>rfl
 | true=>rw [decide_eq_true (h4 hd)]; rfl
theorem znm {vs:List Ver} {x:Ver} (h:okC 0 vs=true) (hx:mayV x=true) (h0:0<x.Number) (hn:∀ y∈vs,y.Number≠x.Number):okC 0 (zvg x vs)=true:=by
 obtain⟨hr,hm⟩:=zHb.1 h;refine zHb.2 ⟨zdj hr hn,λv hv=> ?_⟩;unfold zvg at hv;rcases aG.1 hv with hv | hv
 ·exact hm v (cT hv)
 ·rcases aU.1 hv with rfl | hv
  ·exact⟨h0,hx⟩
  ·exact hm v (dM hv)
theorem StO.put {M:SM} {l:List IW} {z:IW} (h:StO M l) (hz:zmm z) (hn:∀ y∈M z.2.Key,y.Number≠z.1):StO (M.put z.2.Key (zGd z)) (l++[z]):=λk=>by
 refine⟨?_,λy hy=> ?_⟩
 ·unfold SM.put;by_cases hk:k=z.2.Key
  ·subst hk;rw [if_pos rfl];exact znm (h _).1 (zYl hz) (by have:=hz.2.1; show 0<z.1; omega) hn
  ·rw [if_neg hk]; exact(h k).1
 ·rw [z7e,mem_put];rcases mem_put.1 hy with hy | hy
  ·exact .inl hy
  ·exact .inr ((h k).2 y hy)
theorem zKi:∀ {a b:List Int},a.Nodup->(∀ y∈a,y∈b)->a.length<=b.length
 | [],_,_,_=>bU _
 | x::a,b,hn,hs=>by
  obtain⟨h1,h2⟩:=dP.1 hn;have hx:=hs x (aI ..);have:=zKi (a:=a) (b:=b.erase x) h2 λy hy=>(List.mem_erase_of_ne (λe:y=x=>h1 (by rw [<-e]; exact hy))).2 (hs y (aJ _ hy));rw [List.length_erase_of_mem hx] at this;have hp:=List.length_pos_of_mem hx;rw [aV]; omega
theorem StO.len {M:SM} {l:List IW} (h:StO M l) (k:ByteArray):(M k).length<=l.length:=by
 obtain⟨h1,h2⟩:=h k
 have:=zKi (a:=(M k).map (·.Number)) (b:=l.map (·.1)) ((cN.2 ((zHb.1 h1).1.imp λh e=>by omega))) λy hy=>by
  obtain⟨v,hv,rfl⟩:=aQ.1 hy;obtain⟨z,hz,_,e⟩:=(z9b l).1 (h2 v hv);exact aQ.2 ⟨z,hz,by rw [e]; rfl⟩
 rwa [lM,lM] at this
theorem Few.put {M:SM} {n:Int} {k:ByteArray} {x:Ver} (h:Few M n) (hx:n<x.Number):Few (M.put k x) n:=λj=>by
 unfold SM.put;by_cases hj:j=k
 ·subst hj;rw [if_pos rfl];unfold zvg;have:=h j;rw [<-bM (upF x.Number (M j)) (M j),eT] at this;rw [eT,gC,if_neg (by simpa using hx)];omega
 ·rw [if_neg hj]; exact h j
theorem zdl {log:List Tx} {fed cap:Nat} {sh:ByteArray->Nat} {s:TS} (L:zId log) (h:TInv log fed cap sh s) {k:Nat} {l:List IW} (hl:s.inst[k]? =some l):l.length<=4521984:=by
 have h1:=zCb (f:=λl:List IW=>sm (λ_=>1) l) (mG hl);have ha:=h.all λ_=>1
 have one:∀ {α:Type} (l:List α),sm (λ_=>1) l=l.length:=λl=>by
  induction l with
  | nil=>rfl
  | cons x l ih=>rw [sm_cons,ih,aV]; omega
 have ht:zFg log fed (λ_=>1)<=sm (λt=>5+2*cw t) (log.take fed):=zAl λt _=>by
  rw [one];unfold prs;rw [lM];show cw t<=_;omega
 have hp:=z8l L fed;have hlen:=L.len;rw [one] at h1;omega
theorem XtI.serve {σ:RS} {x:RX} {Q:List (List QE)} {Ms:List SM} {C:List CS} {qs:List (List (Nat×IW))} {inst:List (List IW)} {k:Nat} {e:QE} {r:List QE} {M M':SM} {l l':List IW} (X:XtI σ x Q Ms C qs inst) (hq:Q[k]? =some (e::r)) (hM:Ms[k]? =some M) (hl:inst[k]? =some l) (hs:StO M' l') (hn:C=[]->M'=zch l') :
    XtI σ x (Q.set k r) (Ms.set k M') C (qs.set k (r.filterMap QE.iw)) (inst.set k l') :=
 ⟨by rw [aK]; exact X.ql,by rw [aK]; exact X.ml,by rw [cV,X.qq],λq' hq' y hy=>by
  rcases zvb hq' with h | rfl
  ·exact X.qz q' h y hy
  ·exact X.qz _ (mG hq) y (aJ _ hy),λi N m hN hm=>by
  rcases zE hN with ⟨rfl,rfl⟩ | ⟨hne,hN⟩
  ·rcases zE hm with ⟨_,rfl⟩ | ⟨hne,_⟩
   ·exact hs
   ·exact absurd rfl hne
  ·rcases zE hm with ⟨e,_⟩ | ⟨_,hm⟩
   ·exact absurd e hne
   ·exact X.sto i N m hN hm,λhC=>by rw [cV,<-X.non hC,hn hC],X.disk,X.cal,X.cn⟩
theorem CI.serve {mark:Nat} {Q:List (List QE)} {Ms:List SM} {C:List CS} {inst:List (List IW)} {p k:Nat} {s:Slc} {i:Nat} {z:IW} {r:List QE} {M:SM} {l:List IW} (c:CI mark Q Ms C inst p) (hq:Q[k]? =some (.ins s i z::r)) (hM:Ms[k]? =some M) (hl:inst[k]? =some l) (hz:(mark:Int)<z.1) (hp:p<1000) :
    CI mark (Q.set k r) (Ms.set k (M.put z.2.Key (zGd z))) C (inst.set k (l++[z])) (p+1) :=
 ⟨λm hm=>by
  rcases zvb hm with h | rfl
  ·have:=c.il m h; omega
  ·have:=c.il l (mG hl);rw [aB,bT]; omega,hp,λj cs hj=>by
  obtain⟨a1,a2,a3,a4,a5,a6⟩:=c.co j cs hj;have hc:=zWe (i:=j) (q':=r) hq;rw [gC,if_neg (by simp [QE.of])] at hc;refine⟨O_,a2,a3,a4,λh3 q' hq' s' x' hx=> ?_,λhb h3 k' q' N hk hN=> ?_⟩
  ·rcases zvb hq' with h | rfl
   ·exact a5 h3 q' h s' x' hx
   ·exact a5 h3 _ (mG hq) s' x' (aJ _ hx)
  ·rcases zE hk with ⟨rfl,rfl⟩ | ⟨hne,hk⟩
   ·rcases zE hN with ⟨_,rfl⟩ | ⟨hne,_⟩
    ·rcases a6 hb h3 k' _ M hq hM with h | ⟨e,he,h⟩ | h
     ·exact .inl h
     ·rcases aU.1 he with rfl | he
      ·cases h
      ·exact .inr (.inl ⟨e,he,h⟩)
     ·exact .inr (.inr (h.put (by have:=a3 hb h3; show cs.least<z.1; omega)))
    ·exact absurd rfl hne
   ·rcases zE hN with ⟨e,_⟩ | ⟨_,hN⟩
    ·exact absurd e hne
    ·exact a6 hb h3 k' q' N hk hN⟩
theorem z5o {log:List Tx} {fed cap:Nat} {sh:ByteArray->Nat} {s:TS} (h:TInv log fed cap sh s) {j:Nat} {J:LJ} (hj:s.lanes[j]? =some (some J)):(s.g.mark:Int)<J.n:=by
 have ho:=zRj h (.inr (.inr (.inl ⟨J,mG hj,rfl⟩)));obtain⟨n,hn⟩:=h.opnN _ ho;rw [hn] at ho ⊢;have:=h.opnG n ho;have h1:=((h.seen n).2 (.inr (.inl ho))).1;unfold GM.gt at this;omega
section
variable {W:World} {m0:List (Nat×Obj)} {w:World} {fr:List zb} {σ:RS} {d:RD} {log:List Tx} {fed:Nat} {s:TS}
theorem s_zc {b i j:Nat} {p:OA} {z:IW} {sl:Slc} {r:List QE} {t1:Int} {R:T_a->WP} (S:SO W m0 fr σ log fed d s w) (hb:(b,[aP σ.rb,pP p,Vi (i:Int)])∈σ.fx) (hp:σ.op[i]? =some p) (h1:d.Q[i]? =some (.ins sl j z::r)) (hp1:d.p<1000)
    (k:∀ ev d' s' w',SO W m0 fr σ log fed d' s' w'->Nx log fed d s d' s'->R ev w'):C_2 (Z0 b) t1 w R:=by
 obtain⟨I,h,st,L,hb2,ci⟩:=S;apply S_z;unfold F_Zc;intro b_ w1 hb_ hw1;have st:St ⟨W,d.mp σ++m0⟩ ([(b_,evV ev0)]++(d.cs σ++fr)) w1:=st.alloc (cs:=evV ev0) hb_ hw1;have hqs:s.qs[i]? =some ((j,z)::r.filterMap QE.iw):=by rw [I.xt.qq,aF,h1]; rfl
 obtain⟨left,out,l,hlane,hl,hne⟩:=zhi L h hqs;obtain⟨M,hM⟩:∃ M,d.M[i]? =some M:=⟨_,aA (by have:=I.xt.ml; have:=I.xt.ql; have:=(gSo h1).1; omega)⟩
 have hsto:=I.xt.sto i M l hM hl;obtain⟨p',obs,sm,hp',hobs,hsm,oo⟩:=I.own i _ M h1 hM;obtain rfl:=aE (hp.symm.trans hp');have hgz:zmm z:=I.qgood _ (mG hqs) (j,z) (aI ..);have hll:=zdl L h hl;have mlen:=hsto.len z.2.Key
 have hne':∀ y∈M z.2.Key,y.Number≠z.1:=λy hy=>by
  obtain⟨z',hz',h2,rfl⟩:=(z9b l).1 ((hsto _).2 y hy);exact hne z' hz' h2
 refine⟨rfl,p,cfx st hb rfl,?_⟩;have stm:St ⟨W,sm++(({d with SB:=d.SB.eraseIdx i}:RD).mp σ++m0)⟩ ([(b_,evV ev0)]++(d.cs σ++fr)) w1:=st.mperm (za λf_=>by have h1_:=zM f_ hsm; simp [RD.cs,RD.mp] <;> omega);have sto:St _ (obs++([(b_,evV ev0)]++(({d with OB:=d.OB.eraseIdx i}:RD).cs σ++fr))) w1:=stm.perm (za λf_=>by have h1_:=zM f_ hobs; simp [RD.cs,RD.mp] <;> omega);refine s_qb (num:=(j:Int)+1) (n:=z.1) (x:=z.2) (q:=r.map QE.req) oo sto ⟨hgz.1.1,hgz.1.2.1⟩ (zYl hgz) (hsto _).1 O_ hne' λsm' obs' w2 oo' st=> ?_;obtain⟨d1,hd1⟩:∃ d1:RD,d1={d with OB:=d.OB.set i obs',SB:=d.SB.set i sm',Q:=d.Q.set i r,M:=d.M.set i (M.put z.2.Key (zGd z)),p:=d.p+1}:=⟨_,rfl⟩
 have st:St ⟨W,d1.mp σ++m0⟩ ([(b_,evV ev0)]++(d1.cs σ++fr)) w2:=by
  have st1:=st.mperm (mp':=({d with SB:=d.SB.set i sm'}:RD).mp σ++m0) (za λf_=>by have h1_:=zUd (y:=sm') f_ hsm; simp [RD.cs,RD.mp] <;> omega);subst hd1;exact st1.perm (za λf_=>by have h1_:=zUd (y:=obs') f_ hobs; simp [RD.cs,RD.mp] <;> omega)
 intro b1 w3 hb1 hw3;have st:=st.alloc (cs:=zN ⟨0,false,⟨none,0,0⟩,⟨none,0,0⟩,0⟩) hb1 hw3;refine⟨st.writable 0,λw4 hw4=> ?_⟩;have st:St ⟨W,d1.mp σ++m0⟩ ([(b1,zN (zab ((j:Int)+1))),(b_,evV ev0)]++(d1.cs σ++fr)) w4:=st.put0 hw4;obtain⟨lp,bs,hh,hlp,hbs,lo,lr⟩:=I.lane j _ hlane;have hjl:=(gSo hlp).1;obtain⟨lb,hlr,hlf⟩:=I.ok.lrow;obtain⟨a1,a2,a3⟩:=(hlr.srcM (λc hc=>aH _ (RD.fxm (hlf c hc))) st).at1 (i:=j) (v:=pP lp) (by rw [aF,hlp]; rfl);have hln:σ.lp.length<=16:=by have:=I.ok.ln; have:=(z7 I.ok.cfg).1; omega
 have wj:i64.wrap (((j:Int)+1) - 1)=(j:Int):=W_;refine⟨(j:Int)+1,st.cell 0 rfl rfl,λ_=>⟨rfl,_,cfx st hb rfl,rfl,σ.lsl,crb st rfl,(j:Int)+1,st.cell 0 rfl rfl,a1,?_⟩,λhh=>(by have:=dF hh; omega)⟩;rw [wj];refine⟨O_,O_,lp,by rw [tN]; exact a3,λw5 e5=> ?_⟩;have st:=st.keep e5;cases hh with
 | none=>cases lr
 | some hh =>
 obtain⟨j1,j2,j3,jg,jn,ok⟩:=lr;have j1:z.1=hh.n:=j1;have j2:left=hh.ws.drop hh.sent:=j2;have j3:out+1=hh.sent - hh.acked:=j3;have hlt:hh.acked<hh.sent:=O_
 have hak:zAe (some ⟨(j:Int)+1,σ.cfg,some hh⟩)=(some ⟨(j:Int)+1,σ.cfg,some ⟨hh.n,hh.ws,hh.sent,hh.acked+1⟩⟩,0):=by
  unfold zAe; simp only [if_pos hlt]
 have hbs1:d1.LB[j]? =some bs:=by rw [hd1]; exact hbs
 have stl:St ⟨W,d1.mp σ++m0⟩ (bs++([(b1,zN (zab ((j:Int)+1))),(b_,evV ev0)]++(({d1 with LB:=d1.LB.eraseIdx j}:RD).cs σ++fr))) w5:=st.perm (za λf_=>by have h1_:=zM f_ hbs1; simp [RD.cs,RD.mp] <;> omega);refine s_Ib lo stl λbs' w6 lo' st w7 e7=> ?_;rw [hak] at lo';have st:=st.drew e7;have st7:St ⟨W,({d1 with LB:=d1.LB.set j bs'}:RD).mp σ++m0⟩ ([(b1,zN (zab ((j:Int)+1))),(b_,evV ev0)]++(({d1 with LB:=d1.LB.set j bs'}:RD).cs σ++fr)) w7:=st.perm (za λf_=>by have h1_:=zUd (y:=bs') f_ hbs1; simp [RD.cs,RD.mp] <;> omega);refine⟨rfl,(i:Int),cfx st7 hb rfl,s_j lo' st ⟨cfx st7 hb rfl,st7.writable 1,λw8 hw8=> ?_⟩⟩;have st:=st7.put1 hw8;obtain⟨hi,hph⟩:=zlk h hqs hlane hl;have hci:=ci.serve h1 hM hl (z5o h hlane) hp1;refine⟨⟨0,0,hh.n,(i:Int),0,0⟩,(st.get 1 rfl).all,k _ {d1 with LB:=d1.LB.set j bs'} (svS i j z (r.filterMap QE.iw) left out l s) w8 ⟨?_,hi,st.drop1.drop1,L,O_,by subst hd1; exact hci⟩ (by subst hd1; exact⟨rfl,rfl,bC _,.inl hph⟩)⟩;subst hd1;have hown:=zrg (σ:=σ) (q':=r) (M':=M.put z.2.Key (zGd z)) I.own hobs hsm hp oo'
 have hxt:=I.xt.serve h1 hM hl (hsto.put hgz hne') (λhC=>by
  rw [z7e];have:=I.xt.non hC;rw [this,aF,hl] at hM;rw [<-aE hM])
 refine { ok:=I.ok,feed:=I.feed,deps:=I.deps,top:=I.top,gate:=I.gate,ll:= ?_,lB:= ?_,lane:=zVe (σ:=σ) I.lane hbs hlp lo' ?_,ol:= ?_,il:= ?_,oB:= ?_,sB:= ?_,own:=hown,qgood:=λq' hq' y hy=> ?_,igood:=λl' hl' y hy=> ?_,line:=I.line,lines:=I.lines,lin:=I.lin,wok:=I.wok,pend:=I.pend,gone:=I.gone,xt:=hxt }
 ·show(s.lanes.set j _).length=_;rw [aK]; exact I.ll
 ·show(d.LB.set j bs').length=_;rw [aK]; exact I.lB
 ·refine⟨j1,j2,?_,jg,jn,⟨ok.s,by show hh.acked+1<=hh.sent; omega,ok.n,ok.l,ok.k⟩⟩;show out=hh.sent - (hh.acked+1)
  omega
 ·show(s.qs.set i (r.filterMap QE.iw)).length=_;rw [aK]; exact I.ol
 ·show(s.inst.set i _).length=(s.qs.set i _).length;rw [aK,aK]; exact I.il
 ·show(d.OB.set i obs').length=_;rw [aK]; exact I.oB
 ·show(d.SB.set i sm').length=_;rw [aK]; exact I.sB
 ·rcases mem_set hq' with rfl | hq'
  ·exact I.qgood _ (mG hqs) y (aJ _ hy)
  ·exact I.qgood q' hq' y hy
 ·rcases mem_set hl' with rfl | hl'
  ·rcases aG.1 hy with hy | hy
   ·exact I.igood l (mG hl) y hy
   ·have:y=z:=by simpa using hy
    rw [this]; exact hgz
  ·exact I.igood l' hl' y hy
end
set_option maxHeartbeats 4000000
theorem CI.up {mark mark':Nat} {Q:List (List QE)} {Ms:List SM} {C:List CS} {inst:List (List IW)} {p:Nat} (c:CI mark Q Ms C inst p) (h:mark<=mark'):CI mark' Q Ms C inst p :=
 ⟨c.il,c.ip,λj cs hj=>by
  obtain⟨a1,a2,a3,a4,a5,a6⟩:=c.co j cs hj;exact⟨a1,a2,λhb h3=>by have:=a3 hb h3; omega,a4,a5,a6⟩⟩
theorem zej {log:List Tx} {fed cap:Nat} {sh:ByteArray->Nat} {s:TS} (h:TInv log fed cap sh s):s.pend.Pairwise λx y=>x.1≠y.1 :=
 eB.2 λi j hi hj hij he=>by
  have ho:=h.opn (one1 s.pend[i].1);have h1:=zGg (x:=s.pend[i].1) h.nod;have h2:=zop (f:=λt:Tx=>one1 s.pend[i].1 t.1) (aA hi) (aA hj) O_;have e1:one1 s.pend[i].1 s.pend[i].1=1:=if_pos rfl;have e2:one1 s.pend[i].1 s.pend[j].1=1:=if_pos he.symm;simp only [e1,e2] at h2;omega
theorem zfj {α:Type} {a b:List α} (ha:a.Nodup) (hb:b.Nodup) (h:∀ x,x∈a↔x∈b):a.Perm b:=by
 classical
 refine List.perm_iff_count.2 λx=> ?_;by_cases hx:x∈a
 ·rw [List.Nodup.count ha,List.Nodup.count hb,if_pos hx,if_pos ((h x).1 hx)]
 ·rw [List.count_eq_zero.2 hx,List.count_eq_zero.2 λhb=>hx ((h x).2 hb)]
section
variable {W:World} {m0:List (Nat×Obj)} {w:World} {fr:List zb} {σ:RS} {d:RD} {log:List Tx} {fed:Nat} {s:TS}
theorem s_Yc {b:Nat} {x:Int} {r:List Int} {t1:Int} {R:T_a->WP} (S:SO W m0 fr σ log fed d s w) (hb:(b,[aP σ.rb])∈σ.fx) (h1:s.gone=x::r)
    (k:∀ ev d' s' w',SO W m0 fr σ log fed d' s' w'->Nx log fed d s d' s'->R ev w'):C_Pb (Z0 b) t1 w R:=by
 obtain⟨I,h,st,L,hb2,ci⟩:=S;apply S_gb;unfold F_re;intro b_ w1 hb_ hw1;have st:St ⟨W,d.mp σ++m0⟩ ([(b_,evV ev0)]++(d.cs σ++fr)) w1:=st.alloc (cs:=evV ev0) hb_ hw1;obtain⟨n,rfl,n1,n2,n3,n4,hno,hnW⟩:=zbg h L h1;have hrow:=I.gone;rw [h1] at hrow;have hcap:=hrow.cap_le;have hrl:=hrow.len;rw [lM,aV,aW] at hrl;have src:zj w1 d.gone 1 (((n:Int)::r).map Vi):=hrow.src (l:=[(b_,evV ev0)]++(({d with gb:=[]}:RD).cs σ++fr)) (w0:=⟨W,d.mp σ++m0⟩) (st.pR);obtain⟨ia,_,hc⟩:=src.at1 (i:=0) (v:=Vi (n:Int)) rfl;refine⟨rfl,_,cfx st hb rfl,rfl,d.gone,crb st rfl,ia,O_,O_,(n:Int),hc,λw2 e2=> ?_⟩;have st:=st.drew e2;refine⟨rfl,_,cfx st hb rfl,rfl,_,cfx st hb rfl,rfl,d.gone,crb st rfl,⟨O_,O_,O_,O_⟩,λgn hgn=> ?_⟩;have hcut:=hrow.cut (lo:=1) (hi:=((d.gone.len:Nat):Int)) (mx:=((d.gone.cap:Nat):Int)) O_ O_ O_ O_ O_;rw [<-hgn] at hcut
 have ecut:((((n:Int)::r).map Vi).drop ((1:Int).toNat*1)).take ((((d.gone.len:Nat):Int).toNat - (1:Int).toNat)*1)=r.map Vi:=by
  rw [cG];show(r.map Vi).take _=_;rw [bF (by rw [lM,tN]; show r.length<=(d.gone.len - 1)*1; omega)]
 rw [ecut] at hcut;have st':St ⟨W,d.mp σ++m0⟩ ((σ.rb,repV σ d.x d.line d.gone)::(([(b_,evV ev0)]++(d.fcs++(d.dcs++(d.gcs++(fl d.LB++(fl d.OB++(d.lb++(d.gb++(d.PB++(d.x.yb++σ.fx))))))))))++fr)) w2:=st.pR;refine⟨rfl,st'.writable 0,λw3 hw3=> ?_⟩;have st:St ⟨W,d.mp σ++m0⟩ ((σ.rb,repV σ d.x d.line gn)::(([(b_,evV ev0)]++(d.fcs++(d.dcs++(d.gcs++(fl d.LB++(fl d.OB++(d.lb++(d.gb++(d.PB++(d.x.yb++σ.fx))))))))))++fr)) w3:=st'.put0 hw3;have st:St ⟨W,d.mp σ++m0⟩ ([(b_,evV ev0)]++(({d with gone:=gn}:RD).cs σ++fr)) w3:=st.pR;refine⟨rfl,_,cfx st hb rfl,rfl,σ.dp,crb st rfl,?_⟩;have std:St ⟨W,d.dm++(({d with dm:=[]}:RD).mp σ++m0)⟩ (d.dcs++([(b_,evV ev0)]++(({d with gone:=gn,dcs:=[]}:RD).cs σ++fr))) w3:=(st.pR).mperm (za λf_=>by simp [RD.cs,RD.mp] <;> omega);refine s_Vb I.deps std hno hnW h.nod λF free frb dm' dcs' w4 hFn hF fro dpo st=> ?_;obtain⟨Fs,hFs⟩:∃ Fs,Fs=F.mergeSort λx y=>decide (x<=y):=⟨_,rfl⟩
 rw [<-hFs] at fro;have hFp:Fs.Perm F:=by rw [hFs]; exact List.mergeSort_perm _ _
 have hFsn:Fs.Nodup:=hFp.nodup_iff.2 hFn;have hFsm:∀ y,y∈Fs↔(y,(n:Int))∈s.W/\∀ p∈s.W,p.1=y->p.2=(n:Int):=λy=>hFp.mem_iff.trans (hF y);have hfl:=fro.len;rw [lM,aW] at hfl;obtain⟨d1,hd1⟩:∃ d1:RD,d1={d with gone:=gn,dcs:=dcs',dm:=dm'}:=⟨_,rfl⟩
 have st:St ⟨W,d1.mp σ++m0⟩ (([(b_,evV ev0)]++frb)++(d1.cs σ++fr)) w4:=by
  subst hd1;exact(st.pR).mperm (za λf_=>by simp [RD.cs,RD.mp] <;> omega)
 have hPF:∀ y∈Fs,∃ t∈s.pend,t.1=y:=λy hy=>by
  obtain⟨t,ht,e⟩:=aQ.1 (h.wp _ ((hFsm y).1 hy).1);exact⟨t,ht,e⟩
 have hFl:Fs.length<=s.pend.length:=by
  have hs:Fs.length<=(s.pend.map (·.1)).length:=List.Nodup.length_le_of_subset hFsn λy hy=>by
   obtain⟨t,ht,e⟩:=hPF y hy;exact aQ.2 ⟨t,ht,e⟩
  rwa [lM] at hs
 have hbnd:s.pend.length*3+s.line.length*3<=4521984:=by
  have:∀ l:List Tx,l.length*3<=sm (λt=>3+2*cw t) l:=λl=>by
   induction l with
   | nil=>exact bU _
   | cons x l ih=>rw [sm_cons,aV]; omega
  have a1:=this s.pend;have a2:=this s.line;unfold phi at hb2;omega
 have hll:=zXe I;have hlll:d.ll.length=s.line.length:=by rw [I.lines,lM]
 refine⟨λi w'=>∃(p:Nat) (T:List (Tx×Slc)) (ln:Slc) (lb':List zb) (we':Array MapEntry) (wc':Nat),i=(p:Int)/\p<=free.len/\T.map (λz=>z.1.1)=Fs.take p/\(∀ z∈T,z.1∈s.pend/\InW d.PB z.2 z.1.2)/\RowC 2 ln ((d.ll++T).flatMap txC) lb'/\MOk isKI we' wc'/\(∀ y,y∉Fs.take p->zQ we' (Vi y)=zQ d.we (Vi y)) /\
  St ⟨W,({d1 with we:=we',wc:=wc'}:RD).mp σ++m0⟩ (([(b_,evV ev0)]++frb)++(({d1 with lb:=lb',line:=ln,we:=we',wc:=wc'}:RD).cs σ++fr)) w',λi _=>free.len - i.toNat,
  ⟨0,[],d.line,d.lb,d.we,d.wc,rfl,O_,rfl,λz hz=>(by cases hz),by simpa using I.line,I.wok,λ_ _=>rfl,by subst hd1; exact st⟩,?_⟩
 clear st st';rintro i w5 ⟨p,T,ln,lb',we',wc',rfl,hp,hT1,hT2,lro,wok,wlk,st⟩
 have hTl:T.length=p:=by
  have:=congrArg List.length hT1;rw [lM,aZ] at this;omega
 have hlnl:=lro.len;rw [zc zaf,aB] at hlnl;unfold F_Gd;refine⟨λhi=> ?_,λhi=> ?_⟩
 ·have hi:=dT hi;have hpF:p<Fs.length:=O_;obtain⟨y,hy⟩:∃ y,Fs[p]? =some y:=⟨_,aA hpF⟩
  have hym:=mG hy;obtain⟨t,ht,hty⟩:=hPF y hym;obtain⟨sl,hlk,hin⟩:=I.pend t ht;rw [hty] at hlk
  have hyn:y∉Fs.take p:=λhm=>by
   obtain⟨q,hq⟩:=bG.1 hm;rw [dJ] at hq;split at hq
   ·have:=(dG (gSo hq).1 hFsn).1 (hq.trans hy.symm);omega
   ·cases hq
  have hlk':zQ we' (Vi y)=some (.agg #[Vi y,Vs sl]):=(wlk y hyn).trans hlk;have src:zj w5 free 1 (Fs.map Vi):=fro.srcM (λc hc=>by simp [hc]) st;obtain⟨ia,_,hc⟩:=src.at1 (i:=p) (v:=Vi y) (by rw [aF,hy]; rfl);refine⟨ia,O_,hi,y,by rw [tN]; exact hc,λw6 e6=> ?_⟩;have st:=st.drew e6;have stm:St ⟨W,(σ.wm,.map we' wc')::(σ.fv.mp++(d1.dm++(fl d1.SB++m0)))⟩ (([(b_,evV ev0)]++frb)++(({d1 with lb:=lb',line:=ln,we:=we',wc:=wc'}:RD).cs σ++fr)) w6:=st.mperm (za λf_=>by simp [RD.cs,RD.mp] <;> omega);refine⟨rfl,_,cfx st hb rfl,rfl,_,cfx st hb rfl,rfl,ln,crb st rfl,rfl,_,cfx st hb rfl,rfl,some σ.wm,crb st rfl,we',⟨y,sl⟩,true,.inr ⟨σ.wm,wc',rfl,stm.objAt 0 rfl⟩,wok.all,wok.nodup,⟨_,rfl⟩,MOk.lkIs' (by rw [hlk']; rfl) (by rw [hlk']; rfl),λb1 w7 hb1 hw7=> ?_⟩;have st7:St ⟨W,({d1 with we:=we',wc:=wc'}:RD).mp σ++m0⟩ (([(b1,txW y sl),(b_,evV ev0)]++frb)++(({d1 with lb:=lb',line:=ln,we:=we',wc:=wc'}:RD).cs σ++fr)) w7:=st.alloc (cs:=txW y sl) hb1 hw7;refine⟨crb st7 rfl,cfx st7 hb rfl,cfx st7 hb rfl,txW y sl,zJ hb1 hw7 rfl,?_⟩;have st8:St ⟨W,({d1 with we:=we',wc:=wc'}:RD).mp σ++m0⟩ (lb'++(([(b_,evV ev0)]++frb)++(({d1 with lb:=[],line:=ln,we:=we',wc:=wc'}:RD).cs σ++fr))) w7:=(St.drop1 st7).pR;refine lro.append st8 rfl rfl rfl (by show(ln.len+1)*32<=_; omega) λln2 lb2 w8 lro2 st hlen=> ?_;have st':St ⟨W,({d1 with we:=we',wc:=wc'}:RD).mp σ++m0⟩ ((σ.rb,repV σ d1.x ln d1.gone)::((([(b_,evV ev0)]++frb)++(d1.fcs++(d1.dcs++(d1.gcs++(fl d1.LB++(fl d1.OB++(lb2++(d1.gb++(d1.PB++(d1.x.yb++σ.fx))))))))))++fr)) w8:=st.pR;refine⟨(st'.blk (b,[aP σ.rb]) (by simp [hb])).cell rfl,rfl,st'.writable 0,λw9 hw9=> ?_⟩;have st:St ⟨W,({d1 with we:=we',wc:=wc'}:RD).mp σ++m0⟩ ((σ.rb,repV σ d1.x ln2 d1.gone)::((([(b_,evV ev0)]++frb)++(d1.fcs++(d1.dcs++(d1.gcs++(fl d1.LB++(fl d1.OB++(lb2++(d1.gb++(d1.PB++(d1.x.yb++σ.fx))))))))))++fr)) w9:=st'.put0 hw9;have st:St ⟨W,({d1 with we:=we',wc:=wc'}:RD).mp σ++m0⟩ (([(b_,evV ev0)]++frb)++(({d1 with lb:=lb2,line:=ln2,we:=we',wc:=wc'}:RD).cs σ++fr)) w9:=st.pR;have stm:St ⟨W,(σ.wm,.map we' wc')::(σ.fv.mp++(d1.dm++(fl d1.SB++m0)))⟩ (([(b_,evV ev0)]++frb)++(({d1 with lb:=lb2,line:=ln2,we:=we',wc:=wc'}:RD).cs σ++fr)) w9:=st.mperm (za λf_=>by simp [RD.cs,RD.mp] <;> omega);refine⟨rfl,_,cfx st hb rfl,rfl,some σ.wm,crb st rfl,σ.wm,we',wc',rfl,stm.objAt 0 rfl,wok.all,⟨_,rfl⟩,λes2 w10 hdel hw10=> ?_⟩;have stm:=stm.mset0 hw10;obtain⟨wok2,va,vb,_,_⟩:=wok.del hdel;have wp:i64.wrap ((p:Int)+1)=((p+1:Nat):Int):=W_;rw [wp];have htk:Fs.take (p+1)=Fs.take p++[y]:=by rw [bL,hy]; rfl
  refine⟨⟨p+1,T++[(t,sl)],ln2,lb2,es2,wc',rfl,O_,by rw [aR,hT1,htk,<-hty]; rfl,λz hz=> ?_,?_,wok2,λy' hy'=> ?_,stm.mperm (za λf_=>by simp [RD.cs,RD.mp] <;> omega)⟩,L_⟩
  ·rcases aG.1 hz with hz | hz
   ·exact hT2 z hz
   ·have:z=(t,sl):=by simpa using hz
    rw [this]; exact⟨ht,hin⟩
  ·rw [<-aN,bE];have e:[(t,sl)].flatMap txC=txW y sl:=by rw [aY,dW,bZ]; show txW t.1 sl=_; rw [hty]
   rw [e]; exact lro2
  ·rw [htk] at hy';have h1:y'∉Fs.take p:=λhh=>hy' (bB _ hh);have h2:y'≠y:=λe=>hy' (aH _ (by rw [e]; exact bK.2 rfl));exact(vb _ λe=>h2 (by have e:Vi y'=Vi y:=e; simpa using e)).trans (wlk y' h1)
 ·have hi:=dF hi;have hpe:p=Fs.length:=O_;rw [hpe,cU] at hT1 wlk;have hg:d1.gcs=d.gcs:=by rw [hd1]
  have stg:St ⟨W,({d1 with we:=we',wc:=wc'}:RD).mp σ++m0⟩ (d.gcs++(([(b_,evV ev0)]++frb)++(({d1 with gcs:=[],lb:=lb',line:=ln,we:=we',wc:=wc'}:RD).cs σ++fr))) w5:=by
   rw [<-hg];exact st.pR
  refine⟨rfl,_,cfx st hb rfl,rfl,σ.gt,crb st rfl,s_bc stg I.gate (λhh=> ?_) λn' hn' _ _ _ gcs' w6 go st=> ?_⟩
  ·rcases hh with hh | hh | hh
   ·omega
   ·omega
   ·unfold GM.has at hh;rw [tN,n4,Bool.or_false] at hh;simp only [aD,decide_eq_true_eq] at hh;omega
  obtain rfl:n=n':=O_;have st:St ⟨W,({d1 with we:=we',wc:=wc'}:RD).mp σ++m0⟩ (([(b_,evV ev0)]++frb)++(({d1 with gcs:=gcs',lb:=lb',line:=ln,we:=we',wc:=wc'}:RD).cs σ++fr)) w6:=st.pR;refine⟨st.writable 0,λw7 hw7=> ?_⟩;have st:=st.put0 hw7;have hTm:∀ z∈T,z.1.1∈Fs:=λz hz=>by rw [<-hT1]; exact aQ.2 ⟨z,hz,rfl⟩
  have hfr:∀ t∈s.pend,frT s n t=true↔t.1∈Fs:=λt ht=>by
   rw [hFsm];unfold frT;rw [bP];constructor
   ·intro hall;have hall:∀ p∈s.W,p.1=t.1->p.2=(n:Int):=λp hp=>dT (hall p hp);obtain⟨u,hu⟩:=h.pw t ht;have:=hall _ hu rfl;have this:u=(n:Int):=this;rw [this] at hu;exact⟨hu,hall⟩
   ·exact λhh p hp=>decide_eq_true (hh.2 p hp)
  have hpa:=zej h;have hpn:s.pend.Nodup:=hpa.imp λ{a b} hab e=>hab (by rw [e])
  have hperm:(T.map (·.1)).Perm (s.pend.filter (frT s n)):=by
   refine zfj ?_ (hpn.filter _) λt=> ?_
   ·have:((T.map (·.1)).map (·.1)).Nodup:=by rw [dR]; show(T.map λz=>z.1.1).Nodup; rw [hT1]; exact hFsn
    exact fT (λ{a b} hab e=>hab (by rw [e])) (cN.1 this)
   ·rw [bR];constructor
    ·intro ht;obtain⟨z,hz,rfl⟩:=aQ.1 ht;exact⟨(hT2 z hz).1,(hfr _ (hT2 z hz).1).2 (hTm z hz)⟩
    ·rintro⟨ht,hf⟩;have:=(hfr t ht).1 hf;rw [<-hT1] at this;obtain⟨z,hz,e⟩:=aQ.1 this;refine aQ.2 ⟨z,hz,?_⟩;refine bX λhne=> ?_;obtain⟨i,hi⟩:=bG.1 (hT2 z hz).1;obtain⟨j,hj⟩:=bG.1 ht;obtain⟨hi1,hi2⟩:=gSo hi;obtain⟨hj1,hj2⟩:=gSo hj;have hij:i≠j:=λe=>hne (by subst e; rw [<-hi2,hj2]);have hpi:=eB.1 hpa;rcases Nat.lt_or_gt_of_ne hij with hlt | hlt
     ·exact hpi i j hi1 hj1 hlt (by rw [hi2,hj2]; exact e)
     ·exact hpi j i hj1 hi1 hlt (by rw [hi2,hj2]; exact e.symm)
  obtain⟨hi',hph⟩:=zGl L h h1 hperm;refine⟨⟨0,0,(n:Int),0,(s.g.up n:Int),0⟩,(st.get 0 rfl).all,k _ {d1 with gcs:=gcs',lb:=lb',line:=ln,we:=we',wc:=wc',ll:=d.ll++T} (gtS n r (T.map (·.1)) s) w7 ⟨?_,hi',?_,L,O_,by subst hd1; exact ci.up (Nat.le_add_right _ _)⟩ (by subst hd1; exact⟨rfl,rfl,dN _,.inl hph⟩)⟩
  ·subst hd1;refine { ok:=I.ok,feed:=I.feed,deps:=dpo,top:=I.top,gate:=go,ll:=I.ll,lB:=I.lB,lane:=I.lane,ol:=I.ol,il:=I.il,oB:=I.oB,sB:=I.sB,own:=I.own,qgood:=I.qgood,igood:=I.igood,line:=lro,lines:= ?_,lin:=λz hz=> ?_,wok:=wok,pend:=λt ht=> ?_,gone:=hcut,xt:=I.xt }
   ·show s.line++T.map (·.1)=(d.ll++T).map (·.1);rw [aR,I.lines]
   ·rcases aG.1 hz with hz | hz
    ·exact I.lin z hz
    ·exact(hT2 z hz).2
   ·obtain⟨ht1,ht2⟩:=bR.1 ht;obtain⟨sl,a,c⟩:=I.pend t ht1;refine⟨sl,(wlk t.1 λhm=> ?_).trans a,c⟩;rw [(hfr t ht1).2 hm] at ht2;cases ht2
  ·have st:=St.drop1 st;have st:=St.drop (a:=frb) st;exact st
end
section
variable {W:World} {m0:List (Nat×Obj)} {w:World} {fr:List zb} {σ:RS} {d:RD} {log:List Tx} {fed:Nat} {s:TS}
theorem XtI.call {x:RX} {Q:List (List QE)} {Ms:List SM} {C:List CS} {qs:List (List (Nat×IW))} {inst:List (List IW)} {i b:Nat} {c c':CS} {bs bs':List zb} (X:XtI σ x Q Ms C qs inst) (hc:C[i]? =some c) {ps:List Nat} (hr:RowC 1 x.cl (ps.map aP) x.cb/\ps.length=C.length/\x.CB.length=C.length/\∀(i:Nat) c,C[i]? =some c->∃ b bs,ps[i]? =some b/\x.CB[i]? =some bs/\CuO σ i b c bs) (hb:ps[i]? =some b) (o:CuO σ i b c' bs') :
    XtI σ {x with CB:=x.CB.set i bs'} Q Ms (C.set i c') qs inst :=
 ⟨X.ql,X.ml,X.qq,λq hq e he=>by rw [aK]; exact X.qz q hq e he,X.sto,λh=>X.non (by
  have:=congrArg List.length h;rw [aK] at this;exact aX this),X.disk,⟨ps,hr.1,by rw [aK]; exact hr.2.1,by rw [aK,aK]; exact hr.2.2.1,λj e he=>by
  rcases zE he with ⟨rfl,rfl⟩ | ⟨hne,he⟩
  ·exact⟨b,bs',hb,aL (by have:=(gSo hc).1; have:=hr.2.2.1; omega),o⟩
  ·obtain⟨b2,bs2,h1,h2,h3⟩:=hr.2.2.2 j e he;exact⟨b2,bs2,h1,by rw [aT (λe=>hne e.symm)]; exact h2,h3⟩⟩,by rw [aK]; exact X.cn⟩
def RD.co (σ:RS) (d:RD) (i:Nat):List zb:=(σ.rb,repV σ d.x d.line d.gone)::(d.fcs++(d.dcs++(d.gcs++(fl d.LB++(fl d.OB++(d.lb++(d.gb++(d.PB++(d.x.kb++(d.x.cb++(fl (d.x.CB.eraseIdx i)++σ.fx)))))))))))
theorem zXh {i:Nat} {bs A:List zb} (hbs:d.x.CB[i]? =some bs):(A++(d.cs σ++fr)).Perm (bs++(A++(d.co σ i++fr))):=by
 have e:d.cs σ=(σ.rb,repV σ d.x d.line d.gone)::(d.fcs++(d.dcs++(d.gcs++(fl d.LB++(fl d.OB++(d.lb++(d.gb++(d.PB++(d.x.kb++(d.x.cb++(fl d.x.CB++σ.fx))))))))))):=by unfold RD.cs RX.yb; simp only [aN]
 rw [e];unfold RD.co;exact za λf_=>by have h1_:=zM f_ hbs; simp <;> omega
theorem zyd {mp:List (Nat×Obj)} {i:Nat} {bs A:List zb} (hbs:d.x.CB[i]? =some bs) (st:St ⟨W,mp⟩ (A++(d.cs σ++fr)) w):St ⟨W,mp⟩ (bs++(A++(d.co σ i++fr))) w:=st.perm (zXh hbs)
theorem zsg {mp:List (Nat×Obj)} {i:Nat} {bs A:List zb} (hbs:d.x.CB[i]? =some bs) (st:St ⟨W,mp⟩ (bs++(A++(d.co σ i++fr))) w):St ⟨W,mp⟩ (A++(d.cs σ++fr)) w:=st.perm (zXh hbs).symm
theorem z6o {mp:List (Nat×Obj)} {i:Nat} {bs bs' A:List zb} {C':List CS} (hbs:d.x.CB[i]? =some bs) (st:St ⟨W,mp⟩ (bs'++(A++(d.co σ i++fr))) w):St ⟨W,mp⟩ (A++(({d with x:={d.x with CB:=d.x.CB.set i bs'},C:=C'}:RD).cs σ++fr)) w:=by
 have h:({d with x:={d.x with CB:=d.x.CB.set i bs'},C:=C'}:RD).x.CB[i]? =some bs':=aL (gSo hbs).1;refine zsg h ?_
 have e:(d.x.CB.set i bs').eraseIdx i=d.x.CB.eraseIdx i:=by
  have:∀(L:List (List zb)) (i:Nat),(L.set i bs').eraseIdx i=L.eraseIdx i:=λL=>by
   induction L with
   | nil=>intro i; rfl
   | cons z L ih =>
    intro i;cases i with
    | zero=>rfl
    | succ i=>rw [cS,cO,cO,ih]
  exact this _ i
 have e2:({d with x:={d.x with CB:=d.x.CB.set i bs'},C:=C'}:RD).co σ i=d.co σ i:=by
  unfold RD.co;show(σ.rb,repV σ d.x d.line d.gone)::(d.fcs++(d.dcs++(d.gcs++(fl d.LB++(fl d.OB++(d.lb++(d.gb++(d.PB++(d.x.kb++(d.x.cb++(fl ((d.x.CB.set i bs').eraseIdx i)++σ.fx)))))))))))=_;rw [e]
 rw [e2]; exact st
def CanC (σ:RS) (d:RD) (c:CS) (v:Int):Prop :=
 v=0\/(c.ended=false/\((v=9/\c.m.begun=false)\/(v=10/\c.m.begun=true/\∃ e r k q,c.m.rest=e::r/\e.1=((k:Nat):Int)/\d.Q[k]? =some q/\q.length<σ.cfg.Queue.toNat)\/((v=11\/v=12)/\allM (some c.m)=true)))
theorem s_Jb {i b:Nat} {c:CS} {bs:List zb} {R:Int->WP} (I:RepI σ d log fed s) (st:St ⟨W,d.mp σ++m0⟩ (d.cs σ++fr) w) (hbs:d.x.CB[i]? =some bs) (o:CuO σ i b c bs) (k:∀ v w',CanC σ d c v->St ⟨W,d.mp σ++m0⟩ (d.cs σ++fr) w'->R v w'):C_M (Z0 b) w R:=by
 apply S_pb;unfold F_te;obtain⟨tp,sv,by_,bey,bad,av,tks,svs,bys,rest,hav,to,so,ro,hbl,hnum,hcfg,hrs,e0⟩:=o
 have tkf:∀ {w':World} {L:List zb},St ⟨W,d.mp σ++m0⟩ (L++(d.cs σ++fr)) w'->St ⟨W,d.mp σ++m0⟩ (tks++((b,cuV σ.rb i c tp by_ sv bad av)::(svs++(bys++(rest++(L++(d.co σ i++fr))))))) w':=λst=>by
  have st2:=zyd hbs st;rw [e0] at st2;exact st2.pq
 have tkb:∀ {w':World} {L:List zb},St ⟨W,d.mp σ++m0⟩ (tks++((b,cuV σ.rb i c tp by_ sv bad av)::(svs++(bys++(rest++(L++(d.co σ i++fr))))))) w'->St ⟨W,d.mp σ++m0⟩ (L++(d.cs σ++fr)) w':=λst=>by
  refine zsg hbs ?_;rw [e0];exact st.pq
 have cel:∀ {w':World} {L:List zb} {v:Value} {j:Nat},St ⟨W,d.mp σ++m0⟩ (L++(d.cs σ++fr)) w'->(cuV σ.rb i c tp by_ sv bad av)[j]? =some v->w'.cell? ⟨b,j,none⟩=some v:=λ{w' L v j} st hv =>
  (show St ⟨W,d.mp σ++m0⟩ ((b,cuV σ.rb i c tp by_ sv bad av)::(tks++(svs++(bys++(rest++(L++(d.co σ i++fr))))))) w' from(tkf st).pq).cell 0 rfl hv
 have nil0:St ⟨W,d.mp σ++m0⟩ ([]++(d.cs σ++fr)) w:=st;refine⟨rfl,c.ended,cel nil0 rfl,λ_=>k 0 w (.inl rfl) st,λhend=>⟨rfl,tp,cel nil0 rfl,s_x to (tkf nil0) ⟨λhb=> ?_,λhb=> ?_⟩⟩⟩
 ·have hb:c.m.begun=false:=by
    unfold zMe at hb;cases h:c.m.begun with
    | false=>rfl
    | true=>simp [h] at hb
  have k0:∀ t,F_fb R t w:=λt=>by
   unfold F_fb;exact⟨λ_=>k 0 w (.inl rfl) st,λ_=>k 9 w (.inr ⟨hend,.inl ⟨rfl,hb⟩⟩) st⟩
  exact⟨rfl,c.m.call.Kind,cel nil0 rfl,λ_=>⟨rfl,_,cel nil0 rfl,rfl,d.x.sv,st.cell 0 rfl rfl,k0 _⟩,λ_=>k0 _⟩
 ·have hb:c.m.begun=true:=by
    unfold zMe at hb;cases h:c.m.begun with
    | true=>rfl
    | false=>simp [h] at hb
  have k2:∀ t w',allM (some c.m)=true->St ⟨W,d.mp σ++m0⟩ (d.cs σ++fr) w'->F_N R t w':=λt w' ha st=>by
   unfold F_N;exact⟨λ_=>k 11 w' (.inr ⟨hend,.inr (.inr ⟨.inl rfl,ha⟩)⟩) st,λ_=>k 12 w' (.inr ⟨hend,.inr (.inr ⟨.inr rfl,ha⟩)⟩) st⟩
  have k1:∀ {L:List zb} {w':World},St ⟨W,d.mp σ++m0⟩ (L++(d.cs σ++fr)) w'->F_O (Z0 b) R false w':=λ{L w'} st=>by
   unfold F_O;refine⟨N_,λ_=>⟨rfl,tp,cel st rfl,s_J to (tkf st) λw2 st2=>⟨λ_=>k 0 w2 (.inl rfl) (tkb st2).drop,λha=> ?_⟩⟩⟩;have ha:allM (some c.m)=true:=by simpa using ha
   have st2:=tkb st2;refine⟨rfl,c.m.call.Kind,cel st2 rfl,λ_=>⟨rfl,bad,cel st2 rfl,λ_=>⟨rfl,sv,cel st2 rfl,?_⟩,λ_=>k2 _ w2 ha st2.drop⟩,λ_=>k2 _ w2 ha st2.drop⟩;have st3:St ⟨W,d.mp σ++m0⟩ (svs++((b,cuV σ.rb i c tp by_ sv bad av)::(tks++(bys++(rest++(L++(d.co σ i++fr))))))) w2:=(tkf st2).pq;exact s_8 st3 so λv=>k2 _ w2 ha st2.drop
  refine⟨rfl,tp,cel nil0 rfl,s_cb to (tkf nil0) λsl rb w3 hrow st3 b1 w4 hb1 hw4=> ?_⟩;have st3:St ⟨W,d.mp σ++m0⟩ (rb++(d.cs σ++fr)) w3:=tkb (L:=rb) (st3.pq);have st4:=st3.alloc (cs:=zRq) hb1 hw4;refine⟨st4.writable 0,λw5 hw5=> ?_⟩;have st5:St ⟨W,d.mp σ++m0⟩ (((b1,rqV (zXc (some c.m)).2.1 sl)::rb)++(d.cs σ++fr)) w5:=st4.put0 hw5;refine⟨λhmore=> ?_,λ_=>k1 st5⟩;cases hrest:c.m.rest with
  | nil =>
   unfold zXc at hmore;simp [hrest] at hmore
  | cons e r =>
   have hnx:(zXc (some c.m)).1=e.1:=by unfold zXc; simp [hrest]
   rw [hnx];obtain⟨_,_,kk,hk,hkl⟩:=hrs e (by rw [hrest]; exact aI ..);obtain⟨q,hq⟩:∃ q,d.Q[kk]? =some q:=⟨_,aA (by have:=I.xt.ql; omega)⟩
   have st6:St ⟨W,d.mp σ++m0⟩ (d.cs σ++(((b1,rqV (zXc (some c.m)).2.1 sl)::rb)++fr)) w5:=st5.pq;rw [hk];refine⟨rfl,⟨_⟩,⟨cel st5 rfl,trivial⟩,s_F I st6 hq λw6 st7=> ?_⟩;have st7:St ⟨W,d.mp σ++m0⟩ (((b1,rqV (zXc (some c.m)).2.1 sl)::rb)++(d.cs σ++fr)) w6:=st7.pq;by_cases hroom:q.length<σ.cfg.Queue.toNat
   ·rw [decide_eq_true hroom];unfold F_O;exact⟨λ_=>k 10 w6 (.inr ⟨hend,.inr (.inl ⟨rfl,hb,e,r,kk,q,hrest,hk,hq,hroom⟩)⟩) (st7.weak ((b1,rqV (zXc (some c.m)).2.1 sl)::rb) (.of_eq (by simp))),N_⟩
   ·rw [decide_eq_false hroom];exact k1 st7
end
section
variable {W:World} {m0:List (Nat×Obj)} {w:World} {fr:List zb} {σ:RS} {d:RD} {log:List Tx} {fed:Nat} {s:TS}
def RD.cl (d:RD) (i:Nat) (bs:List zb) (c:CS) (v e:Bool):RD:={d with x:={d.x with CB:=d.x.CB.set i bs,sv:=v,dead:=e},C:=d.C.set i c}
def RD.cr (σ:RS) (d:RD) (i:Nat):List zb:=d.fcs++(d.dcs++(d.gcs++(fl d.LB++(fl d.OB++(d.lb++(d.gb++(d.PB++(d.x.kb++(d.x.cb++(fl (d.x.CB.eraseIdx i)++σ.fx))))))))))
theorem z4f {mp:List (Nat×Obj)} {i:Nat} {bs A:List zb} (hbs:d.x.CB[i]? =some bs) (st:St ⟨W,mp⟩ (A++(d.cs σ++fr)) w):St ⟨W,mp⟩ ((σ.rb,repV σ d.x d.line d.gone)::(bs++(A++(d.cr σ i++fr)))) w:=by
 have st2:St ⟨W,mp⟩ (bs++(A++(((σ.rb,repV σ d.x d.line d.gone)::d.cr σ i)++fr))) w:=zyd hbs st;exact st2.pq
theorem zwe {mp:List (Nat×Obj)} {i:Nat} {bs bs' A:List zb} {c':CS} {v e:Bool} (hbs:d.x.CB[i]? =some bs) (st:St ⟨W,mp⟩ ((σ.rb,repV σ {d.x with sv:=v,dead:=e} d.line d.gone)::(bs'++(A++(d.cr σ i++fr)))) w):St ⟨W,mp⟩ (A++((d.cl i bs' c' v e).cs σ++fr)) w:=by
 have h:({d with x:={d.x with sv:=v,dead:=e}}:RD).x.CB[i]? =some bs:=hbs;refine z6o (d:={d with x:={d.x with sv:=v,dead:=e}}) (bs':=bs') (C':=d.C.set i c') h ?_;show St ⟨W,mp⟩ (bs'++(A++(((σ.rb,repV σ {d.x with sv:=v,dead:=e} d.line d.gone)::d.cr σ i)++fr))) w;exact st.pq
theorem s_Kb {i b:Nat} {c:CS} {bs A:List zb} {a:T_m} {mp:List (Nat×Obj)} {R:WP} (st:St ⟨W,mp⟩ (A++(d.cs σ++fr)) w) (hbs:d.x.CB[i]? =some bs) (o:CuO σ i b c bs)
    (k:∀ bs' v l w',CuO σ i b {c with ended:=true} bs'->St ⟨W,mp⟩ (A++((d.cl i bs' {c with ended:=true} v d.x.dead).cs σ++(l++fr))) w'->R w'):C_4 (Z0 b) a w R:=by
 apply S_qb;unfold F_Be;obtain⟨tp,sv,by_,bey,bad,av,tks,svs,bys,rest,hav,to,so,ro,hbl,hnum,hcfg,hrs,e0⟩:=o;intro b1 w1 hb hw w2 hd;have st1:=(st.alloc (cs:=anT a) hb hw).drew hd;refine⟨a,(st1.get 0 rfl).all,rfl,?_⟩
 obtain⟨a0,a1,a2,a3,a4,rfl⟩:∃ a0 a1 a2 a3 a4,av=[a0,a1,a2,a3,a4]:=by
  match av,hav with
  | [a0,a1,a2,a3,a4],_=>exact⟨a0,a1,a2,a3,a4,rfl⟩
 have st2:=z4f (σ:=σ) hbs (A:=A) (fr:=(b1,anT a)::fr) (st1.pq);rw [e0] at st2;have st2:St ⟨W,mp⟩ ((b,cuV σ.rb i c tp by_ sv bad [a0,a1,a2,a3,a4])::(b1,anT a)::(σ.rb,repV σ d.x d.line d.gone)::(tks++(svs++(bys++(rest++(A++(d.cr σ i++fr))))))) w2:=st2.pq;refine⟨st2.writable 0,λw3 hw3=> ?_⟩;have st3:St ⟨W,mp⟩ ((b,cuV σ.rb i {c with ended:=true} tp by_ sv bad [a0,a1,a2,a3,a4])::(b1,anT a)::(σ.rb,repV σ d.x d.line d.gone)::(tks++(svs++(bys++(rest++(A++(d.cr σ i++fr))))))) w3:=st2.put0 hw3;refine⟨(st3.get 1 rfl).all,rfl,st3.writable 0,λw4 hw4=> ?_⟩;have st4:St ⟨W,mp⟩ ((b,cuV σ.rb i {c with ended:=true} tp by_ sv bad (anT a))::(b1,anT a)::(σ.rb,repV σ d.x d.line d.gone)::(tks++(svs++(bys++(rest++(A++(d.cr σ i++fr))))))) w4:=st3.put0 hw4
 have fin:∀ {v:Bool} {w':World},St ⟨W,mp⟩ ((σ.rb,repV σ {d.x with sv:=v} d.line d.gone)::(b,cuV σ.rb i {c with ended:=true} tp by_ sv bad (anT a))::(b1,anT a)::(tks++(svs++(bys++(rest++(A++(d.cr σ i++fr))))))) w'->R w':=λ{v w'} st' =>
  k ((b,cuV σ.rb i {c with ended:=true} tp by_ sv bad (anT a))::(tks++(svs++(bys++rest)))) v [(b1,anT a)] w' ⟨tp,sv,by_,bey,bad,anT a,tks,svs,bys,rest,rfl,to,so,ro,hbl,hnum,hcfg,hrs,rfl⟩ (zwe hbs (st'.pq))
 have st5:St ⟨W,mp⟩ ((σ.rb,repV σ d.x d.line d.gone)::(b,cuV σ.rb i {c with ended:=true} tp by_ sv bad (anT a))::(b1,anT a)::(tks++(svs++(bys++(rest++(A++(d.cr σ i++fr))))))) w4:=st4.pq;refine⟨rfl,c.m.call.Kind,st4.cell 0 rfl rfl,λ_=>⟨rfl,_,st4.cell 0 rfl rfl,rfl,?_⟩,λ_=>fin (v:=d.x.sv) st5⟩;refine⟨st5.writable 0,λw5 hw5=> ?_⟩;have st6:St ⟨W,mp⟩ ((σ.rb,repV σ {d.x with sv:=false} d.line d.gone)::(b,cuV σ.rb i {c with ended:=true} tp by_ sv bad (anT a))::(b1,anT a)::(tks++(svs++(bys++(rest++(A++(d.cr σ i++fr))))))) w5:=st5.put0 hw5;exact fin st6
theorem RD.cbm {c:zb} (h:c∈d.x.cb):c∈d.cs σ++fr:=by unfold RD.cs RX.yb; simp [h]
def z9g (s:TS) (d:RD) (i:Nat) (n:Int):Prop:=(0<=n/\n<=(s.g.mark:Int))/\(n=(s.g.mark:Int)\/∃(j:Nat) (e:CS),d.C[j]? =some e/\e.m.begun=true/\e.ended=false/\n=e.m.mark)
theorem TkO.mark {t:OA} {m:TkM} {cs:List zb} (h:TkO t (some m) cs):0<=m.mark/\m.mark<=65536:=by
 obtain⟨b,rfl,rs,ps,rc,pc,ok,_⟩:=h;exact ok.mark
theorem s_Ac {i b:Nat} {c:CS} {bs:List zb} {R:Int->WP} (I:RepI σ d log fed s) (st:St ⟨W,d.mp σ++m0⟩ (d.cs σ++fr) w) (hbs:d.x.CB[i]? =some bs) (o:CuO σ i b c bs)
    (k:∀ n w',z9g s d i n->St ⟨W,d.mp σ++m0⟩ (d.cs σ++fr) w'->R n w'):C_Ab (Z0 b) w R:=by
 apply S_ab;unfold F_Pc;obtain⟨tp,sv,by_,bey,bad,av,tks,svs,bys,rest,hav,to,so,ro,hbl,hnum,hcfg,hrs,e0⟩:=o
 have get:∀ {w':World},St ⟨W,d.mp σ++m0⟩ (d.cs σ++fr) w'->St ⟨W,d.mp σ++m0⟩ ((b,cuV σ.rb i c tp by_ sv bad av)::(tks++(svs++(bys++(rest++(d.co σ i++fr)))))) w':=λst=>by
  have st2:=zyd (A:=[]) hbs st;rw [e0] at st2;exact st2.pq
 obtain⟨ps,hr,hpl,hcl,hcal⟩:=I.xt.cal;have hrl:=hr.len;rw [lM,aW] at hrl;refine⟨rfl,⟨_⟩,⟨(get st).cell 0 rfl rfl,trivial⟩,s_k I st λw1 e1=> ?_⟩;have st1:=st.keep e1;refine⟨rfl,_,(get st1).cell 0 rfl rfl,rfl,d.x.cl,st1.cell 0 rfl rfl,?_⟩;refine⟨λn t w'=>∃ p:Nat,t=(p:Int)/\p<=d.x.cl.len/\z9g s d i n/\St ⟨W,d.mp σ++m0⟩ (d.cs σ++fr) w',λ_ t _=>d.x.cl.len - t.toNat,⟨0,rfl,O_,⟨⟨O_,eO _⟩,.inl rfl⟩,st1⟩,?_⟩;clear st st1 e1;rintro n _ w ⟨p,rfl,hp,hn,st⟩;unfold F_3;refine⟨λhi=> ?_,λ_=>k n w hn st⟩;have hi:=dT hi;obtain⟨a,x,hx,hcell⟩:=(hr.srcM (λc hc=>RD.cbm hc) st).get (i:=(p:Int)) O_ hi;rw [tN] at hx;have hpC:p<d.C.length:=by have:=(gSo hx).1; omega
 obtain⟨e,he⟩:∃ e,d.C[p]? =some e:=⟨_,aA hpC⟩
 obtain⟨b2,bs2,hb2,hbs2,tp2,sv2,by2,bey2,bad2,av2,tks2,svs2,bys2,rest2,_,to2,_,_,_,_,_,_,e2⟩:=hcal p e he;obtain rfl:x=b2:=aE (hx.symm.trans hb2)
 have st2:St ⟨W,d.mp σ++m0⟩ ((x,cuV σ.rb p e tp2 by2 sv2 bad2 av2)::(tks2++(svs2++(bys2++(rest2++(d.co σ p++fr)))))) w:=by
  have st2:=zyd (A:=[]) hbs2 st;rw [e2] at st2;exact st2.pq
 have hcn:=I.xt.cn;have wp:i64.wrap ((p:Int)+1)=((p+1:Nat):Int):=W_;refine⟨a,O_,hi,some ⟨x,0,none⟩,hcell,rfl,tp2,st2.cell 0 rfl rfl,?_⟩;have st3:St ⟨W,d.mp σ++m0⟩ (tks2++((x,cuV σ.rb p e tp2 by2 sv2 bad2 av2)::(svs2++(bys2++(rest2++(d.co σ p++fr)))))) w:=st2.pq;refine s_x to2 st3 ?_
 have nx:∀ n',z9g s d i n'->F_y (p:Int) (λ(n_':Int) (t22':Int) w'=>(∃ p:Nat,t22'=(p:Int)/\p<=d.x.cl.len/\z9g s d i n_'/\St ⟨W,d.mp σ++m0⟩ (d.cs σ++fr) w')/\d.x.cl.len - t22'.toNat<d.x.cl.len - (p:Int).toNat) n' w:=λn' hn'=>by
  unfold F_y;rw [wp];exact⟨⟨p+1,rfl,O_,hn',st⟩,O_⟩
 have main:∀ same:Bool,(((!same)&&(zMe (some e.m)).2)=true->IsAt (Z0 x)/\∃(v44:Bool),w.cell? ⟨x,7,none⟩=some (Vo v44)/\F_h n (p:Int) (λ(n_':Int) (t22':Int) w'=>(∃ p:Nat,t22'=(p:Int)/\p<=d.x.cl.len/\z9g s d i n_'/\St ⟨W,d.mp σ++m0⟩ (d.cs σ++fr) w')/\d.x.cl.len - t22'.toNat<d.x.cl.len - (p:Int).toNat) (zMe (some e.m)).1 (!v44) w) /\
     (((!same)&&(zMe (some e.m)).2)=false->F_h n (p:Int) (λ(n_':Int) (t22':Int) w'=>(∃ p:Nat,t22'=(p:Int)/\p<=d.x.cl.len/\z9g s d i n_'/\St ⟨W,d.mp σ++m0⟩ (d.cs σ++fr) w')/\d.x.cl.len - t22'.toNat<d.x.cl.len - (p:Int).toNat) (zMe (some e.m)).1 false w):=λsame=>by
  refine⟨λh=>⟨rfl,e.ended,st2.cell 0 rfl rfl,?_⟩,λ_=> ?_⟩
  ·unfold F_h;refine⟨λhen=>nx _ ?_,λ_=>nx _ hn⟩;have hen:e.ended=false:=by simpa using hen
   have hbg:e.m.begun=true:=by
    unfold zMe at h;cases hb:e.m.begun with
    | true=>rfl
    | false=>simp [hb] at h
   have hm1:(zMe (some e.m)).1=e.m.mark:=by unfold zMe; simp [hbg]
   rw [hm1];have hmk:=to2.mark;split
   ·exact⟨⟨O_,by have:=hn.1; omega⟩,.inr ⟨p,e,he,hbg,hen,rfl⟩⟩
   ·exact hn
  ·unfold F_h;exact⟨N_,λ_=>nx _ hn⟩
 by_cases hxb:x=b
 ·subst hxb;exact⟨true,⟨_,_,rfl,rfl,.inl ⟨rfl,rfl⟩⟩,main true⟩
 ·refine⟨false,⟨_,_,rfl,rfl,.inr ⟨λh=>hxb (by injection h),rfl,?_,?_⟩⟩,main false⟩
  ·obtain⟨ta,lo,hi,h,rfl,rfl⟩:=st2.get 0 rfl;exact⟨_,ta,h⟩
  ·obtain⟨ta,lo,hi,h,rfl,rfl⟩:=(get st).get 0 rfl;exact⟨_,ta,h⟩
end
section
variable {W:World} {m0:List (Nat×Obj)} {w:World} {fr:List zb} {σ:RS} {d:RD} {log:List Tx} {fed:Nat} {s:TS}
theorem HdW.at {pool:List zb} {held:Slc} (h:HdW pool held):∃ os:List HO,held.len<=16384/\(∀ o∈os,o.2.2.len<=1024)/\∀(w0:Base) (L:List zb) (w':World),(∀ c∈pool,c∈L)->St w0 L w'->HdAt w' held os:=by
 obtain⟨l,⟨rb,hr,hm⟩,hl,hv⟩:=h
 have build:∀ l:List T_l,(∀ x∈l,∃ vs,InC pool x.Versions vs/\vs.length<=1024)->∃ os:List HO,os.flatMap hoT=l.flatMap hT/\∀ o∈os,InC pool o.2.2 o.2.1/\o.2.1.length<=1024:=λl=>by
  induction l with
  | nil=>exact λ_=>⟨[],rfl,λo ho=>(by cases ho)⟩
  | cons x l ih =>
   intro h;obtain⟨vs,h1,h2⟩:=h x (aI ..);obtain⟨os,e,ho⟩:=ih λy hy=>h y (aJ _ hy);refine⟨(x.Key,vs,x.Versions)::os,by rw [aY,aY,e],λo hm=> ?_⟩;rcases aU.1 hm with rfl | hm
   ·exact⟨h1,h2⟩
   ·exact ho o hm
 obtain⟨os,e,ho⟩:=build l hv;have hrl:=hr.len;rw [zc (sz:=2) (λ_=>rfl)] at hrl
 have vl:∀ o∈os,o.2.2.len<=1024:=λo h=>by
  obtain⟨⟨vb,hv,_⟩,h2⟩:=ho o h;have:=hv.len;rw [zc (sz:=3) (λ_=>rfl)] at this;omega
 refine⟨os,O_,vl,λw0 L w' hp st=>⟨by rw [e]; exact hr.srcM (λc hc=>hp c (hm c hc)) st,λo h=> ?_⟩⟩;obtain⟨⟨vb,hv,hvm⟩,h2⟩:=ho o h;have:=vl o h;exact⟨hv.srcM (λc hc=>hp c (hvm c hc)) st,O_⟩
def RD.ck (σ:RS) (d:RD) (i:Nat):List zb:=d.fcs++(d.dcs++(d.gcs++(fl d.LB++(fl d.OB++(d.lb++(d.gb++(d.PB++(d.x.cb++(fl (d.x.CB.eraseIdx i)++σ.fx)))))))))
theorem zel {i:Nat}:(d.cr σ i).Perm (d.x.kb++d.ck σ i):=by
 unfold RD.cr RD.ck;exact za λf_=>by simp <;> omega
theorem s_Bc {i b:Nat} {c:CS} {bs A:List zb} {mp:List (Nat×Obj)} {R:WP} (st:St ⟨W,mp⟩ (A++(d.cs σ++fr)) w) (hbs:d.x.CB[i]? =some bs) (o:CuO σ i b c bs) (hd:DkW (some σ.disk) d.x.kb)
    (k:∀ bs' l w',CuO σ i b c bs'->St ⟨W,mp⟩ (A++((d.cl i bs' c d.x.sv d.x.dead).cs σ++(l++fr))) w'->R w'):C_zb (Z0 b) w R:=by
 apply S_9;unfold F_1d;have o':=o;obtain⟨tp,sv,by_,bey,bad,av,tks,svs,bys,rest,hav,to,so,ro,hbl,hnum,hcfg,hrs,e0⟩:=o
 have st1:St ⟨W,mp⟩ ((b,cuV σ.rb i c tp by_ sv bad av)::(σ.rb,repV σ d.x d.line d.gone)::(tks++(svs++(bys++(rest++(d.x.kb++(A++(d.ck σ i++fr)))))))) w:=by
  have st2:=z4f hbs st;rw [e0] at st2;refine(st2.perm (l':=(b,cuV σ.rb i c tp by_ sv bad av)::(σ.rb,repV σ d.x d.line d.gone)::(tks++(svs++(bys++(rest++(A++(d.cr σ i++fr))))))) (za λf_=>by simp <;> omega)).perm ?_
  exact za λf_=>by
   have h1:((d.cr σ i).map f_).sum=((d.x.kb++d.ck σ i).map f_).sum:=((zel (σ:=σ) (d:=d) (i:=i)).map f_).sum_nat;simp at h1 ⊢; omega
 refine⟨rfl,c.m.call.Kind,st1.cell 0 rfl rfl,λ_=> ?_,λ_=>⟨rfl,tp,st1.cell 0 rfl rfl,?_⟩⟩
 ·refine k bs [] w o' (zwe hbs ?_);exact z4f hbs st
 have st2:St ⟨W,mp⟩ (tks++((b,cuV σ.rb i c tp by_ sv bad av)::(σ.rb,repV σ d.x d.line d.gone)::(svs++(bys++(rest++(d.x.kb++(A++(d.ck σ i++fr)))))))) w:=st1.pq;refine s_D to st2 λa held e pool w1 hh _ st3 b1 w2 hb1 hw2=> ?_;have st4:=st3.alloc (cs:=anT zAn) hb1 hw2;refine⟨st4.writable 0,λw3 hw3 w4 hd4=> ?_⟩;have st5:St ⟨W,mp⟩ ((b1,anT a)::(pool++(tks++((b,cuV σ.rb i c tp by_ sv bad av)::(σ.rb,repV σ d.x d.line d.gone)::(svs++(bys++(rest++(d.x.kb++(A++(d.ck σ i++fr)))))))))) w4:=(st4.put0 hw3).drew hd4;have st6:St ⟨W,mp⟩ ((b,cuV σ.rb i c tp by_ sv bad av)::(σ.rb,repV σ d.x d.line d.gone)::(b1,anT a)::(pool++(tks++(svs++(bys++(rest++(d.x.kb++(A++(d.ck σ i++fr))))))))) w4:=st5.pq;refine⟨rfl,_,st6.cell 0 rfl rfl,rfl,some σ.disk,st6.cell 1 rfl rfl,a.Mark,st6.cell 2 rfl rfl,rfl,by_,st6.cell 0 rfl rfl,?_⟩;obtain⟨os,hl,hv,hat⟩:=hh.at;have hbyl:=ro.len;rw [lM,aW] at hbyl;have st7:St ⟨W,mp⟩ (d.x.kb++((b,cuV σ.rb i c tp by_ sv bad av)::(σ.rb,repV σ d.x d.line d.gone)::(b1,anT a)::(pool++(tks++(svs++(bys++(rest++(A++(d.ck σ i++fr))))))))) w4:=st6.pq;refine s_Db (bey:=bey) (os:=os) st7 hd ⟨λmp' l w' st'=>ro.srcM (λc hc=>by simp [hc]) st',λmp' l w' st'=>hat _ _ w' (λc hc=>by simp [hc]) st',by show by_.len<=_; omega,by show held.len<=_; omega,λo ho=>by have:=hv o ho; omega⟩ hl hv λt e2 scs w5 hs _ st8=> ?_;have st8:St ⟨W,mp⟩ ((b,cuV σ.rb i c tp by_ sv bad av)::(σ.rb,repV σ d.x d.line d.gone)::(b1,anT a)::(scs++(pool++(tks++(svs++(bys++(rest++(d.x.kb++(A++(d.ck σ i++fr)))))))))) w5:=st8.pq;refine⟨rfl,st8.writable 0 rfl (by simp [poff,hav]),λw6 hw6=> ?_⟩;have st9:St ⟨W,mp⟩ ((b,cuV σ.rb i c tp by_ t bad av)::(σ.rb,repV σ d.x d.line d.gone)::(b1,anT a)::(scs++(pool++(tks++(svs++(bys++(rest++(d.x.kb++(A++(d.ck σ i++fr)))))))))) w6:=st8.put0 hw6;refine⟨rfl,st9.writable 0 rfl (by simp [poff,hav]),λw7 hw7=> ?_⟩;have st10:St ⟨W,mp⟩ ((b,cuV σ.rb i c tp by_ t e2 av)::(σ.rb,repV σ d.x d.line d.gone)::(b1,anT a)::(scs++(pool++(tks++(svs++(bys++(rest++(d.x.kb++(A++(d.ck σ i++fr)))))))))) w7:=st9.put0 hw7;refine k ((b,cuV σ.rb i c tp by_ t e2 av)::(tks++(scs++(bys++rest)))) ((b1,anT a)::(pool++svs)) w7 ⟨tp,t,by_,bey,e2,av,tks,scs,bys,rest,hav,to,hs,ro,hbl,hnum,hcfg,hrs,rfl⟩ (zwe hbs ?_);change St ⟨W,mp⟩ ((σ.rb,repV σ d.x d.line d.gone)::(((b,cuV σ.rb i c tp by_ t e2 av)::(tks++(scs++(bys++rest))))++(A++(d.cr σ i++(((b1,anT a)::(pool++svs))++fr))))) w7;refine st10.perm (za λf_=> ?_);have h1:((d.cr σ i).map f_).sum=((d.x.kb++d.ck σ i).map f_).sum:=((zel (σ:=σ) (d:=d) (i:=i)).map f_).sum_nat;simp at h1 ⊢; omega
end
section
variable {W:World} {m0:List (Nat×Obj)} {w:World} {fr:List zb} {σ:RS} {d:RD} {log:List Tx} {fed:Nat} {s:TS}
theorem Ck0_ {w0:Base} {b_ b1:Nat} {e0 e1:T_a} {L:List zb} {R:T_a->WP} (st:St w0 ((b_,evV e0)::(b1,evV e1)::L) w) (k:∀ ev w',St w0 L w'->R ev w'):F_c R b_ b1 w:=by
 unfold F_c;refine⟨e1,(st.get 1 rfl).all,st.writable 0,λw5 hw5=> ?_⟩;have st2:St w0 ((b_,evV e1)::(b1,evV e1)::L) w5:=st.put0 hw5;exact⟨e1,(st2.get 0 rfl).all,k _ _ st2.drop1.drop1⟩
theorem s_cd {i b:Nat} {c:CS} {bs:List zb} {mp:List (Nat×Obj)} {R:T_a->WP} (st:St ⟨W,mp⟩ (d.cs σ++fr) w) (hbs:d.x.CB[i]? =some bs) (o:CuO σ i b c bs)
    (k:∀ ev bs' v l w',CuO σ i b {c with ended:=true} bs'->St ⟨W,mp⟩ ((d.cl i bs' {c with ended:=true} v d.x.dead).cs σ++(l++fr)) w'->R ev w'):C_t (Z0 b) 12 w R:=by
 apply S_e;unfold F_W;have o':=o;obtain⟨tp,sv,by_,bey,bad,av,tks,svs,bys,rest,hav,to,so,ro,hbl,hnum,hcfg,hrs,e0⟩:=o;intro b_ w1 hb_ hw1;have st1:St ⟨W,mp⟩ ((b_,evV ev0)::(d.cs σ++fr)) w1:=st.alloc (cs:=evV ev0) hb_ hw1
 have get:∀ {L:List zb} {w':World},St ⟨W,mp⟩ (L++(d.cs σ++fr)) w'->St ⟨W,mp⟩ ((b,cuV σ.rb i c tp by_ sv bad av)::(tks++(svs++(bys++(rest++(L++(d.co σ i++fr))))))) w':=λ{L w'} st=>by
  have st2:=zyd hbs st;rw [e0] at st2;exact st2.pq
 refine⟨rfl,_,(get (L:=[(b_,evV ev0)]) st1).cell 0 rfl rfl,λb1 w2 hb1 hw2=> ?_⟩;have st2:St ⟨W,mp⟩ ((b1,evV ev0)::(b_,evV ev0)::(d.cs σ++fr)) w2:=st1.alloc (cs:=evV ev0) hb1 hw2;refine⟨st2.writable 0,λw3 hw3=> ?_⟩;have st3:St ⟨W,mp⟩ ((b1,evV ⟨0,0,-1 - (i:Int),0,0,0⟩)::(b_,evV ev0)::(d.cs σ++fr)) w3:=st2.put0 hw3;refine⟨N_,λ_=>⟨N_,λ_=>⟨N_,λ_=>⟨λ_=> ?_,N_⟩⟩⟩⟩;have g3:=get (L:=[(b1,evV ⟨0,0,-1 - (i:Int),0,0,0⟩),(b_,evV ev0)]) st3;refine⟨rfl,tp,g3.cell 0 rfl rfl,?_⟩;have st4:St ⟨W,mp⟩ (tks++((b,cuV σ.rb i c tp by_ sv bad av)::(svs++(bys++(rest++([(b1,evV ⟨0,0,-1 - (i:Int),0,0,0⟩),(b_,evV ev0)]++(d.co σ i++fr))))))) w3:=g3.pq;refine s_D to st4 λa held e pool w4 _ _ st5 b3 w5 hb3 hw5=> ?_;have st6:=st5.alloc (cs:=anT zAn) hb3 hw5;refine⟨st6.writable 0,λw6 hw6=> ?_⟩;have st7:St ⟨W,mp⟩ ((b3,anT a)::(pool++(tks++((b,cuV σ.rb i c tp by_ sv bad av)::(svs++(bys++(rest++([(b1,evV ⟨0,0,-1 - (i:Int),0,0,0⟩),(b_,evV ev0)]++(d.co σ i++fr))))))))) w6:=st6.put0 hw6
 have k2:∀ {a:T_m} {w':World},St ⟨W,mp⟩ ((b3,anT a)::(pool++(tks++((b,cuV σ.rb i c tp by_ sv bad av)::(svs++(bys++(rest++([(b1,evV ⟨0,0,-1 - (i:Int),0,0,0⟩),(b_,evV ev0)]++(d.co σ i++fr))))))))) w'->F_ab (Z0 b) R b_ b1 b3 w':=λ{a w'} st'=>by
  unfold F_ab;refine⟨a,(st'.get 0 rfl).all,?_⟩
  have st8:St ⟨W,mp⟩ (([(b_,evV ev0),(b1,evV ⟨0,0,-1 - (i:Int),0,0,0⟩),(b3,anT a)]++pool)++(d.cs σ++fr)) w':=by
   refine zsg hbs ?_;rw [e0];exact st'.pq
  refine s_Kb st8 hbs o' λbs' v l w9 o9 st9=> ?_;refine Ck0_ (L:=([(b3,anT a)]++pool)++((d.cl i bs' {c with ended:=true} v d.x.dead).cs σ++(l++fr))) st9 λev w10 st10=> ?_;exact k ev bs' v (([(b3,anT a)]++pool)++l) w10 o9 (st10.pq)
 have g7:St ⟨W,mp⟩ ((b,cuV σ.rb i c tp by_ sv bad av)::(b3,anT a)::(pool++(tks++(svs++(bys++(rest++([(b1,evV ⟨0,0,-1 - (i:Int),0,0,0⟩),(b_,evV ev0)]++(d.co σ i++fr)))))))) w6:=st7.pq;refine⟨rfl,bad,g7.cell 0 rfl rfl,λ_ w7 hd=> ?_,λ_=>k2 st7⟩;have st9:=st7.drew hd;have g9:=g7.drew hd;refine⟨rfl,bad,g9.cell 0 rfl rfl,a.Mark,st9.cell 0 rfl rfl,st9.writable 0,λw8 hw8=> ?_⟩;exact k2 (a:=⟨bad,a.Mark,false,⟨none,0,0⟩,0⟩) (st9.put0 hw8)
theorem Ck1_ {w0:Base} {b_ b1:Nat} {e0 e1:T_a} {n:Int} {L:List zb} {R:T_a->WP} (st:St w0 ((b_,evV e0)::(b1,evV e1)::L) w) (k:∀ ev w',St w0 L w'->R ev w'):F_9 R b_ b1 n w:=by
 unfold F_9;have st1:St w0 ((b1,evV e1)::(b_,evV e0)::L) w:=st.perm (List.Perm.swap _ _ _);refine⟨st1.writable 0,λw5 hw5=> ?_⟩;have st2:St w0 ((b1,evV ⟨e1.Task,e1.Kind,e1.Number,e1.Shard,i64.wrap (n - 1),e1.Mark⟩)::(b_,evV e0)::L) w5:=st1.put0 hw5;exact Ck0_ (st2.perm (List.Perm.swap _ _ _)) k
theorem s_Zc {i b:Nat} {c:CS} {bs:List zb} {mp:List (Nat×Obj)} {R:T_a->WP} (st:St ⟨W,mp⟩ (d.cs σ++fr) w) (hbs:d.x.CB[i]? =some bs) (o:CuO σ i b c bs) (hd:DkW (some σ.disk) d.x.kb)
    (k:∀ ev kb' bs' c' v e l w',DkW (some σ.disk) kb'->(c'=c/\e=d.x.dead)\/(c'={c with ended:=true}/\e=true)->CuO σ i b c' bs'->St ⟨W,mp⟩ ((({d with x:={d.x with kb:=kb'}}:RD).cl i bs' c' v e).cs σ++(l++fr)) w'->R ev w'):C_t (Z0 b) 11 w R:=by
 apply S_e;unfold F_W;obtain⟨tp,sv,by_,bey,bad,av,tks,svs,bys,rest,hav,to,so,ro,hbl,hnum,hcfg,hrs,e0⟩:=o;intro b_ w1 hb_ hw1;have st1:St ⟨W,mp⟩ ((b_,evV ev0)::(d.cs σ++fr)) w1:=st.alloc (cs:=evV ev0) hb_ hw1
 have get:∀ {L:List zb} {w':World},St ⟨W,mp⟩ (L++(d.cs σ++fr)) w'->St ⟨W,mp⟩ ((b,cuV σ.rb i c tp by_ sv bad av)::(tks++(svs++(bys++(rest++(L++(d.co σ i++fr))))))) w':=λ{L w'} st=>by
  have st2:=zyd hbs st;rw [e0] at st2;exact st2.pq
 refine⟨rfl,_,(get (L:=[(b_,evV ev0)]) st1).cell 0 rfl rfl,λb1 w2 hb1 hw2=> ?_⟩;have st2:St ⟨W,mp⟩ ((b1,evV ev0)::(b_,evV ev0)::(d.cs σ++fr)) w2:=st1.alloc (cs:=evV ev0) hb1 hw2;refine⟨st2.writable 0,λw3 hw3=> ?_⟩;have st3:St ⟨W,mp⟩ ((b1,evV ⟨0,0,-1 - (i:Int),0,0,0⟩)::(b_,evV ev0)::(d.cs σ++fr)) w3:=st2.put0 hw3;refine⟨N_,λ_=>⟨N_,λ_=>⟨λ_=> ?_,N_⟩⟩⟩
 have ck:∀ f_:zb->Nat,((d.co σ i).map f_).sum=f_ (σ.rb,repV σ d.x d.line d.gone)+((d.x.kb).map f_).sum+((d.ck σ i).map f_).sum:=λf_=>by
  have h1:((d.cr σ i).map f_).sum=((d.x.kb++d.ck σ i).map f_).sum:=((zel (σ:=σ) (d:=d) (i:=i)).map f_).sum_nat;have h2:((d.co σ i).map f_).sum=f_ (σ.rb,repV σ d.x d.line d.gone)+((d.cr σ i).map f_).sum:=by show(((σ.rb,repV σ d.x d.line d.gone)::d.cr σ i).map f_).sum=_; simp
  simp at h1; omega
 have g3:=get (L:=[(b1,evV ⟨0,0,-1 - (i:Int),0,0,0⟩),(b_,evV ev0)]) st3;have s3:St ⟨W,mp⟩ (svs++((b,cuV σ.rb i c tp by_ sv bad av)::(tks++(bys++(rest++([(b1,evV ⟨0,0,-1 - (i:Int),0,0,0⟩),(b_,evV ev0)]++(d.co σ i++fr))))))) w3:=g3.pq;refine⟨rfl,sv,g3.cell 0 rfl rfl,s_8 s3 so λn=>⟨rfl,sv,g3.cell 0 rfl rfl,?_⟩⟩;have s4:St ⟨W,mp⟩ (d.x.kb++(svs++((b,cuV σ.rb i c tp by_ sv bad av)::(σ.rb,repV σ d.x d.line d.gone)::(tks++(bys++(rest++([(b1,evV ⟨0,0,-1 - (i:Int),0,0,0⟩),(b_,evV ev0)]++(d.ck σ i++fr)))))))) w3:=s3.perm (za λf_=>by have:=ck f_; simp; omega);refine s_Mc s4 hd so λe kb' svs' w4 hd' so' s5=> ?_;obtain⟨d1,hd1⟩:∃ d1:RD,d1={d with x:={d.x with kb:=kb'}}:=⟨_,rfl⟩
 have hbs1:d1.x.CB[i]? =some bs:=by rw [hd1]; exact hbs
 obtain⟨bs1,hb1e⟩:∃ bs1,bs1=(b,cuV σ.rb i c tp by_ sv bad av)::(tks++(svs'++(bys++rest))):=⟨_,rfl⟩
 have o1:CuO σ i b c bs1:=⟨tp,sv,by_,bey,bad,av,tks,svs',bys,rest,hav,to,so',ro,hbl,hnum,hcfg,hrs,hb1e⟩
 have s6:St ⟨W,mp⟩ ([(b_,evV ev0),(b1,evV ⟨0,0,-1 - (i:Int),0,0,0⟩)]++((d1.cl i bs1 c d.x.sv d.x.dead).cs σ++fr)) w4:=by
  refine zwe hbs1 ?_
  have ck1:∀ f_:zb->Nat,((d1.cr σ i).map f_).sum=(kb'.map f_).sum+((d.ck σ i).map f_).sum:=λf_=>by
   have h1:((d1.cr σ i).map f_).sum=((d1.x.kb++d1.ck σ i).map f_).sum:=((zel (σ:=σ) (d:=d1) (i:=i)).map f_).sum_nat;rw [h1,hd1];show((kb'++d.ck σ i).map f_).sum=_;simp
  have hr:repV σ {d1.x with sv:=d.x.sv,dead:=d.x.dead} d1.line d1.gone=repV σ d.x d.line d.gone:=by rw [hd1]; rfl
  rw [hr,hb1e];exact s5.perm (za λf_=>by have:=ck1 f_; simp; omega)
 have hbs2:(d1.cl i bs1 c d.x.sv d.x.dead).x.CB[i]? =some bs1:=aL (gSo hbs1).1;refine⟨λ_=> ?_,λ_=> ?_⟩
 rotate_left
 ·refine Ck1_ (L:=(d1.cl i bs1 c d.x.sv d.x.dead).cs σ++fr) s6 λev w' st'=> ?_;exact k ev kb' bs1 c d.x.sv d.x.dead [] w' hd' (.inl ⟨rfl,rfl⟩) o1 (by rw [<-hd1]; exact st')
 have g6:=zyd hbs2 s6;rw [hb1e] at g6;have s7:St ⟨W,mp⟩ (tks++((b,cuV σ.rb i c tp by_ sv bad av)::(svs'++(bys++(rest++([(b_,evV ev0),(b1,evV ⟨0,0,-1 - (i:Int),0,0,0⟩)]++((d1.cl i ((b,cuV σ.rb i c tp by_ sv bad av)::(tks++(svs'++(bys++rest)))) c d.x.sv d.x.dead).co σ i++fr))))))) w4:=g6.pq;refine⟨rfl,tp,g6.cell 0 rfl rfl,s_x to s7 ?_⟩;refine s_Kb s6 hbs2 o1 λbs' v l w9 o9 st9=> ?_;obtain⟨d4,hd4⟩:∃ d4:RD,d4=d1.cl i bs' {c with ended:=true} v true:=⟨_,rfl⟩
 have e3:∃ T:List zb,((d1.cl i bs1 c d.x.sv d.x.dead).cl i bs' {c with ended:=true} v (d1.cl i bs1 c d.x.sv d.x.dead).x.dead).cs σ=(σ.rb,repV σ {d1.x with sv:=v,dead:=d.x.dead} d1.line d1.gone)::T/\d4.cs σ=(σ.rb,repV σ {d1.x with sv:=v,dead:=true} d1.line d1.gone)::T:=by
  rw [hd4];refine⟨_,rfl,?_⟩;unfold RD.cl RD.cs RX.yb;simp only [List.set_set];rfl
 obtain⟨T,e3,e4⟩:=e3;rw [e3] at st9;have st10:St ⟨W,mp⟩ ((σ.rb,repV σ {d1.x with sv:=v,dead:=d.x.dead} d1.line d1.gone)::(b_,evV ev0)::(b1,evV ⟨0,0,-1 - (i:Int),0,0,0⟩)::(T++(l++fr))) w9:=st9.pq
 have hcell:w9.cell? ⟨b,0,none⟩=some (aP σ.rb):=by
  have hb3:((d1.cl i bs1 c d.x.sv d.x.dead).cl i bs' {c with ended:=true} v (d1.cl i bs1 c d.x.sv d.x.dead).x.dead).x.CB[i]? =some bs':=aL (gSo hbs2).1;rw [<-e3] at st9;have g9:=zyd hb3 st9;obtain⟨tp',sv',by',bey',bad',av',tks',svs2,bys',rest',_,_,_,_,_,_,_,_,e9⟩:=o9;rw [e9] at g9;exact g9.cell 0 rfl rfl
 refine⟨rfl,_,hcell,rfl,st10.writable 0,λw10 hw10=> ?_⟩;have st11:St ⟨W,mp⟩ ((σ.rb,repV σ {d1.x with sv:=v,dead:=true} d1.line d1.gone)::(b_,evV ev0)::(b1,evV ⟨0,0,-1 - (i:Int),0,0,0⟩)::(T++(l++fr))) w10:=st10.put0 hw10;refine Ck1_ (e0:=ev0) (e1:=⟨0,0,-1 - (i:Int),0,0,0⟩) (L:=d4.cs σ++(l++fr)) (by rw [e4]; exact st11.pq) λev w' st'=> ?_;exact k ev kb' bs' {c with ended:=true} v true l w' hd' (.inr ⟨rfl,rfl⟩) o9 (by rw [<-hd1,<-hd4]; exact st')
end
theorem zom {n:Int} {vs:List Ver} (hr:zhe vs):(vs.drop (upF n vs)).countP (λv=>decide (v.Number<=n))=0:=by
 rw [fL];intro a ha;obtain⟨i,hi⟩:=bG.1 ha;rw [dK] at hi;have:=zVc (at_:=n) hr hi;simp only [decide_eq_true_eq];omega
theorem Few.coll {M:SM} (n:Int) (h:∀ k,okC 0 (M k)=true):Few (zjj n M) n:=λk=>by
 obtain⟨hr,_⟩:=zHb.1 (h k);have h0:=zom (n:=n) hr;show((M k).drop (upF n (M k) - 1)).countP _<=1;cases hu:upF n (M k) with
 | zero =>
  rw [hu] at h0;show((M k).drop 0).countP _<=1;omega
 | succ t =>
  have hl:=zef n (M k);rw [hu] at h0;show((M k).drop t).countP _<=1;rw [bO (show t<(M k).length by omega),gC,h0];split <;> omega
theorem Few.sub {M:SM} {n:Int} (m:Int) (h:Few M n):Few (zjj m M) n:=λk=>cH (List.Sublist.countP_le (gV _ _)) (h k)
theorem Few.srv {M:SM} {n:Int} (q:Cq) (h:Few M n):Few (srvM q M) n:=by
 unfold srvM;split
 ·exact h.sub _
 ·exact h
theorem StO.srv {M:SM} {l:List IW} (q:Cq) (h:StO M l):StO (srvM q M) l:=by
 unfold srvM;split
 ·intro k;obtain⟨h1,h2⟩:=h k;obtain⟨hr,hm⟩:=zHb.1 h1;have sub:((M k).drop (upF q.num (M k) - 1)).Sublist (M k):=gV _ _;exact⟨zHb.2 ⟨hr.sublist sub,λv hv=>hm v (sub.subset hv)⟩,λy hy=>h2 y (sub.subset hy)⟩
 ·exact h
theorem CI.upd {mark:Nat} {Q:List (List QE)} {Ms:List SM} {C:List CS} {inst:List (List IW)} {p i:Nat} {c c':CS} (ci:CI mark Q Ms C inst p) (hc:C[i]? =some c) (h:CoI mark Q Ms i c->CoI mark Q Ms i c'):CI mark Q Ms (C.set i c') inst p :=
 ⟨ci.il,ci.ip,λj e he=>by
  rcases zE he with ⟨rfl,rfl⟩ | ⟨_,he⟩
  ·exact h (ci.co _ c hc)
  ·exact ci.co j e he⟩
theorem CoI.ended {mark:Nat} {Q:List (List QE)} {Ms:List SM} {i:Nat} {c:CS} (h:CoI mark Q Ms i c):CoI mark Q Ms i { c with ended:=true }:=⟨h.out,h.nb,h.le,h.rst,h.rqs,h.few⟩
theorem z8e {i:Nat} {Q:List (List QE)} (h:cntQ i Q=0) {q:List QE} (hq:q∈Q) {e:QE} (he:e∈q):e.of i=false:=by
 unfold cntQ at h
 have h1:q.countP (QE.of i)<=(Q.map λq=>q.countP (QE.of i)).sum:=by
  have:∀ Q:List (List QE),q∈Q->q.countP (QE.of i)<=(Q.map λq=>q.countP (QE.of i)).sum:=λQ=>by
   induction Q with
   | nil=>intro h; cases h
   | cons x Q ih =>
    intro h;rw [cG,gE];rcases aU.1 h with rfl | h
    ·omega
    ·have:=ih h; omega
  exact this Q hq
 have h2:q.countP (QE.of i)=0:=O_;rw [fL] at h2;have:=h2 e he;simpa using this
theorem CoI.begin {mark:Nat} {Q:List (List QE)} {Ms:List SM} {i:Nat} {c:CS} {mk least:Int} {bey:List Int} (h:CoI mark Q Ms i c) (hb:c.m.begun=false) (hl:least<=(mark:Int)) (hQ:(Q.length:Int)=c.m.cfg.Shards) :
    CoI mark Q Ms i { c with m:={ c.m with begun:=true,mark:=mk,rest:=z0b c.m mk least bey },least:=least }:=by
 obtain⟨a1,a2,a3,a4,a5,a6⟩:=h;obtain⟨b1,b2⟩:=a2 hb;refine⟨a1,N_,λ_ _=>hl,λh3 e he=> ?_,λh3 q hq s x hx=> ?_,λ_ h3 k q M hk hM=> .inl ?_⟩
 ·have h3:c.m.call.Kind=3:=h3;have he:e∈z0b c.m mk least bey:=he;unfold z0b at he;obtain⟨k,_,rfl⟩:=aQ.1 he;show(reqM c.m mk least bey).kind=4/\(reqM c.m mk least bey).num=least;unfold reqM;rw [if_neg O_,if_neg O_,if_pos h3];exact⟨rfl,rfl⟩
 ·have:=z8e (show cntQ i Q=0 by omega) hq hx;unfold QE.of at this;simp at this
 ·have h3:c.m.call.Kind=3:=h3;have hkl:=(gSo hk).1;refine⟨((k:Int),reqM c.m mk least bey),?_,rfl⟩;show _∈z0b c.m mk least bey;unfold z0b zBb;rw [if_neg O_];exact aQ.2 ⟨(k:Int),aQ.2 ⟨k,dC.2 O_,rfl⟩,rfl⟩
theorem CI.sent {mark:Nat} {Q:List (List QE)} {Ms:List SM} {C:List CS} {inst:List (List IW)} {p i k:Nat} {c:CS} {q:List QE} {s:Slc} {x:Cq} {r:List (Int×Cq)} (ci:CI mark Q Ms C inst p) (hc:C[i]? =some c) (hr:c.m.rest=((k:Int),x)::r) (hq:Q[k]? =some q) :
    CI mark (Q.set k (q++[.rq s i x])) Ms (C.set i { c with m:={ c.m with rest:=r,out:=c.m.out+1 } }) inst p :=
 ⟨ci.il,ci.ip,λj e he=>by
  have hcn:=zWe (i:=j) (q':=q++[.rq s i x]) hq;rw [eT] at hcn;rcases zE he with ⟨rfl,rfl⟩ | ⟨hne,he⟩
  ·obtain⟨a1,a2,a3,a4,a5,a6⟩:=ci.co _ c hc;have h1:[QE.rq s j x].countP (QE.of j)=1:=by simp [QE.of]
   refine⟨by show c.m.reps.length+_=c.m.out+1; omega,λhb=> ?_,a3,λh3 e he=>a4 h3 e (by rw [hr]; exact aJ _ he),λh3 q' hq' s' x' hx=> ?_,λhb h3 k' q' M hk hM=> ?_⟩
   ·have:=(a2 hb).1;rw [hr] at this; cases this
   ·rcases zvb hq' with h | rfl
    ·exact a5 h3 q' h s' x' hx
    ·rcases aG.1 hx with hx | hx
     ·exact a5 h3 q (mG hq) s' x' hx
     ·simp at hx;obtain⟨rfl,rfl⟩:=hx;exact a4 h3 ((k:Int),x') (by rw [hr]; exact aI ..)
   ·rcases zE hk with ⟨rfl,rfl⟩ | ⟨hne,hk⟩
    ·exact .inr (.inl ⟨.rq s j x,aH _ (bK.2 rfl),by simp [QE.of]⟩)
    ·rcases a6 hb h3 k' q' M hk hM with ⟨e,he,h⟩ | h | h
     ·refine .inl ⟨e,?_,h⟩;rw [hr] at he;rcases aU.1 he with rfl | he
      ·have h:((k:Nat):Int)=(k':Int):=h;omega
      ·exact he
     ·exact .inr (.inl h)
     ·exact .inr (.inr h)
  ·obtain⟨a1,a2,a3,a4,a5,a6⟩:=ci.co j e he
   have h1:[QE.rq s i x].countP (QE.of j)=0:=by
    rw [fL];intro y hy;obtain rfl:=bK.1 hy;simp only [QE.of,beq_iff_eq];exact λe=>hne e.symm
   refine⟨O_,a2,a3,a4,λh3 q' hq' s' x' hx=> ?_,λhb h3 k' q' M hk hM=> ?_⟩
   ·rcases zvb hq' with h | rfl
    ·exact a5 h3 q' h s' x' hx
    ·rcases aG.1 hx with hx | hx
     ·exact a5 h3 q (mG hq) s' x' hx
     ·simp at hx;exact absurd hx.2.1 hne
   ·rcases zE hk with ⟨rfl,rfl⟩ | ⟨_,hk⟩
    ·rcases a6 hb h3 k' q M hq hM with h | ⟨e,he,h⟩ | h
     ·exact .inl h
     ·exact .inr (.inl ⟨e,bB _ he,h⟩)
     ·exact .inr (.inr h)
    ·exact a6 hb h3 k' q' M hk hM⟩
theorem CI.got {mark:Nat} {Q:List (List QE)} {Ms:List SM} {C:List CS} {inst:List (List IW)} {p i k:Nat} {c:CS} {s:Slc} {x:Cq} {r:List QE} {M:SM} {rp:Rp} (ci:CI mark Q Ms C inst p) (hc:C[i]? =some c) (hq:Q[k]? =some (.rq s i x::r)) (hM:Ms[k]? =some M) (hok:∀ k,okC 0 (M k)=true) :
    c.m.reps.length<c.m.out/\CI mark (Q.set k r) (Ms.set k (srvM x M)) (C.set i { c with m:={ c.m with reps:=c.m.reps++[rp] } }) inst p:=by
 have cn:∀ j,cntQ j (Q.set k r)+(if i=j then 1 else 0)=cntQ j Q:=λj=>by
  have hcn:=zWe (i:=j) (q':=r) hq;rw [gC] at hcn;by_cases hij:i=j
  ·rw [if_pos hij]; rw [if_pos (by simp [QE.of,hij])] at hcn; omega
  ·rw [if_neg hij]; rw [if_neg (by simp [QE.of,hij])] at hcn; omega
 refine⟨?_,ci.il,ci.ip,λj e he=> ?_⟩
 ·have:=(ci.co i c hc).out;have:=cn i;rw [if_pos rfl] at this;omega
 ·have key:∀ e:CS,CoI mark Q Ms j e->(e.m.call.Kind=3->∀ q'∈Q.set k r,∀ s' x',QE.rq s' j x'∈q'->x'.kind=4/\x'.num=e.least) /\
      (e.m.begun=true->e.m.call.Kind=3->∀(k':Nat) q' N,(Q.set k r)[k']? =some q'->(Ms.set k (srvM x M))[k']? =some N->(∃ y∈e.m.rest,y.1=(k':Int))\/(∃ y∈q',y.of j=true)\/Few N e.least):=λe co=>by
    obtain⟨a1,a2,a3,a4,a5,a6⟩:=co;refine⟨λh3 q' hq' s' x' hx=> ?_,λhb h3 k' q' N hk hN=> ?_⟩
    ·rcases zvb hq' with h | rfl
     ·exact a5 h3 q' h s' x' hx
     ·exact a5 h3 _ (mG hq) s' x' (aJ _ hx)
    ·rcases zE hk with ⟨rfl,rfl⟩ | ⟨hne,hk⟩
     ·rcases zE hN with ⟨_,rfl⟩ | ⟨hne,_⟩
      ·rcases a6 hb h3 k' _ M hq hM with h | ⟨y,hy,h⟩ | h
       ·exact .inl h
       ·rcases aU.1 hy with rfl | hy
        ·have hij:i=j:=by simpa [QE.of] using h
         subst hij;obtain⟨b1,b2⟩:=a5 h3 _ (mG hq) s x (aI ..);refine .inr (.inr ?_);unfold srvM;rw [if_pos b1,b2];exact Few.coll _ hok
        ·exact .inr (.inl ⟨y,hy,h⟩)
       ·exact .inr (.inr (h.srv x))
      ·exact absurd rfl hne
     ·rcases zE hN with ⟨e,_⟩ | ⟨_,hN⟩
      ·exact absurd e hne
      ·exact a6 hb h3 k' q' N hk hN
  have hcn:=cn j;rcases zE he with ⟨rfl,rfl⟩ | ⟨hne,he⟩
  ·have co:=ci.co _ c hc;rw [if_pos rfl] at hcn;obtain⟨k1,k2⟩:=key c co;have hout:=co.out;exact⟨by show(c.m.reps++[rp]).length+_=c.m.out; rw [aB,bT]; omega,co.nb,co.le,co.rst,k1,k2⟩
  ·have co:=ci.co j e he;rw [if_neg (λe=>hne e.symm)] at hcn;obtain⟨k1,k2⟩:=key e co;have hout:=co.out;exact⟨O_,co.nb,co.le,co.rst,k1,k2⟩
theorem CoI.all {mark:Nat} {Q:List (List QE)} {Ms:List SM} {i:Nat} {c:CS} (h:CoI mark Q Ms i c) (ha:allM (some c.m)=true) (h3:c.m.call.Kind=3) {k:Nat} {q:List QE} {M:SM} (hk:Q[k]? =some q) (hM:Ms[k]? =some M):Few M c.least:=by
 unfold allM at ha;simp only [aD,List.isEmpty_iff,decide_eq_true_eq] at ha;obtain⟨hb,hr,ho⟩:=ha;have hout:=h.out;rcases h.few hb h3 k q M hk hM with ⟨e,he,_⟩ | ⟨e,he,h⟩ | h
 ·rw [hr] at he; cases he
 ·rw [z8e (show cntQ i Q=0 by omega) (mG hk) he] at h; cases h
 ·exact h
theorem zfl {Q:List (List QE)} {n:Nat} (h:∀ q∈Q,∀ e∈q,e.ok n):cntQ n Q=0:=by
 unfold cntQ
 have:∀ Q:List (List QE),(∀ q∈Q,∀ e∈q,e.ok n)->(Q.map λq=>q.countP (QE.of n)).sum=0:=λQ=>by
  induction Q with
  | nil=>intro _; rfl
  | cons x Q ih =>
   intro h;rw [cG,gE,ih λq hq=>h q (aJ _ hq)]
   have:x.countP (QE.of n)=0:=by
    rw [fL];intro e he;have:=h x (aI ..) e he;cases e with
    | ins s i z=>simp [QE.of]
    | rq s c q =>
     have hc:c<n:=this.2.2;simp only [QE.of,beq_iff_eq];omega
   omega
 exact this Q h
theorem CI.new {mark:Nat} {Q:List (List QE)} {Ms:List SM} {C:List CS} {inst:List (List IW)} {p:Nat} {c:CS} (ci:CI mark Q Ms C inst p) (hz:∀ q∈Q,∀ e∈q,e.ok C.length) (h1:c.m.reps=[]) (h2:c.m.out=0) (h3:c.m.begun=false) (h4:c.m.rest=[]):CI mark Q Ms (C++[c]) inst p :=
 ⟨ci.il,ci.ip,λj e he=>by
  rw [List.getElem?_append] at he;split at he
  ·exact ci.co j e he
  ·rename_i hj
   have hj0:j - C.length=0:=by
    have:=(gSo he).1;simp at this; omega
   rw [hj0] at he;obtain rfl:c=e:=by simpa using he
   have hjc:j=C.length:=O_;subst hjc;have h0:=zfl hz
   exact⟨by rw [h1,h2,h0]; rfl,λ_=>⟨h4,h2⟩,λh=>(by rw [h3] at h; cases h),λ_ e he=>(by rw [h4] at he; cases he),λ_ q hq s x hx=>(by
    have:=z8e h0 hq hx;simp [QE.of] at this),λh=>(by rw [h3] at h; cases h)⟩⟩
section
variable {W:World} {m0:List (Nat×Obj)} {w:World} {fr:List zb} {σ:RS} {d:RD} {log:List Tx} {fed:Nat} {s:TS}
def CAt (σ:RS) (d:RD) (i b:Nat) (c:CS) (bs:List zb):Prop :=
 d.C[i]? =some c/\d.x.CB[i]? =some bs/\CuO σ i b c bs/\∃ ps:List Nat,(RowC 1 d.x.cl (ps.map aP) d.x.cb/\ps.length=d.C.length/\d.x.CB.length=d.C.length/\∀(i:Nat) c,d.C[i]? =some c->∃ b bs,ps[i]? =some b/\d.x.CB[i]? =some bs/\CuO σ i b c bs)/\ps[i]? =some b
theorem RepI.call {i:Nat} {c:CS} (I:RepI σ d log fed s) (hc:d.C[i]? =some c):∃ b bs,CAt σ d i b c bs:=by
 obtain⟨ps,h⟩:=I.xt.cal;obtain⟨b,bs,h1,h2,h3⟩:=h.2.2.2 i c hc;exact⟨b,bs,hc,h2,h3,ps,h,h1⟩
theorem RepI.cl {i b:Nat} {c c':CS} {bs bs':List zb} {v e:Bool} (I:RepI σ d log fed s) (h:CAt σ d i b c bs) (o':CuO σ i b c' bs'):RepI σ (d.cl i bs' c' v e) log fed s/\CAt σ (d.cl i bs' c' v e) i b c' bs':=by
 obtain⟨hc,hbs,o,ps,hr,hb⟩:=h;have X:=I.xt.call (bs:=bs) hc hr hb o';have I2:RepI σ (d.cl i bs' c' v e) log fed s:={ ok:=I.ok,feed:=I.feed,deps:=I.deps,top:=I.top,gate:=I.gate,ll:=I.ll,lB:=I.lB,lane:=I.lane,ol:=I.ol,il:=I.il,oB:=I.oB,sB:=I.sB,own:=I.own,xt:=⟨X.ql,X.ml,X.qq,X.qz,X.sto,X.non,X.disk,X.cal,X.cn⟩,qgood:=I.qgood,igood:=I.igood,line:=I.line,lines:=I.lines,lin:=I.lin,wok:=I.wok,pend:=I.pend,gone:=I.gone }
 refine⟨I2,?_⟩;have hc2:(d.C.set i c')[i]? =some c':=aL (gSo hc).1;refine⟨hc2,aL (gSo hbs).1,o',ps,⟨hr.1,by show ps.length=(d.C.set i c').length; rw [aK]; exact hr.2.1,by show(d.x.CB.set i bs').length=(d.C.set i c').length; rw [aK,aK]; exact hr.2.2.1,λj e he=> ?_⟩,hb⟩;rcases zE (show(d.C.set i c')[j]? =some e from he) with ⟨rfl,rfl⟩ | ⟨hne,he⟩
 ·exact⟨b,bs',hb,aL (gSo hbs).1,o'⟩
 ·obtain⟨b2,bs2,h1,h2,h3⟩:=hr.2.2.2 j e he;exact⟨b2,bs2,h1,(aT (λe=>hne e.symm)).trans h2,h3⟩
theorem zpm {i:Nat} {bs bs' A:List zb} {c':CS} {v e:Bool} (hbs:d.x.CB[i]? =some bs):(A++((d.cl i bs' c' v e).cs σ++fr)).Perm ((σ.rb,repV σ {d.x with sv:=v,dead:=e} d.line d.gone)::(bs'++(A++(d.cr σ i++fr)))):=by
 have h:=zXh (σ:=σ) (d:=d.cl i bs' c' v e) (fr:=fr) (A:=A) (i:=i) (bs:=bs') (aL (gSo hbs).1)
 have e2:(d.cl i bs' c' v e).co σ i=(σ.rb,repV σ {d.x with sv:=v,dead:=e} d.line d.gone)::d.cr σ i:=by
  have e3:(d.x.CB.set i bs').eraseIdx i=d.x.CB.eraseIdx i:=by
   have:∀(L:List (List zb)) (i:Nat),(L.set i bs').eraseIdx i=L.eraseIdx i:=λL=>by
    induction L with
    | nil=>intro i; rfl
    | cons z L ih =>
     intro i;cases i with
     | zero=>rfl
     | succ i=>rw [cS,cO,cO,ih]
   exact this _ i
  show(σ.rb,repV σ {d.x with sv:=v,dead:=e} d.line d.gone)::(d.fcs++(d.dcs++(d.gcs++(fl d.LB++(fl d.OB++(d.lb++(d.gb++(d.PB++(d.x.kb++(d.x.cb++(fl ((d.x.CB.set i bs').eraseIdx i)++σ.fx)))))))))))=_;rw [e3]; rfl
 rw [e2] at h;exact h.trans (za λf_=>by simp <;> omega)
theorem zqm {mp:List (Nat×Obj)} {i:Nat} {bs bs' A:List zb} {c':CS} {v e:Bool} (hbs:d.x.CB[i]? =some bs) (st:St ⟨W,mp⟩ (A++((d.cl i bs' c' v e).cs σ++fr)) w):St ⟨W,mp⟩ ((σ.rb,repV σ {d.x with sv:=v,dead:=e} d.line d.gone)::(bs'++(A++(d.cr σ i++fr)))) w:=st.perm (zpm hbs)
theorem zgl:∀ {l:List Int} {t u:Int},u<=t->upL t l->upL u l
 | [],_,_,_,_=>trivial
 | n::r,t,u,h,hu=>⟨by have:=hu.1; omega,hu.2.1,hu.2.2⟩
theorem zgj {c:Cfg} {k:ByteArray} (hc:zV c=0) (h1:1<=k.size) (h2:k.size<=64):∃ n:Nat,(zkb c k).1=(n:Int)/\(n:Int)<c.Shards:=by
 obtain⟨a,b⟩:=zbf (x:=⟨k,noStr,false⟩) hc ⟨h1,h2,by show noStr.size<=1024; decide,N_⟩;have a:0<=(zkb c k).1:=a;have b:(zkb c k).1<c.Shards:=b;exact⟨(zkb c k).1.toNat,O_,O_⟩
theorem zhl {m:TkM} {i:Nat} {mark least:Int} {bey:List Int} (h:m.Ok) (hn:m.number= -1 - (i:Int)) (hm:mayB mark least bey) (hc:zV m.cfg=0) {e:Int×Cq} (he:e∈z0b m mark least bey) :
    e.2.ok/\e.2.from_= -1 - (i:Int)/\∃ k:Nat,e.1=(k:Int)/\(k:Int)<m.cfg.Shards:=by
 obtain⟨m1,m2,m3,m4,m5⟩:=hm;unfold z0b at he;obtain⟨k,hk,rfl⟩:=aQ.1 he;have hco:=h.call;unfold zXd at hco;refine⟨?_,?_,?_⟩
 ·show(reqM m mark least bey).ok;unfold reqM;split
  ·exact⟨by show m.number<0; omega,⟨m1,m2⟩,.inl ⟨rfl,by show 1<=m.call.Key.size; omega,by show m.call.Key.size<=64; omega,rfl,rfl⟩⟩
  ·split
   ·exact⟨by show m.number<0; omega,⟨m1,m2⟩,.inr (.inl ⟨rfl,by show m.call.Key.size<=64; omega,by show m.call.End.size<=64; omega,rfl⟩)⟩
   ·split
    ·exact⟨by show m.number<0; omega,⟨m3,by show least<=65536; omega⟩,.inr (.inr (.inl ⟨rfl,rfl,rfl,rfl⟩))⟩
    ·exact⟨by show m.number<0; omega,⟨m1,m2⟩,.inr (.inr (.inr ⟨rfl,rfl,rfl,zgl (by show mark<=mark+1; omega) m5⟩))⟩
 ·show(reqM m mark least bey).from_=_;unfold reqM;split
  ·exact hn
  ·split
   ·exact hn
   ·split
    ·exact hn
    ·exact hn
 ·unfold zBb at hk;split at hk
  ·obtain rfl:=bK.1 hk;exact zgj hc O_ O_
  ·obtain⟨j,hj,rfl⟩:=aQ.1 hk;have:=dC.1 hj;exact⟨j,rfl,O_⟩
theorem TkO.ok {t:OA} {m:TkM} {cs:List zb} (h:TkO t (some m) cs):m.Ok:=by
 obtain⟨b,rfl,rs,ps,rc,pc,ok,_⟩:=h;exact ok
def Bgn (s:TS) (d:RD) (i:Nat) (c c':CS):Prop :=
 (c'=c/\c.m.begun=false)\/∃(n:Int) (r:List (Int×Cq)),c'={ c with m:={ c.m with begun:=true,mark:=(s.g.mark:Int),rest:=r },least:=n }/\z9g s d i n
theorem s_Cc {i b:Nat} {c:CS} {bs:List zb} {R:T_a->WP} (S:SO W m0 fr σ log fed d s w) (h:CAt σ d i b c bs) (hbg:c.m.begun=false)
    (k:∀ ev c' bs' v w',Bgn s d i c c'->SO W m0 fr σ log fed (d.cl i bs' c' v d.x.dead) s w'->R ev w'):C_t (Z0 b) 9 w R:=by
 obtain⟨I,hT,st,L,hph,ci⟩:=S;have hat:=h;obtain⟨hc,hbs,o,_⟩:=h;apply S_e;unfold F_W;obtain⟨tp,sv,by_,bey0,bad,av,tks,svs,bys,rest,hav,to,so,ro,hbl,hnum,hcfg,hrs,e0⟩:=o;intro b_ w1 hb_ hw1;have st1:St ⟨W,d.mp σ++m0⟩ ((b_,evV ev0)::(d.cs σ++fr)) w1:=st.alloc (cs:=evV ev0) hb_ hw1
 have get:∀ {L:List zb} {w':World},St ⟨W,d.mp σ++m0⟩ (L++(d.cs σ++fr)) w'->St ⟨W,d.mp σ++m0⟩ ((b,cuV σ.rb i c tp by_ sv bad av)::(σ.rb,repV σ d.x d.line d.gone)::(tks++(svs++(bys++(rest++(L++(d.cr σ i++fr))))))) w':=λ{L w'} st=>by
  have st2:=z4f hbs st;rw [e0] at st2;exact st2.pq
 refine⟨rfl,_,(get (L:=[(b_,evV ev0)]) st1).cell 0 rfl rfl,λb1 w2 hb1 hw2=> ?_⟩;have st2:St ⟨W,d.mp σ++m0⟩ ((b1,evV ev0)::(b_,evV ev0)::(d.cs σ++fr)) w2:=st1.alloc (cs:=evV ev0) hb1 hw2;refine⟨st2.writable 0,λw3 hw3=> ?_⟩;obtain⟨ev1,hev1⟩:∃ e:T_a,e=⟨0,0,-1 - (i:Int),0,0,0⟩:=⟨_,rfl⟩
 have st3:St ⟨W,d.mp σ++m0⟩ ((b1,evV ev1)::(b_,evV ev0)::(d.cs σ++fr)) w3:=by subst hev1; exact st2.put0 hw3
 refine⟨λ_=> ?_,N_⟩;have g3:=get (L:=[(b1,evV ev1),(b_,evV ev0)]) st3;refine⟨rfl,_,g3.cell 0 rfl rfl,rfl,σ.gt,g3.cell 1 rfl rfl,?_⟩;have stg:St ⟨W,d.mp σ++m0⟩ (d.gcs++((b1,evV ev1)::(b_,evV ev0)::(({d with gcs:=[]}:RD).cs σ++fr))) w3:=st3.pR;refine s_tb stg I.gate λs2 nb w6 nr st4 hsl=> ?_;have st5:St ⟨W,d.mp σ++m0⟩ (((b1,evV ev1)::(b_,evV ev0)::nb)++(d.cs σ++fr)) w6:=st4.pR;have g5:=get (L:=((b1,evV ev1)::(b_,evV ev0)::nb)) st5;refine⟨rfl,g5.writable 0 rfl (by simp [poff,hav]),λw7 hw7 w8 hd8=> ?_⟩;have g6:St ⟨W,d.mp σ++m0⟩ ((b,cuV σ.rb i c tp s2 sv bad av)::(σ.rb,repV σ d.x d.line d.gone)::(tks++(svs++(bys++(rest++(((b1,evV ev1)::(b_,evV ev0)::nb)++(d.cr σ i++fr))))))) w8:=(g5.put0 hw7).drew hd8;obtain⟨bey,hbey⟩:∃ l:List Int,l=(beyF s.g.S s.g.mark).map λn:Nat=>(n:Int):=⟨_,rfl⟩
 have nr':RowC 1 s2 (bey.map Vi) nb:=by rw [hbey,dR]; exact nr
 have hbl':bey.length<=65536:=by
  rw [hbey,lM];unfold beyF;exact cH (cI _ _) (by rw [List.length_range']; omega)
 obtain⟨bs2,hbs2⟩:∃ bs2,bs2=(b,cuV σ.rb i c tp s2 sv bad av)::(tks++(svs++(nb++(bys++rest)))):=⟨_,rfl⟩
 have o2:CuO σ i b c bs2:=⟨tp,sv,s2,bey,bad,av,tks,svs,nb,bys++rest,hav,to,so,nr',hbl',hnum,hcfg,hrs,hbs2⟩
 obtain⟨I2,hat2⟩:=I.cl (v:=d.x.sv) (e:=d.x.dead) hat o2
 have stm:St ⟨W,d.mp σ++m0⟩ ([(b1,evV ev1),(b_,evV ev0)]++((d.cl i bs2 c d.x.sv d.x.dead).cs σ++fr)) w8:=zwe hbs (by
  rw [hbs2];have g6':St ⟨W,d.mp σ++m0⟩ ((σ.rb,repV σ d.x d.line d.gone)::(((b,cuV σ.rb i c tp s2 sv bad av)::(tks++(svs++(nb++(bys++rest)))))++([(b1,evV ev1),(b_,evV ev0)]++(d.cr σ i++fr)))) w8:=g6.pq;exact g6')
 refine⟨rfl,tp,g6.cell 0 rfl rfl,rfl,⟨_⟩,⟨g6.cell 0 rfl rfl,trivial⟩,rfl,s2,g6.cell 0 rfl rfl,?_⟩
 have get2:∀ {w':World},St ⟨W,d.mp σ++m0⟩ ((d.cl i bs2 c d.x.sv d.x.dead).cs σ++([(b1,evV ev1),(b_,evV ev0)]++fr)) w'->St ⟨W,d.mp σ++m0⟩ ((b,cuV σ.rb i c tp s2 sv bad av)::(σ.rb,repV σ d.x d.line d.gone)::(tks++(svs++(nb++(bys++(rest++([(b1,evV ev1),(b_,evV ev0)]++(d.cr σ i++fr)))))))) w':=λ{w'} st=>by
  have st2:St ⟨W,d.mp σ++m0⟩ ((σ.rb,repV σ d.x d.line d.gone)::(bs2++([]++(d.cr σ i++([(b1,evV ev1),(b_,evV ev0)]++fr))))) w':=zqm (A:=[]) hbs st;rw [hbs2] at st2;exact st2.pq
 have stm:St ⟨W,d.mp σ++m0⟩ ((d.cl i bs2 c d.x.sv d.x.dead).cs σ++([(b1,evV ev1),(b_,evV ev0)]++fr)) w8:=stm.pq;refine s_k I2 stm λw9 e9=> ?_;have stm:=stm.keep e9;have g9:=get2 stm;refine⟨g9.cell 0 rfl rfl,g9.cell 0 rfl rfl,?_⟩;refine s_Ac I2 stm hat2.2.1 o2 λn w10 hn stm=> ?_;have g10:=get2 stm;refine⟨g10.cell 0 rfl rfl,g10.cell 0 rfl rfl,?_⟩;have t10:St ⟨W,d.mp σ++m0⟩ (tks++((b,cuV σ.rb i c tp s2 sv bad av)::(σ.rb,repV σ d.x d.line d.gone)::(svs++(nb++(bys++(rest++([(b1,evV ev1),(b_,evV ev0)]++(d.cr σ i++fr)))))))) w10:=g10.pq;have hs2l:s2.len=bey.length:=by rw [hbey,lM]; exact hsl
 have hn':z9g s d i n:=by
  obtain⟨h1,h2⟩:=hn;refine⟨h1,h2.imp id λ⟨j,e,he,h3⟩=> ?_⟩;rcases zE (show(d.C.set i c)[j]? =some e from he) with ⟨rfl,rfl⟩ | ⟨_,he⟩
  ·exact⟨j,e,hc,h3⟩
  ·exact⟨j,e,he,h3⟩
 refine s_lc (bey:=bey) to t10 (λB l w' _ st'=>nr'.srcM (λc hc=>by simp [hc]) st') O_ λtks' dd w11 to' t11 w12 hd12=> ?_;have t12:St ⟨W,d.mp σ++m0⟩ ((b,cuV σ.rb i c tp s2 sv bad av)::(σ.rb,repV σ d.x d.line d.gone)::(tks'++(dd++(svs++(nb++(bys++(rest++([(b1,evV ev1),(b_,evV ev0)]++(d.cr σ i++fr))))))))) w12:=(t11.drew hd12).pq;have hQ:(d.Q.length:Int)=c.m.cfg.Shards:=by have:=I.xt.ql; have:=I.ok.on; rw [hcfg]; omega
 have fin:∀ {v:Bool} {w':World},St ⟨W,d.mp σ++m0⟩ ((σ.rb,repV σ {d.x with sv:=v} d.line d.gone)::(b,cuV σ.rb i c tp s2 sv bad av)::(tks'++(dd++(svs++(nb++(bys++(rest++([(b1,evV ev1),(b_,evV ev0)]++(d.cr σ i++fr))))))))) w'->F_c R b_ b1 w':=λ{v w'} st'=>by
  have fin2:∀ c':CS,cuV σ.rb i c' tp s2 sv bad av=cuV σ.rb i c tp s2 sv bad av->TkO tp (some c'.m) tks'->c'.m.number= -1 - (i:Int)->c'.m.cfg=σ.cfg->(∀ e∈c'.m.rest,e.2.ok/\e.2.from_= -1 - (i:Int)/\∃ k:Nat,e.1=(k:Int)/\k<σ.op.length)->CI s.g.mark d.Q d.M (d.C.set i c') s.inst d.p->Bgn s d i c c'->F_c R b_ b1 w':=λc' hcu to'' hnum' hcfg' hrs' ci' hb'=>by
   obtain⟨bs3,hbs3⟩:∃ bs3,bs3=(b,cuV σ.rb i c' tp s2 sv bad av)::(tks'++(svs++(nb++(bys++rest)))):=⟨_,rfl⟩
   have o3:CuO σ i b c' bs3:=⟨tp,sv,s2,bey,bad,av,tks',svs,nb,bys++rest,hav,to'',so,nr',hbl',hnum',hcfg',hrs',hbs3⟩
   obtain⟨I3,_⟩:=I.cl (v:=v) (e:=d.x.dead) hat o3
   have st4:St ⟨W,d.mp σ++m0⟩ (((b_,evV ev0)::(b1,evV ev1)::dd)++((d.cl i bs3 c' v d.x.dead).cs σ++fr)) w':=zwe hbs (by
    rw [hbs3,hcu];exact st'.pq)
   refine Ck0_ (L:=dd++((d.cl i bs3 c' v d.x.dead).cs σ++fr)) st4 λev w9 st5=> ?_;exact k ev c' bs3 v w9 hb' ⟨I3,hT,St.drop (a:=dd) st5,L,hph,ci'⟩
  by_cases hm:mayB (s.g.mark:Int) n bey
  ·have hbm:zzd (some c.m) (s.g.mark:Int) n bey=(0,some { c.m with begun:=true,mark:=(s.g.mark:Int),rest:=z0b c.m (s.g.mark:Int) n bey }):=by
     unfold zzd;simp only [hbg,bW,if_false,if_pos hm]
   rw [hbm] at to';refine fin2 { c with m:={ c.m with begun:=true,mark:=(s.g.mark:Int),rest:=z0b c.m (s.g.mark:Int) n bey },least:=n } rfl to' hnum hcfg (λe he=> ?_) (ci.upd hc λco=>co.begin hbg hn'.1.2 hQ) (.inr ⟨n,_,rfl,hn'⟩);obtain⟨h1,h2,k',h3,h4⟩:=zhl to.ok hnum hm (by rw [hcfg]; exact I.ok.cfg) he;exact⟨h1,h2,k',h3,by have:=I.ok.on; rw [hcfg] at h4; omega⟩
  ·have hbm:zzd (some c.m) (s.g.mark:Int) n bey=(1,some c.m):=by
     unfold zzd;simp only [hbg,bW,if_false,if_neg hm]
   rw [hbm] at to';exact fin2 c rfl to' hnum hcfg hrs (ci.upd hc λco=>co) (.inl ⟨rfl,hbg⟩)
 have t13:St ⟨W,d.mp σ++m0⟩ ((σ.rb,repV σ d.x d.line d.gone)::(b,cuV σ.rb i c tp s2 sv bad av)::(tks'++(dd++(svs++(nb++(bys++(rest++([(b1,evV ev1),(b_,evV ev0)]++(d.cr σ i++fr))))))))) w12:=t12.pq;refine⟨rfl,_,t12.cell 0 rfl rfl,rfl,_,t12.cell 0 rfl rfl,rfl,d.x.sv,t13.cell 0 rfl rfl,λ_=>⟨rfl,t13.writable 0,λw13 hw13=> ?_⟩,λ_=>⟨rfl,_,t12.cell 0 rfl rfl,rfl,t13.writable 0,λw14 hw14=> ?_⟩⟩
 ·exact fin (v:=true) (t13.put0 hw13)
 ·exact fin (v:=(c.m.call.Kind==4)) (t13.put0 hw14)
end
section
variable {W:World} {m0:List (Nat×Obj)} {w:World} {fr:List zb} {σ:RS} {d:RD} {log:List Tx} {fed:Nat} {s:TS}
theorem zZl {C:List CS} {i:Nat} {c c':CS} (hc:C[i]? =some c) (h:c'.view=c.view):(C.set i c').map CS.view=C.map CS.view:=by
 rw [cV,h];exact zac (by rw [aF,hc]; rfl)
theorem z0l {mp:List (Nat×Obj)} {A obs:List zb} {k:Nat} (h:d.OB[k]? =some obs) (st:St ⟨W,mp⟩ (A++(d.cs σ++fr)) w):St ⟨W,mp⟩ (obs++(A++(({d with OB:=d.OB.eraseIdx k}:RD).cs σ++fr))) w:=st.perm (za λf_=>by have h1_:=zM f_ h; simp [RD.cs,RD.mp] <;> omega)
theorem z1l {mp:List (Nat×Obj)} {A obs obs':List zb} {k:Nat} (h:d.OB[k]? =some obs) (st:St ⟨W,mp⟩ (obs'++(A++(({d with OB:=d.OB.eraseIdx k}:RD).cs σ++fr))) w):St ⟨W,mp⟩ (A++(({d with OB:=d.OB.set k obs'}:RD).cs σ++fr)) w:=st.perm (za λf_=>by have h1_:=zUd (y:=obs') f_ h; simp [RD.cs,RD.mp] <;> omega)
theorem s_dd {i b kk:Nat} {c:CS} {bs:List zb} {e:Int×Cq} {r:List (Int×Cq)} {q:List QE} {R:T_a->WP} (S:SO W m0 fr σ log fed d s w) (h:CAt σ d i b c bs) (hbg:c.m.begun=true) (hrest:c.m.rest=e::r) (hek:e.1=(kk:Int)) (hq:d.Q[kk]? =some q) (hroom:q.length<σ.cfg.Queue.toNat)
    (k:∀ ev d' w',Nx log fed d s d' s->SO W m0 fr σ log fed d' s w'->R ev w'):C_t (Z0 b) 10 w R:=by
 obtain⟨I,hT,st,L,hph,ci⟩:=S;have hat:=h;obtain⟨hc,hbs,o,_⟩:=h;have hil:=(gSo hc).1;apply S_e;unfold F_W;obtain⟨tp,sv,by_,bey0,bad,av,tks,svs,bys,rest,hav,to,so,ro,hbl,hnum,hcfg,hrs,e0⟩:=o;obtain⟨hok,hfrm,_⟩:=hrs e (by rw [hrest]; exact aI ..);intro b_ w1 hb_ hw1;have st1:St ⟨W,d.mp σ++m0⟩ ((b_,evV ev0)::(d.cs σ++fr)) w1:=st.alloc (cs:=evV ev0) hb_ hw1
 have get:∀ {L:List zb} {w':World},St ⟨W,d.mp σ++m0⟩ (L++(d.cs σ++fr)) w'->St ⟨W,d.mp σ++m0⟩ ((b,cuV σ.rb i c tp by_ sv bad av)::(tks++(svs++(bys++(rest++(L++(d.co σ i++fr))))))) w':=λ{L w'} st=>by
  have st2:=zyd hbs st;rw [e0] at st2;exact st2.pq
 refine⟨rfl,_,(get (L:=[(b_,evV ev0)]) st1).cell 0 rfl rfl,λb1 w2 hb1 hw2=> ?_⟩;have st2:St ⟨W,d.mp σ++m0⟩ ((b1,evV ev0)::(b_,evV ev0)::(d.cs σ++fr)) w2:=st1.alloc (cs:=evV ev0) hb1 hw2;refine⟨st2.writable 0,λw3 hw3=> ?_⟩;obtain⟨ev1,hev1⟩:∃ e:T_a,e=⟨0,0,-1 - (i:Int),0,0,0⟩:=⟨_,rfl⟩
 have st3:St ⟨W,d.mp σ++m0⟩ ((b1,evV ev1)::(b_,evV ev0)::(d.cs σ++fr)) w3:=by subst hev1; exact st2.put0 hw3
 refine⟨N_,λ_=>⟨λ_=> ?_,N_⟩⟩;have g3:=get (L:=[(b1,evV ev1),(b_,evV ev0)]) st3;refine⟨rfl,tp,g3.cell 0 rfl rfl,?_⟩;have t3:St ⟨W,d.mp σ++m0⟩ (tks++((b,cuV σ.rb i c tp by_ sv bad av)::(svs++(bys++(rest++([(b1,evV ev1),(b_,evV ev0)]++(d.co σ i++fr))))))) w3:=g3.pq;have hnx:zXc (some c.m)=(e.1,e.2,true):=by unfold zXc; simp only [hrest]
 refine s_cb to t3 λsl rb w15 hrow t15 b2 w16 hb2 hw16=> ?_;rw [hnx] at hrow ⊢;rw [hek];have hrow:RowC 1 sl (e.2.bey.map Vi) rb:=hrow
 have st15:St ⟨W,d.mp σ++m0⟩ ((rb++[(b1,evV ev1),(b_,evV ev0)])++(d.cs σ++fr)) w15:=by
  refine zsg hbs ?_;rw [e0];exact t15.pq
 have st16:=st15.alloc (cs:=zRq) hb2 hw16;refine⟨st16.writable 0,λw17 hw17 w18 hd18=> ?_⟩;have st18:St ⟨W,d.mp σ++m0⟩ (((b2,rqV e.2 sl)::(rb++[(b1,evV ev1),(b_,evV ev0)]))++(d.cs σ++fr)) w18:=(st16.put0 hw17).drew hd18;obtain⟨ob,hor,hof⟩:=I.ok.orow;have hkl:=(gSo hq).1;obtain⟨l,hl⟩:∃ l,d.M[kk]? =some l:=⟨_,aA (by have:=I.xt.ml; have:=I.xt.ql; omega)⟩
 obtain⟨po,obs,sm,hpo,hobs,hsm,oo⟩:=I.own _ q l hq hl;obtain⟨a1,a2,a3⟩:=(hor.srcM (λc hc=>aH _ (RD.fxm (hof c hc))) st18).at1 (i:=kk) (v:=pP po) (by rw [aF,hpo]; rfl);have g18:=get (L:=((b2,rqV e.2 sl)::(rb++[(b1,evV ev1),(b_,evV ev0)]))) st18;refine⟨rfl,_,g18.cell 0 rfl rfl,rfl,σ.osl,crb st18 rfl,a1,O_,O_,po,by rw [tN]; exact a3,rqT e.2 sl,(st18.get 0 rfl).all,?_⟩;have stm:St ⟨W,sm++(({d with SB:=d.SB.eraseIdx kk}:RD).mp σ++m0)⟩ (((b2,rqV e.2 sl)::(rb++[(b1,evV ev1),(b_,evV ev0)]))++(d.cs σ++fr)) w18:=st18.mperm (za λf_=>by have h1_:=zM f_ hsm; simp [RD.cs,RD.mp] <;> omega);have sto:St _ (obs++(((b2,rqV e.2 sl)::(rb++[(b1,evV ev1),(b_,evV ev0)]))++(({d with OB:=d.OB.eraseIdx kk}:RD).cs σ++fr))) w18:=z0l hobs stm;have hbl2:e.2.bey.length<=65536:=to.ok.bey e (by rw [hrest]; exact aI ..);have hsll:=hrow.len;rw [lM,aW] at hsll;refine s_K (r:=rqT e.2 sl) (bey:=e.2.bey) oo sto (λst=>hrow.srcM (λc hc=>by simp [hc]) st) hbl2 (λst hR=>s_db st hok (λst=>hrow.srcM (λc hc=>by simp [hc]) st) O_ hR) (by rw [lM]; exact hroom) λs' obs' w19 hs' oo' st=> ?_;obtain⟨d1,hd1⟩:∃ d1:RD,d1={d with OB:=d.OB.set kk obs',Q:=d.Q.set kk (q++[.rq s' i e.2])}:=⟨_,rfl⟩
 have st19:St ⟨W,d1.mp σ++m0⟩ (((b2,rqV e.2 sl)::(rb++[(b1,evV ev1),(b_,evV ev0)]))++(d1.cs σ++fr)) w19:=by
  have st1:=st.mperm (mp':=d.mp σ++m0) (List.Perm.symm (za λf_=>by have h1_:=zM f_ hsm; simp [RD.cs,RD.mp] <;> omega));subst hd1;exact z1l hobs st1
 have hown:=zrg (σ:=σ) (q':=q++[.rq s' i e.2]) (M':=l) (sm':=sm) I.own hobs hsm hpo (by
  rw [aR]; exact oo')
 rw [zac hl,zac hsm] at hown;have hxt:=I.xt.push (e:= .rq s' i e.2) hq ⟨hok,hfrm,hil⟩;have hqs:s.qs[kk]? =some (q.filterMap QE.iw):=by rw [I.xt.qq,aF,hq]; rfl
 have hf0:(q++[QE.rq s' i e.2]).filterMap QE.iw=q.filterMap QE.iw:=by rw [fB]; exact bZ _
 rw [hf0,zac hqs] at hxt
 have I1:RepI σ d1 log fed s:=by
  subst hd1;exact { ok:=I.ok,feed:=I.feed,deps:=I.deps,top:=I.top,gate:=I.gate,ll:=I.ll,lB:=I.lB,lane:=I.lane,ol:=I.ol,il:=I.il,oB:=by rw [aK]; exact I.oB,sB:=I.sB,own:=hown,qgood:=I.qgood,igood:=I.igood,line:=I.line,lines:=I.lines,lin:=I.lin,wok:=I.wok,pend:=I.pend,gone:=I.gone,xt:=hxt }
 have hat1:CAt σ d1 i b c bs:=by subst hd1; exact hat
 have hbs1:=hat1.2.1;have g19:=z4f hbs1 st19;rw [e0] at g19;have t19:St ⟨W,d1.mp σ++m0⟩ (tks++((b,cuV σ.rb i c tp by_ sv bad av)::(σ.rb,repV σ d1.x d1.line d1.gone)::(svs++(bys++(rest++(((b2,rqV e.2 sl)::(rb++[(b1,evV ev1),(b_,evV ev0)]))++(d1.cr σ i++fr))))))) w19:=g19.pq;refine⟨rfl,tp,g19.cell 1 rfl rfl,s_Oc to t19 λtks' dd w20 to' t20=> ?_⟩;have hst:zgh (some c.m)=(0,some { c.m with rest:=r,out:=c.m.out+1 }):=by unfold zgh; simp only [hrest]
 rw [hst] at to';have t20:St ⟨W,d1.mp σ++m0⟩ ((b1,evV ev1)::(σ.rb,repV σ d1.x d1.line d1.gone)::(b,cuV σ.rb i c tp by_ sv bad av)::(tks'++(dd++(svs++(bys++(rest++(((b2,rqV e.2 sl)::(rb++[(b_,evV ev0)]))++(d1.cr σ i++fr)))))))) w20:=t20.pq;refine⟨t20.writable 0,λw21 hw21=> ?_⟩;have t21:St ⟨W,d1.mp σ++m0⟩ ((b1,evV ⟨ev1.Task,ev1.Kind,ev1.Number,(kk:Int),ev1.Count,ev1.Mark⟩)::(σ.rb,repV σ d1.x d1.line d1.gone)::(b,cuV σ.rb i c tp by_ sv bad av)::(tks'++(dd++(svs++(bys++(rest++(((b2,rqV e.2 sl)::(rb++[(b_,evV ev0)]))++(d1.cr σ i++fr)))))))) w21:=t20.put0 hw21;obtain⟨c',hc'⟩:∃ c':CS,c'={ c with m:={ c.m with rest:=r,out:=c.m.out+1 } }:=⟨_,rfl⟩
 obtain⟨bs3,hbs3⟩:∃ bs3,bs3=(b,cuV σ.rb i c tp by_ sv bad av)::(tks'++(svs++(bys++rest))):=⟨_,rfl⟩
 have o3:CuO σ i b c' bs3:=by
  subst hc';exact⟨tp,sv,by_,bey0,bad,av,tks',svs,bys,rest,hav,to',so,ro,hbl,hnum,hcfg,λe he=>hrs e (by rw [hrest]; exact aJ _ he),hbs3⟩
 obtain⟨I3,_⟩:=I1.cl (v:=d1.x.sv) (e:=d1.x.dead) hat1 o3
 have st4:St ⟨W,d1.mp σ++m0⟩ (((b_,evV ev0)::(b1,evV ⟨ev1.Task,ev1.Kind,ev1.Number,(kk:Int),ev1.Count,ev1.Mark⟩)::(dd++((b2,rqV e.2 sl)::rb)))++((d1.cl i bs3 c' d1.x.sv d1.x.dead).cs σ++fr)) w21:=zwe hbs1 (by
  rw [hbs3];show St ⟨W,d1.mp σ++m0⟩ ((σ.rb,repV σ d1.x d1.line d1.gone)::(((b,cuV σ.rb i c tp by_ sv bad av)::(tks'++(svs++(bys++rest))))++(((b_,evV ev0)::(b1,evV ⟨ev1.Task,ev1.Kind,ev1.Number,(kk:Int),ev1.Count,ev1.Mark⟩)::(dd++((b2,rqV e.2 sl)::rb)))++(d1.cr σ i++fr)))) w21;exact t21.pq)
 refine Ck0_ (L:=(dd++((b2,rqV e.2 sl)::rb))++((d1.cl i bs3 c' d1.x.sv d1.x.dead).cs σ++fr)) st4 λev w9 st5=> ?_;refine k ev _ w9 ?_ ⟨I3,hT,St.drop (a:=dd++((b2,rqV e.2 sl)::rb)) st5,L,hph,?_⟩
 ·subst hd1 hc';exact⟨zZl hc rfl,rfl,dN _,.inr ⟨rfl,λh=>by rw [h] at hil; exact absurd hil (eX _)⟩⟩
 ·subst hd1 hc';obtain⟨e1,e2⟩:=e;obtain rfl:e1=(kk:Int):=hek;exact ci.sent hc hrest hq
theorem K_k0 {b i:Nat} {p:OA} {b_ b1:Nat} {mp:List (Nat×Obj)} {e0:T_a} {rp:T_k} {A:List zb} {R:T_a->WP} (hb:(b,[aP σ.rb,pP p,Vi (i:Int)])∈σ.fx) (st:St ⟨W,mp⟩ ((b1,zN rp)::(b_,evV e0)::(A++(d.cs σ++fr))) w)
    (k:∀ ev w',St ⟨W,mp⟩ (d.cs σ++fr) w'->R ev w'):F_bb (Z0 b) R b_ b1 w:=by
 unfold F_bb;intro w1 hd;have st:=st.drew hd;have st2:St ⟨W,mp⟩ ([(b1,zN rp),(b_,evV e0)]++A++(d.cs σ++fr)) w1:=st.pq;refine⟨rp.To,st.cell 0 rfl rfl,rfl,(i:Int),cfx st2 hb rfl,st.writable 1,λw15 hw15=> ?_⟩;have st:=st.put1 hw15;exact⟨⟨0,0,rp.To,(i:Int),0,0⟩,(st.get 1 rfl).all,k _ w15 (St.drop (a:=A) st.drop1.drop1)⟩
theorem s_Dc {b i j:Nat} {p:OA} {x:Cq} {sl:Slc} {r:List QE} {t1:Int} {R:T_a->WP} (S:SO W m0 fr σ log fed d s w) (hb:(b,[aP σ.rb,pP p,Vi (i:Int)])∈σ.fx) (hp:σ.op[i]? =some p) (h1:d.Q[i]? =some (.rq sl j x::r))
    (k:∀ ev d' w',Nx log fed d s d' s->SO W m0 fr σ log fed d' s w'->R ev w'):C_2 (Z0 b) t1 w R:=by
 obtain⟨I,hT,st,L,hph,ci⟩:=S;apply S_z;unfold F_Zc;intro b_ w1 hb_ hw1;have st:St ⟨W,d.mp σ++m0⟩ ([(b_,evV ev0)]++(d.cs σ++fr)) w1:=st.alloc (cs:=evV ev0) hb_ hw1;obtain⟨M,hM⟩:∃ M,d.M[i]? =some M:=⟨_,aA (by have:=I.xt.ml; have:=I.xt.ql; have:=(gSo h1).1; omega)⟩
 have hqs:s.qs[i]? =some (r.filterMap QE.iw):=by rw [I.xt.qq,aF,h1]; rfl
 obtain⟨l,hl⟩:∃ l,s.inst[i]? =some l:=⟨_,aA (by have:=I.il; have:=(gSo hqs).1; omega)⟩
 have hsto:=I.xt.sto i M l hM hl;obtain⟨p',obs,sm,hp',hobs,hsm,oo⟩:=I.own i _ M h1 hM;obtain rfl:=aE (hp.symm.trans hp');have hll:l.length<=1000:=by have:=ci.il l (mG hl); have:=ci.ip; omega
 obtain⟨hxok,hxf,hjl⟩:=I.xt.qz _ (mG h1) _ (aI ..);refine⟨rfl,p,cfx st hb rfl,?_⟩;have stm:St ⟨W,sm++(({d with SB:=d.SB.eraseIdx i}:RD).mp σ++m0)⟩ ([(b_,evV ev0)]++(d.cs σ++fr)) w1:=st.mperm (za λf_=>by have h1_:=zM f_ hsm; simp [RD.cs,RD.mp] <;> omega);have sto:St _ (obs++([(b_,evV ev0)]++(({d with OB:=d.OB.eraseIdx i}:RD).cs σ++fr))) w1:=z0l hobs stm;refine s_eb (K:=l.map λz=>z.2.Key) (N:=1000) (q:=r.map QE.req) hxok oo sto (λkey hkey=> ?_) (by rw [lM]; exact hll) O_ (λk=>(hsto k).1) (λk=>cH (hsto.len k) hll) λrp rc sm' obs' w2 hrw hto oo' st=> ?_
 ·obtain⟨y,ys,hy⟩:=List.exists_cons_of_ne_nil hkey;obtain⟨z,hz,h2,_⟩:=(z9b l).1 ((hsto key).2 y (by rw [hy]; exact aI ..));exact⟨aQ.2 ⟨z,hz,h2⟩,by rw [<-h2]; exact(I.igood l (mG hl) z hz).1.2.1⟩
 obtain⟨d1,hd1⟩:∃ d1:RD,d1={d with OB:=d.OB.set i obs',SB:=d.SB.set i sm',Q:=d.Q.set i r,M:=d.M.set i (srvM x M)}:=⟨_,rfl⟩
 have st:St ⟨W,d1.mp σ++m0⟩ ((rc++[(b_,evV ev0)])++(d1.cs σ++fr)) w2:=by
  have st1:=st.mperm (mp':=({d with SB:=d.SB.set i sm'}:RD).mp σ++m0) (za λf_=>by have h1_:=zUd (y:=sm') f_ hsm; simp [RD.cs,RD.mp] <;> omega);subst hd1;exact z1l hobs (by rw [aN]; exact st1)
 obtain⟨c,hc⟩:∃ c,d.C[j]? =some c:=⟨_,aA hjl⟩
 have hown:=zrg (σ:=σ) (q':=r) (M':=srvM x M) I.own hobs hsm hp oo';have hxt:=I.xt.serve h1 hM hl (hsto.srv x) (λhC=>by rw [hC] at hjl; exact absurd hjl (eX _));rw [zac hqs,zac hl] at hxt
 have I1:RepI σ d1 log fed s:=by
  subst hd1;exact { ok:=I.ok,feed:=I.feed,deps:=I.deps,top:=I.top,gate:=I.gate,ll:=I.ll,lB:=I.lB,lane:=I.lane,ol:=I.ol,il:=I.il,oB:=by rw [aK]; exact I.oB,sB:=by rw [aK]; exact I.sB,own:=hown,qgood:=I.qgood,igood:=I.igood,line:=I.line,lines:=I.lines,lin:=I.lin,wok:=I.wok,pend:=I.pend,gone:=I.gone,xt:=hxt }
 obtain⟨cb,bs,hat⟩:=I1.call (show d1.C[j]? =some c by subst hd1; exact hc);have hat0:=hat;obtain⟨_,hbs,o,ps,⟨hr,hpl,hcl,hcal⟩,hpb⟩:=hat0;obtain⟨tp,sv,by_,bey0,bad,av,tks,svs,bys,rest,hav,to,so,ro,hbl,hnum,hcfg,hrs,e0⟩:=o;intro b1 w3 hb1 hw3;have st:=st.alloc (cs:=zN ⟨0,false,⟨none,0,0⟩,⟨none,0,0⟩,0⟩) hb1 hw3;refine⟨st.writable 0,λw4 hw4=> ?_⟩;have st:St ⟨W,d1.mp σ++m0⟩ (((b1,zN rp)::(rc++[(b_,evV ev0)]))++(d1.cs σ++fr)) w4:=st.put0 hw4;have hto':rp.To= -1 - (j:Int):=hto.trans hxf;obtain⟨a1,a2,a3⟩:=(hr.srcM (λc hc=>aH _ (RD.cbm hc)) st).at1 (i:=j) (v:=aP cb) (by rw [aF,hpb]; rfl);have hcn:=I.xt.cn;have wj:i64.wrap ((-1) - rp.To)=(j:Int):=by rw [hto',i64_in _ O_ O_]; omega
 refine⟨rp.To,st.cell 0 rfl rfl,λhh=>(by have:=dT hh; omega),λ_=>⟨rfl,_,cfx st hb rfl,rfl,d1.x.cl,crb st rfl,rp.To,st.cell 0 rfl rfl,a1,?_⟩⟩;rw [wj];refine⟨O_,O_,some ⟨cb,0,none⟩,by rw [tN]; exact a3,λw10 e10 w11 hd11=> ?_⟩;have st:St ⟨W,d1.mp σ++m0⟩ (((b1,zN rp)::(rc++[(b_,evV ev0)]))++(d1.cs σ++fr)) w11:=(st.keep e10).drew hd11;have g:=z4f hbs st;rw [e0] at g;have t:St ⟨W,d1.mp σ++m0⟩ (tks++((cb,cuV σ.rb j c tp by_ sv bad av)::(σ.rb,repV σ d1.x d1.line d1.gone)::(svs++(bys++(rest++(((b1,zN rp)::(rc++[(b_,evV ev0)]))++(d1.cr σ j++fr))))))) w11:=g.pq;refine⟨rfl,tp,g.cell 1 rfl rfl,rp,(st.get 0 rfl).all,?_⟩;obtain⟨es,os,⟨rb,her,hem⟩,hel,⟨rb2,hhr,hhm⟩,hhl,hhv⟩:=hrw;have hel2:=her.len;rw [zc (sz:=2) (λ_=>rfl)] at hel2;have hhl2:=hhr.len;rw [zc (sz:=2) (λ_=>rfl)] at hhl2;refine s_5c (es:=es) (os:=os) to t (λl w' st'=>⟨her.srcM (λc hc=>by simp [hem c hc]) st',O_,⟨hhr.srcM (λc hc=>by simp [hhm c hc]) st',λo ho=> ?_⟩,O_⟩) ⟨by show es.length<=1024; omega,by show(os.map _).length<=1024; rw [lM]; omega,λh hh=> ?_⟩ λtks' dd w12 to' t12=> ?_
 ·obtain⟨⟨vb,hv,hvm⟩,h2⟩:=hhv o ho;have:=hv.len;rw [zc (sz:=3) (λ_=>rfl)] at this;exact⟨hv.srcM (λc hc=>by simp [hvm c hc]) st',O_⟩
 ·obtain⟨o,ho,rfl⟩:=aQ.1 (show h∈os.map _ from hh);have:=(hhv o ho).2;show o.2.1.length<=1024;omega
 obtain⟨hlt,ci'⟩:=ci.got (rp:=rpOf rp es os) hc h1 hM λk=>(hsto k).1
 have hgt:gotM (some c.m) rp.To (rpOf rp es os)=(0,some { c.m with reps:=c.m.reps++[rpOf rp es os] }):=by
  unfold gotM;simp only [if_neg (show ¬ c.m.reps.length>=c.m.out by omega),if_neg (show ¬ rp.To≠c.m.number from λh=>h (hto'.trans hnum.symm))]
 rw [hgt] at to';obtain⟨c',hc'⟩:∃ c':CS,c'={ c with m:={ c.m with reps:=c.m.reps++[rpOf rp es os] } }:=⟨_,rfl⟩
 obtain⟨bs3,hbs3⟩:∃ bs3,bs3=(cb,cuV σ.rb j c tp by_ sv bad av)::(tks'++(svs++(bys++rest))):=⟨_,rfl⟩
 have o3:CuO σ j cb c' bs3:=by
  subst hc';exact⟨tp,sv,by_,bey0,bad,av,tks',svs,bys,rest,hav,to',so,ro,hbl,hnum,hcfg,hrs,hbs3⟩
 obtain⟨I3,hat3⟩:=I1.cl (v:=d1.x.sv) (e:=d1.x.dead) hat o3
 have ci3:CI s.g.mark (d1.cl j bs3 c' d1.x.sv d1.x.dead).Q (d1.cl j bs3 c' d1.x.sv d1.x.dead).M (d1.cl j bs3 c' d1.x.sv d1.x.dead).C s.inst (d1.cl j bs3 c' d1.x.sv d1.x.dead).p:=by
  subst hd1 hc';exact ci'
 have nx3:Nx log fed d s (d1.cl j bs3 c' d1.x.sv d1.x.dead) s:=by
  subst hd1 hc';exact⟨zZl hc rfl,rfl,dN _,.inr ⟨rfl,λh=>by rw [h] at hjl; exact absurd hjl (eX _)⟩⟩
 have t12:St ⟨W,d1.mp σ++m0⟩ (tks'++((cb,cuV σ.rb j c tp by_ sv bad av)::(σ.rb,repV σ d1.x d1.line d1.gone)::(svs++(bys++(rest++(((b1,zN rp)::(dd++(rc++[(b_,evV ev0)])))++(d1.cr σ j++fr))))))) w12:=t12.pq;have g12:St ⟨W,d1.mp σ++m0⟩ ((cb,cuV σ.rb j c tp by_ sv bad av)::(tks'++((σ.rb,repV σ d1.x d1.line d1.gone)::(svs++(bys++(rest++(((b1,zN rp)::(dd++(rc++[(b_,evV ev0)])))++(d1.cr σ j++fr)))))))) w12:=t12.pq;refine⟨rfl,tp,g12.cell 0 rfl rfl,s_J to' t12 λw16 t16=> ?_⟩
 have st16:St ⟨W,d1.mp σ++m0⟩ (((b1,zN rp)::(b_,evV ev0)::(dd++rc))++((d1.cl j bs3 c' d1.x.sv d1.x.dead).cs σ++fr)) w16:=zwe hbs (by
  rw [hbs3];show St ⟨W,d1.mp σ++m0⟩ ((σ.rb,repV σ d1.x d1.line d1.gone)::(((cb,cuV σ.rb j c tp by_ sv bad av)::(tks'++(svs++(bys++rest))))++(((b1,zN rp)::(b_,evV ev0)::(dd++rc))++(d1.cr σ j++fr)))) w16;exact t16.pq)
 refine⟨λ_=> ?_,λ_=> ?_⟩
 ·refine s_Bc st16 hat3.2.1 o3 I3.xt.disk λbs4 l4 w17 o4 st17=> ?_;obtain⟨I4,_⟩:=I3.cl (v:=(d1.cl j bs3 c' d1.x.sv d1.x.dead).x.sv) (e:=(d1.cl j bs3 c' d1.x.sv d1.x.dead).x.dead) hat3 o4;have hset:∀(C:List CS),(C.set j c').set j c'=C.set j c':=λC=>List.set_set _;refine K_k0 (A:=dd++rc) (fr:=l4++fr) (e0:=ev0) hb st17 λev w18 st18=>k ev _ w18 ?_ ⟨I4,hT,st18.wq l4,L,hph,?_⟩
  ·refine⟨?_,nx3.dead,nx3.p,nx3.ph⟩;show((d1.C.set j c').set j c').map CS.view=_;rw [hset]; exact nx3.vw
  ·show CI s.g.mark d1.Q d1.M ((d1.C.set j c').set j c') s.inst d1.p;rw [hset]; exact ci3
 ·refine K_k0 (A:=dd++rc) (e0:=ev0) hb st16 λev w18 st18=>k ev _ w18 nx3 ⟨I3,hT,st18,L,hph,ci3⟩
end
def ntk (σ:RS):Nat:=σ.lp.length+σ.op.length+2
def canK (σ:RS) (fed:Nat) (d:RD) (s:TS) (i:Nat):Int :=
 if i=0 then canD σ fed s else if i<1+σ.lp.length then canW σ d s (i - 1) else if i<1+σ.lp.length+σ.op.length then canO d (i - 1 - σ.lp.length) else canG s
def rdL (σ:RS) (fed:Nat) (d:RD) (s:TS) (n:Nat):List Int:=((List.range n).filter λi=>decide (canK σ fed d s i≠0)).map λi:Nat=>(i:Int)
theorem zil {σ:RS} {fed:Nat} {d:RD} {s:TS} {n:Nat}:rdL σ fed d s (n+1)=rdL σ fed d s n++(if canK σ fed d s n≠0 then [(n:Int)] else []):=by
 unfold rdL;rw [List.range_succ,dZ,aR];congr 1;by_cases h:canK σ fed d s n≠0
 ·rw [if_pos h,fP (by simpa using h)]; rfl
 ·rw [if_neg h,fO (by simpa using h)]; rfl
theorem zrm {σ:RS} {fed:Nat} {d:RD} {s:TS} {n:Nat} {x:Int} (h:x∈rdL σ fed d s n):∃ i:Nat,x=(i:Int)/\i<n/\canK σ fed d s i≠0:=by
 unfold rdL at h;obtain⟨i,hi,rfl⟩:=aQ.1 h;obtain⟨a,b⟩:=bR.1 hi;exact⟨i,rfl,dC.1 a,dT b⟩
theorem zsm {σ:RS} {fed:Nat} {d:RD} {s:TS} {n:Nat} (h:rdL σ fed d s n=[]):∀ i,i<n->canK σ fed d s i=0:=λi hi=>by
 refine bX λhne=> ?_;have:(i:Int)∈rdL σ fed d s n:=aQ.2 ⟨i,bR.2 ⟨dC.2 hi,decide_eq_true hne⟩,rfl⟩;rw [h] at this; cases this
theorem zYh {σ:RS} {fed:Nat} {d:RD} {s:TS} {n:Nat}:(rdL σ fed d s n).length<=n:=by
 unfold rdL;rw [lM];exact cH (cI _ _) (by rw [gR]; exact bC _)
inductive TC (σ:RS):Nat->Value->Prop
 | D (b:Nat) (h:(b,[aP σ.rb])∈σ.fx):TC σ 0 (Value.iface 130 (aP b))
 | W (j b:Nat) (p:OA) (hp:σ.lp[j]? =some p) (h:(b,[aP σ.rb,pP p])∈σ.fx):TC σ (1+j) (Value.iface 136 (aP b))
 | K (j b:Nat) (p:OA) (hp:σ.op[j]? =some p) (h:(b,[aP σ.rb,pP p,Vi (j:Int)])∈σ.fx):TC σ (1+σ.lp.length+j) (Value.iface 141 (aP b))
 | G (b:Nat) (h:(b,[aP σ.rb])∈σ.fx):TC σ (1+σ.lp.length+σ.op.length) (Value.iface 144 (aP b))
theorem z7o {σ:RS} (ok:RSok σ) {i:Nat} (hi:i<ntk σ):∃ v,σ.tv[i]? =some v/\TC σ i v:=by
 unfold ntk at hi;by_cases h0:i=0
 ·subst h0;obtain⟨b,h1,h2⟩:=ok.td;exact⟨_,h1,.D b h2⟩
 by_cases h1:i<1+σ.lp.length
 ·obtain⟨j,rfl⟩:∃ j,i=1+j:=⟨i - 1,O_⟩
  have hp:=aA (l:=σ.lp) (i:=j) O_;obtain⟨b,h1,h2⟩:=ok.tw j _ hp;exact⟨_,h1,.W j b _ hp h2⟩
 by_cases h2:i<1+σ.lp.length+σ.op.length
 ·obtain⟨j,rfl⟩:∃ j,i=1+σ.lp.length+j:=⟨i - 1 - σ.lp.length,O_⟩
  have hp:=aA (l:=σ.op) (i:=j) O_;obtain⟨b,h1,h2⟩:=ok.tk j _ hp;exact⟨_,h1,.K j b _ hp h2⟩
 ·obtain rfl:i=1+σ.lp.length+σ.op.length:=O_;obtain⟨b,h1,h2⟩:=ok.tg;exact⟨_,h1,.G b h2⟩
section
variable {σ:RS} {fed:Nat} {d:RD} {s:TS} {j:Nat}
theorem zLi:canK σ fed d s 0=canD σ fed s:=rfl
theorem zMi (h:j<σ.lp.length):canK σ fed d s (1+j)=canW σ d s j:=by
 unfold canK;rw [if_neg O_,if_pos O_,show 1+j - 1=j from by omega]
theorem zNi (h:j<σ.op.length):canK σ fed d s (1+σ.lp.length+j)=canO d j:=by
 unfold canK;rw [if_neg O_,if_neg O_,if_pos O_,show 1+σ.lp.length+j - 1 - σ.lp.length=j from by omega]
theorem zOi:canK σ fed d s (1+σ.lp.length+σ.op.length)=canG s:=by
 unfold canK;rw [if_neg O_,if_neg O_,if_neg O_]
end
section
variable {W:World} {m0:List (Nat×Obj)} {w:World} {fr:List zb} {σ:RS} {d:RD} {log:List Tx} {fed:Nat} {s:TS}
theorem zjl (I:RepI σ d log fed s) (hC:d.C=[]) (h:∀ i,i<ntk σ->canK σ fed d s i=0):zpp fed σ.cfg.Queue.toNat (σ.cfg.Window.toNat:Int) (shN σ.cfg) s:=by
 have hD:=h 0 (by unfold ntk; omega);have hW:∀ j,j<σ.lp.length->canW σ d s j=0:=λj hj=>by rw [<-zMi (fed:=fed) hj]; exact h _ (by unfold ntk; omega)
 have hK:∀ j,j<σ.op.length->canO d j=0:=λj hj=>by rw [<-zNi (fed:=fed) (s:=s) hj]; exact h _ (by unfold ntk; omega)
 have hG:=h (1+σ.lp.length+σ.op.length) (by unfold ntk; omega);rw [zLi] at hD;rw [zOi] at hG;have hlt:∀ {j:Nat} {o},s.lanes[j]? =some o->j<σ.lp.length:=λ{j o} ho=>by have:=(gSo ho).1; have:=I.ll; omega
 have hQ:∀(i:Nat) q,s.qs[i]? =some q->∃ q',d.Q[i]? =some q'/\q=q'.filterMap QE.iw/\q'.length=q.length:=λi q hq=>by
  rw [I.xt.qq,aF] at hq;cases h:d.Q[i]? with
  | none=>rw [h] at hq; cases hq
  | some q' =>
   rw [h] at hq;obtain rfl:=aE hq;refine⟨q',rfl,rfl,?_⟩;have hz:=I.xt.qz q' (mG h);clear h hq
   induction q' with
   | nil=>rfl
   | cons e q' ih =>
    have he:=hz e (aI ..);cases e with
    | ins s i z =>
     show _=((i,z)::q'.filterMap QE.iw).length;rw [aV,aV,ih λe h=>hz e (aJ _ h)]
    | rq s c q=>rw [hC] at he; exact absurd he.2.2 (eX _)
 refine⟨λhh=> ?_,λt hh hn=> ?_,λi hi=> ?_,λi n x r o hi q hq=> ?_,λi n hi=> ?_,λq hq=> ?_,?_⟩
 ·unfold canD at hD;rw [hh] at hD;simp only at hD;split at hD
  ·cases hD
  ·omega
 ·unfold canD at hD;rw [hh] at hD;simp only at hD;rw [if_pos hn] at hD;cases hD
 ·have:=hW i (hlt hi);unfold canW at this;rw [hi] at this;simp only at this;split at this
  ·cases this
  ·exact aX O_
 ·have:=hW i (hlt hi);obtain⟨q',hq',_,hl⟩:=hQ _ _ hq;unfold canW z2h at this;rw [hi] at this;simp only [hq'] at this;by_cases hc:q'.length<σ.cfg.Queue.toNat
  ·rw [if_pos (decide_eq_true hc)] at this; cases this
  ·omega
 ·have:=hW i (hlt hi);unfold canW at this;rw [hi] at this;cases this
 ·obtain⟨j,hj⟩:=bG.1 hq;obtain⟨q',hq',rfl,_⟩:=hQ _ _ hj;have:=hK j (by have:=(gSo hj).1; have:=I.ol; omega);unfold canO at this;rw [hq'] at this;cases q' with
  | nil=>rfl
  | cons z q=>cases this
 ·unfold canG at hG;split at hG
  ·cases hG
  ·exact aX O_
theorem s_i {R:Bool->WP} (st:St ⟨W,d.mp σ++m0⟩ (d.cs σ++fr) w) (k:R true w):C_e (some ⟨σ.rb,0,none⟩) w R:=by
 apply S_U;unfold F_Kd;exact⟨λ_=>⟨rfl,_,crb (A:=[]) st rfl,k⟩,N_⟩
theorem zkl {sl:Slc} {xs:List Int} {bs:List zb} {i:Nat} {c:Int} {again_:Slc->Int->WP} (ro:RowC 1 sl (xs.map Vi) bs) (st:St ⟨W,d.mp σ++m0⟩ (bs++(d.cs σ++fr)) w) (hi:i<=1000) (hx:xs.length<=i)
    (k:∀ sl' bs' w',RowC 1 sl' ((xs++(if c≠0 then [(i:Int)] else [])).map Vi) bs'->St ⟨W,d.mp σ++m0⟩ (bs'++(d.cs σ++fr)) w'->again_ sl' ((i+1:Nat):Int) w'):F_g sl (i:Int) again_ (c != 0) w:=by
 unfold F_g F_Zb;have wi:i64.wrap ((i:Int)+1)=((i+1:Nat):Int):=W_;have hl:=ro.len;rw [lM,aW] at hl;rw [wi];refine⟨λh=>λb w1 hb hw=>⟨[Vi (i:Int)],zS hb hw rfl,?_⟩,λh=> ?_⟩
 ·have hc:c≠0:=by simpa using h
  refine ro.append ((st.alloc hb hw).drop1) rfl rfl rfl (by show(sl.len+1)*8<=_; omega) λsl' bs' w2 ro' st hl'=>k sl' bs' w2 ?_ st;rw [if_pos hc,aR]; exact ro'
 ·have hc:¬ c≠0:=by simpa using h
  refine k sl bs w ?_ st;rw [if_neg hc,bZ]; exact ro
theorem zSj (I:RepI σ d log fed s):ntk σ<=34/\σ.tv.length=ntk σ:=by
 have h1:=I.ok.ln;have h2:=I.ok.on;have hc:=z7 I.ok.cfg;have h3:=I.ok.tl;unfold ntk;have:=hc.1;have:=hc.2.1;exact⟨O_,h3⟩
def RdyL (σ:RS) (fed:Nat) (d:RD) (s:TS) (l:List Int):Prop :=
 ∃ l2,l=rdL σ fed d s (ntk σ)++l2/\l2.length<=d.C.length/\∀ x∈l2,∃ i:Nat,x= -1 - (i:Int)/\i<d.C.length
theorem s_ed {R:Slc->WP} (I:RepI σ d log fed s) (st:St ⟨W,d.mp σ++m0⟩ (d.cs σ++fr) w) (hdead:d.x.dead=false)
    (k:∀ sl l bs w',RdyL σ fed d s l->RowC 1 sl (l.map Vi) bs->St ⟨W,d.mp σ++m0⟩ (bs++(d.cs σ++fr)) w'->R sl w'):C_ob (some ⟨σ.rb,0,none⟩) w R:=by
 apply S_V;unfold F_Ld;obtain⟨hn,htl⟩:=zSj I;refine s_i st ⟨N_,λ_=>⟨rfl,false,crb (A:=[]) st (by show some (Vo d.x.dead)=_; rw [hdead]),?_⟩⟩;unfold F_1b;refine⟨N_,λ_=>⟨rfl,σ.tsl,crb (A:=[]) st rfl,?_⟩⟩;obtain⟨tb,htr,htf⟩:=I.ok.trow;have htsl:=htr.len;rw [aW,htl] at htsl;refine⟨λsl i w'=>∃(p:Nat) (bs:List zb),i=(p:Int)/\p<=ntk σ/\RowC 1 sl ((rdL σ fed d s p).map Vi) bs/\St ⟨W,d.mp σ++m0⟩ (bs++(d.cs σ++fr)) w',λ_ i _=>ntk σ - i.toNat,⟨0,[],rfl,O_,RowC.nil,st⟩,?_⟩;clear st;rintro sl i w1 ⟨p,bs,rfl,hp,ro,st⟩;unfold F_dd;refine⟨λhi=> ?_,λhi=> ?_⟩
 ·have hi:=dT hi;obtain⟨v,hv,tc⟩:=z7o I.ok (i:=p) O_;obtain⟨a1,a2,a3⟩:=(htr.srcM (λc hc=>aH _ (RD.fxm (htf c hc))) st).at1 hv;have stf:St ⟨W,d.mp σ++m0⟩ (d.cs σ++(bs++fr)) w1:=st.pq
  have fin:∀ {c:Int} {w2:World},canK σ fed d s p=c->St ⟨W,d.mp σ++m0⟩ (d.cs σ++(bs++fr)) w2->F_g sl (p:Int) (λ(l_':Slc) (t22':Int) w'=>(∃(p:Nat) (bs:List zb),t22'=(p:Int)/\p<=ntk σ/\RowC 1 l_' ((rdL σ fed d s p).map Vi) bs/\St ⟨W,d.mp σ++m0⟩ (bs++(d.cs σ++fr)) w')/\ntk σ - t22'.toNat<ntk σ - (p:Int).toNat) (c != 0) w2:=λ{c w2} hc st=>by
   refine zkl ro (st.pq) O_ zYh λsl' bs' w3 ro' st=>⟨⟨p+1,bs',rfl,O_,?_,st⟩,O_⟩
   rw [zil,hc]; exact ro'
  refine⟨a1,O_,hi,v,by rw [tN]; exact a3,?_⟩;cases tc with
  | D b h=>exact .inr (.inl ⟨_,rfl,s_Rb I stf h λw2 st=>fin zLi st⟩)
  | W j b p' hp' h=>exact .inr (.inr (.inl ⟨_,rfl,s_Ub I stf h hp' λw2 st=>fin (zMi (gSo hp').1) st⟩))
  | K j b p' hp' h=>exact .inr (.inr (.inr (.inl ⟨_,rfl,s_Sb I stf h hp' λw2 st=>fin (zNi (gSo hp').1) st⟩)))
  | G b h=>exact .inr (.inr (.inr (.inr ⟨_,rfl,s_Tb I stf h λw2 st=>fin zOi st⟩)))
 ·have hi:=dF hi;obtain rfl:p=ntk σ:=O_;obtain⟨ps,hr,hpl,hcl,hcal⟩:=I.xt.cal;have hcn:=I.xt.cn;have hrl:=hr.len;rw [lM,aW] at hrl;refine⟨rfl,d.x.cl,crb st rfl,λsl' i w'=>∃(p:Nat) (bs:List zb) (l2:List Int),i=(p:Int)/\p<=d.C.length/\RowC 1 sl' ((rdL σ fed d s (ntk σ)++l2).map Vi) bs/\l2.length<=p/\(∀ x∈l2,∃ i:Nat,x= -1 - (i:Int)/\i<d.C.length)/\St ⟨W,d.mp σ++m0⟩ (bs++(d.cs σ++fr)) w',λ_ i _=>d.C.length - i.toNat,⟨0,bs,[],rfl,O_,by rw [bZ]; exact ro,bC _,λx hx=>(by cases hx),st⟩,?_⟩;clear st ro;rintro sl2 _ w2 ⟨p,bs2,l2,rfl,hp,ro,hl2,hm2,st⟩;unfold F_cd;have wp:i64.wrap ((p:Int)+1)=((p+1:Nat):Int):=W_;refine⟨λhi=> ?_,λ_=>k sl2 _ bs2 w2 ⟨l2,rfl,O_,hm2⟩ ro st⟩;have hi:=dT hi;have hpC:p<d.C.length:=O_;obtain⟨c,hc⟩:∃ c,d.C[p]? =some c:=⟨_,aA hpC⟩
  obtain⟨cb,cbs,hb,hbs,o⟩:=hcal p c hc;obtain⟨a1,a2,a3⟩:=(hr.srcM (λc hc=>aH _ (RD.cbm hc)) st).at1 (i:=p) (v:=aP cb) (by rw [aF,hb]; rfl);have stf:St ⟨W,d.mp σ++m0⟩ (d.cs σ++(bs2++fr)) w2:=st.pq;refine⟨a1,O_,hi,some ⟨cb,0,none⟩,by rw [tN]; exact a3,s_Jb I stf hbs o λv w3 _ st3=> ?_⟩;have st3:St ⟨W,d.mp σ++m0⟩ (bs2++(d.cs σ++fr)) w3:=st3.pq;have hrl2:=ro.len;rw [lM,aW,aB] at hrl2;have hrd:=zYh (σ:=σ) (fed:=fed) (d:=d) (s:=s) (n:=ntk σ);unfold F_0b;rw [wp];refine⟨λ_=>λb w4 hb4 hw4=>⟨[Vi (i64.wrap ((-1) - (p:Int)))],zS hb4 hw4 rfl,?_⟩,λ_=>⟨⟨p+1,bs2,l2,rfl,O_,ro,O_,hm2,st3⟩,by show d.C.length - ((p+1:Nat):Int).toNat<d.C.length - (p:Int).toNat; omega⟩⟩;have wj:i64.wrap ((-1) - (p:Int))= -1 - (p:Int):=by rw [i64_in _ O_ O_]
  refine ro.append ((st3.alloc hb4 hw4).drop1) rfl rfl rfl (by show(sl2.len+1)*8<=_; omega) λsl' bs' w5 ro' st5 hl'=>⟨⟨p+1,bs',l2++[-1 - (p:Int)],rfl,O_,?_,by rw [aB,bT]; omega,λx hx=> ?_,st5⟩,by show d.C.length - ((p+1:Nat):Int).toNat<d.C.length - (p:Int).toNat; omega⟩
  ·rw [<-aN,aR,<-wj]; exact ro'
  ·rcases aG.1 hx with hx | hx
   ·exact hm2 x hx
   ·exact⟨p,bK.1 hx,hpC⟩
end
def Tr (log:List Tx) (fed:Nat) (d:RD) (s:TS) (d':RD) (s':TS) (ev:T_a):Prop :=
 d'.p<=d.p+1/\((Nx log fed d s d' s'/\ev.Kind≠9/\ev.Kind≠12)\/∃(i:Nat) (c c':CS),d.C[i]? =some c/\s'=s/\d'.M=d.M/\d'.C=d.C.set i c'/\ev.Task= -1 - (i:Int) /\
  ((ev.Kind=9/\ev.Mark=(s.g.mark:Int)/\Bgn s d i c c')\/(ev.Kind=12/\c'={ c with ended:=true }/\allM (some c.m)=true)\/(ev.Kind=11/\(c'=c\/c'={ c with ended:=true }))))
section
variable {W:World} {m0:List (Nat×Obj)} {w:World} {fr:List zb} {σ:RS} {d:RD} {log:List Tx} {fed:Nat} {s:TS}
theorem zTj {b_ b1:Nat} {i kk:Int} {e:T_a} {R:T_a->Int->WP} {d':RD} {s':TS} (S:SO W m0 ((b_,evV ev0)::fr) σ log fed d' s' w)
    (k:∀ w',SO W m0 fr σ log fed d' s' w'->R ⟨i,kk,e.Number,e.Shard,e.Count,(s'.g.mark:Int)⟩ 0 w') (hb:b1=w.heap.size) {w1:World} (hw:w1=w.alloc (Obj.cells (evV ev0).toArray y_d (0,0))) :
    zr w1 b1 0 6/\∀ w2,w2=World.puts b1 0 (evV e) w1->F_b (some ⟨σ.rb,0,none⟩) i R b_ kk (Z0 b1) w2:=by
 have st:=S.st.alloc (cs:=evV ev0) hb hw;refine⟨st.writable 0,λw2 hw2=> ?_⟩;have st:St ⟨W,d'.mp σ++m0⟩ ((b1,evV e)::(d'.cs σ++((b_,evV ev0)::fr))) w2:=st.put0 hw2;unfold F_b;have stg:St ⟨W,d'.mp σ++m0⟩ (d'.gcs++((b1,evV e)::(({d' with gcs:=[]}:RD).cs σ++((b_,evV ev0)::fr)))) w2:=st.pR;refine⟨rfl,σ.gt,crb (A:=[(b1,evV e)]) st rfl,s_q stg S.I.gate ?_⟩;refine⟨rfl,st.writable 0,λw3 hw3=> ?_⟩;have st:=st.put0 hw3;refine⟨st.writable 0,λw4 hw4=> ?_⟩;have st:=st.put0 hw4;refine⟨st.writable 0,λw5 hw5=> ?_⟩;have st:=st.put0 hw5;obtain⟨e',he⟩:∃ e':T_a,e'=⟨i,kk,e.Number,e.Shard,e.Count,(s'.g.mark:Int)⟩:=⟨_,rfl⟩
 have st:St ⟨W,d'.mp σ++m0⟩ ((b1,evV e')::(d'.cs σ++((b_,evV ev0)::fr))) w5:=by subst he; exact st
 have st:St ⟨W,d'.mp σ++m0⟩ ((b_,evV ev0)::(b1,evV e')::(d'.cs σ++fr)) w5:=st.pq;refine⟨rfl,e',(st.get 1 rfl).all,st.writable 0,λw6 hw6=> ?_⟩;have st:St ⟨W,d'.mp σ++m0⟩ ((b_,evV e')::(b1,evV e')::(d'.cs σ++fr)) w6:=st.put0 hw6;refine⟨e',(st.get 0 rfl).all,?_⟩;rw [he];exact k w6 ⟨S.I,S.h,st.drop1.drop1,S.L,S.b,S.ci⟩
theorem s_qd {i:Nat} {R:T_a->Int->WP} (S:SO W m0 fr σ log fed d s w) (hp1:d.p<1000) (hdead:d.x.dead=false) (hi:i<ntk σ) (hc:canK σ fed d s i≠0)
    (k:∀ ev d' s' w',SO W m0 fr σ log fed d' s' w'->Tr log fed d s d' s' ev->R ev 0 w'):C_Z (some ⟨σ.rb,0,none⟩) (i:Int) w R:=by
 obtain⟨I,h,st,L,hb2,ci⟩:=S;apply S_v;unfold F_zb;intro b_ w1 hb_ hw1;have st:St ⟨W,d.mp σ++m0⟩ (d.cs σ++((b_,evV ev0)::fr)) w1:=(st.alloc (cs:=evV ev0) hb_ hw1).pq;obtain⟨hn,htl⟩:=zSj I;refine s_i st ⟨N_,λ_=>⟨rfl,false,crb (A:=[]) st (by show some (Vo d.x.dead)=_; rw [hdead]),N_,λ_=> ?_⟩⟩;obtain⟨tb,htr,htf⟩:=I.ok.trow;have htsl:=htr.len;rw [aW,htl] at htsl;obtain⟨v,hv,tc⟩:=z7o I.ok hi;obtain⟨a1,a2,a3⟩:=(htr.srcM (λc hc=>RD.fxm (htf c hc)) st).at1 hv;apply S_C;unfold F_2c;refine⟨λ_=>⟨rfl,σ.tsl,crb (A:=[]) st rfl,?_⟩,λhh=>(by have:=dF hh; omega)⟩;apply S_w;unfold F_Nc;rw [decide_eq_true (show(i:Int)>=0 by omega),decide_eq_true (show(i:Int)<((σ.tsl.len:Nat):Int) by omega)];unfold F_gb;refine⟨λ_=>⟨rfl,σ.tsl,crb (A:=[]) st rfl,a1,O_,O_,v,by rw [tN]; exact a3,N_,λ_=> ?_⟩,N_⟩;have hk0:∀ {c:Int},canK σ fed d s i=c->(c==0)=false:=λe=>by rw [<-e]; simpa using hc
 have so:∀ {w'},St ⟨W,d.mp σ++m0⟩ (d.cs σ++((b_,evV ev0)::fr)) w'->SO W m0 ((b_,evV ev0)::fr) σ log fed d s w':=λst=>⟨I,h,st,L,hb2,ci⟩
 have go:∀ {kk:Int} {e:T_a} {d':RD} {s':TS} {w3:World},kk≠9->kk≠12->SO W m0 ((b_,evV ev0)::fr) σ log fed d' s' w3->Nx log fed d s d' s'->∀ b1 w4,b1=w3.heap.size->w4=w3.alloc (Obj.cells (evV ev0).toArray y_d (0,0))->zr w4 b1 0 6/\∀ w2,w2=World.puts b1 0 (evV e) w4->F_b (some ⟨σ.rb,0,none⟩) (i:Int) R b_ kk (Z0 b1) w2:=λ{kk e d' s' w3} n1 n2 S' nx b1 w4 hb1 hw4 =>
  zTj S' (λw' S2=>k _ d' s' w' S2 ⟨nx.p,.inl ⟨nx,n1,n2⟩⟩) hb1 hw4
 cases tc with
 | D b hb =>
  refine .inr (.inl ⟨_,rfl,s_Rb I st hb λw2 st=> ?_⟩);unfold F_a;refine⟨λhh=>(by rw [hk0 zLi] at hh; cases hh),λ_=> .inr (.inl ⟨_,rfl,?_⟩)⟩;rw [zLi] at hc;unfold canD at hc ⊢;cases hh:s.held with
  | none =>
   rw [hh] at hc;simp only at hc ⊢;by_cases hlt:s.at_<fed
   ·rw [if_pos hlt];exact s_Tc (so st) hb hh hlt λev d' s' w3 S' nx=>go D_ D_ S' nx
   ·rw [if_neg hlt] at hc; exact absurd rfl hc
  | some t =>
   rw [hh] at hc;simp only at hc ⊢;by_cases hlt:t.1 - (σ.cfg.Window.toNat:Int)<=(s.g.mark:Int)
   ·rw [if_pos hlt];exact s_Uc (so st) hb hh hlt λev d' s' w3 S' nx=>go D_ D_ S' nx
   ·rw [if_neg hlt] at hc; exact absurd rfl hc
 | W j b p hp hb =>
  refine .inr (.inr (.inl ⟨_,rfl,s_Ub I st hb hp λw2 st=> ?_⟩));unfold F_a;have hj:=(gSo hp).1;refine⟨λhh=>(by rw [hk0 (zMi hj)] at hh; cases hh),λ_=> .inr (.inr (.inl ⟨_,rfl,?_⟩))⟩;rw [zMi hj] at hc;unfold canW at hc ⊢;obtain⟨o,ho⟩:∃ o,s.lanes[j]? =some o:=⟨_,aA (by have:=I.ll; omega)⟩
  rw [ho] at hc ⊢;cases o with
  | none =>
   simp only at hc ⊢;by_cases hlt:s.line.length>0
   ·rw [if_pos hlt];exact s_Vc (so st) hb hp ho hlt λev d' s' w3 S' nx=>go D_ D_ S' nx
   ·rw [if_neg hlt] at hc; exact absurd rfl hc
  | some lj =>
   obtain⟨n,left,out⟩:=lj;cases left with
   | nil =>
    simp only at hc ⊢;by_cases hlt:out=0
    ·rw [if_pos hlt];subst hlt;exact s_Wc (so st) hb hp ho λev d' s' w3 S' nx=>go D_ D_ S' nx
    ·rw [if_neg hlt] at hc; exact absurd rfl hc
   | cons x r =>
    simp only at hc ⊢;cases hr:z2h σ d x.Key with
    | false=>rw [hr] at hc; exact absurd rfl hc
    | true =>
     unfold z2h at hr;cases hq:d.Q[shN σ.cfg x.Key]? with
     | none=>rw [hq] at hr; cases hr
     | some q =>
      rw [hq] at hr;exact s_Xc (so st) hb hp ho hq (dT hr) λev d' s' w3 S' nx=>go D_ D_ S' nx
 | K j b p hp hb =>
  refine .inr (.inr (.inr (.inl ⟨_,rfl,s_Sb I st hb hp λw2 st=> ?_⟩)));unfold F_a;have hj:=(gSo hp).1;refine⟨λhh=>(by rw [hk0 (zNi hj)] at hh; cases hh),λ_=> .inr (.inr (.inr (.inl ⟨_,rfl,?_⟩)))⟩;rw [zNi hj] at hc;unfold canO at hc;cases hq:d.Q[j]? with
  | none=>rw [hq] at hc; exact absurd rfl hc
  | some q =>
   rw [hq] at hc;cases q with
   | nil=>exact absurd rfl hc
   | cons z r =>
    have h7:canO d j=7:=by unfold canO; rw [hq]
    rw [h7];cases z with
    | ins sl a z=>exact s_zc (so st) hb hp hq hp1 λev d' s' w3 S' nx=>go D_ D_ S' nx
    | rq sl a z=>exact s_Dc (so st) hb hp hq λev d' w3 nx S'=>go D_ D_ S' nx
 | G b hb =>
  refine .inr (.inr (.inr (.inr ⟨_,rfl,s_Tb I st hb λw2 st=> ?_⟩)));unfold F_a;refine⟨λhh=>(by rw [hk0 zOi] at hh; cases hh),λ_=> .inr (.inr (.inr (.inr ⟨_,rfl,?_⟩)))⟩;rw [zOi] at hc;unfold canG at hc ⊢;cases hg:s.gone with
  | nil=>rw [hg] at hc; exact absurd rfl hc
  | cons x r=>exact s_Yc (so st) hb hg λev d' s' w3 S' nx=>go (by rw [if_pos (by simp)]; decide) (by rw [if_pos (by simp)]; decide) S' nx
theorem s_fd {i:Nat} {c:CS} {R:T_a->Int->WP} (S:SO W m0 fr σ log fed d s w) (hdead:d.x.dead=false) (hc:d.C[i]? =some c)
    (kb:∀ ev w',SO W m0 fr σ log fed d s w'->R ev 10 w')
    (k:∀ ev d' s' w',SO W m0 fr σ log fed d' s' w'->Tr log fed d s d' s' ev->R ev 0 w'):C_Z (some ⟨σ.rb,0,none⟩) (-1 - (i:Int)) w R:=by
 obtain⟨I,h,st,L,hb2,ci⟩:=S;apply S_v;unfold F_zb;intro b_ w1 hb_ hw1;have st:St ⟨W,d.mp σ++m0⟩ (d.cs σ++((b_,evV ev0)::fr)) w1:=(st.alloc (cs:=evV ev0) hb_ hw1).pq;refine s_i st ⟨N_,λ_=>⟨rfl,false,crb (A:=[]) st (by show some (Vo d.x.dead)=_; rw [hdead]),N_,λ_=> ?_⟩⟩;obtain⟨b,bs,hat⟩:=I.call hc;have hat0:=hat;obtain⟨_,hbs,o,ps,⟨hr,hpl,hcl,hcal⟩,hpb⟩:=hat0;have hcn:=I.xt.cn;have hil:=(gSo hc).1;obtain⟨a1,a2,a3⟩:=(hr.srcM (λc hc=>RD.cbm hc) st).at1 (i:=i) (v:=aP b) (by rw [aF,hpb]; rfl);have wj:i64.wrap ((-1) - (-1 - (i:Int)))=(i:Int):=W_;apply S_C;unfold F_2c;refine⟨λhh=>(by have:=dT hh; omega),λ_=> ?_⟩;unfold F_gb;refine⟨N_,λ_=>⟨λ_=>⟨rfl,d.x.cl,crb (A:=[]) st rfl,?_⟩,λhh=>(by have:=dF hh; omega)⟩⟩;apply S_w;unfold F_Nc;rw [wj,decide_eq_true (show(i:Int)>=0 by omega),decide_eq_true (show(i:Int)<((d.x.cl.len:Nat):Int) by omega)];unfold F_Cc;refine⟨λ_=>⟨rfl,d.x.cl,crb (A:=[]) st rfl,a1,?_⟩,N_⟩;rw [wj];refine⟨O_,O_,some ⟨b,0,none⟩,by rw [tN]; exact a3,N_,λ_=> ?_⟩;refine .inl ⟨_,rfl,s_Jb I st hbs o λv w2 hv st=> ?_⟩;unfold F_a;have so:SO W m0 ((b_,evV ev0)::fr) σ log fed d s w2:=⟨I,h,st,L,hb2,ci⟩
 have go:∀ {kk:Int} {e:T_a} {d':RD} {w3:World} (l:List zb),SO W m0 (l++((b_,evV ev0)::fr)) σ log fed d' s w3->(∀ n sh ct,Tr log fed d s d' s ⟨-1 - (i:Int),kk,n,sh,ct,(s.g.mark:Int)⟩)->∀ b1 w4,b1=w3.heap.size->w4=w3.alloc (Obj.cells (evV ev0).toArray y_d (0,0))->zr w4 b1 0 6/\∀ w2,w2=World.puts b1 0 (evV e) w4->F_b (some ⟨σ.rb,0,none⟩) (-1 - (i:Int)) R b_ kk (Z0 b1) w2:=λ{kk e d' w3} l S' tr b1 w4 hb1 hw4 =>
  zTj ⟨S'.I,S'.h,S'.st.wq l,S'.L,S'.b,S'.ci⟩ (λw' S2=>k _ d' s w' S2 (tr _ _ _)) hb1 hw4
 refine⟨λ_=> ?_,λhne=> .inl ⟨_,rfl,?_⟩⟩
 ·have st:St ⟨W,d.mp σ++m0⟩ ((b_,evV ev0)::(d.cs σ++fr)) w2:=st.pq;refine⟨st.writable 0,λw3 hw3=> ?_⟩;have st:St ⟨W,d.mp σ++m0⟩ ((b_,evV ev0)::(d.cs σ++fr)) w3:=st.put0 hw3;exact⟨ev0,(st.get 0 rfl).all,kb _ w3 ⟨I,h,st.drop1,L,hb2,ci⟩⟩
 ·have hne:v≠0:=by simpa using hne
  rcases hv with hv | ⟨hend,⟨rfl,hbg⟩ | ⟨rfl,hbg,e,r,kk,q,hrest,hek,hq,hroom⟩ | ⟨rfl | rfl,hall⟩⟩
  ·exact absurd hv hne
  ·refine s_Cc so hat hbg λev c' bs' v' w3 hB S'=>go (l:=[]) S' λn sh ct=>⟨dN _,.inr ⟨i,c,c',hc,rfl,rfl,rfl,rfl,.inl ⟨rfl,rfl,hB⟩⟩⟩
  ·exact s_dd so hat hbg hrest hek hq hroom λev d' w3 nx S'=>go (l:=[]) S' λn sh ct=>⟨nx.p,.inl ⟨nx,by show(10:Int)≠9; decide,by show(10:Int)≠12; decide⟩⟩
  ·refine s_Zc st hbs o I.xt.disk λev kb' bs' c' v' e' l w3 hd' hce o' st'=> ?_;have I1:RepI σ ({d with x:={d.x with kb:=kb'}}:RD) log fed s:={ ok:=I.ok,feed:=I.feed,deps:=I.deps,top:=I.top,gate:=I.gate,ll:=I.ll,lB:=I.lB,lane:=I.lane,ol:=I.ol,il:=I.il,oB:=I.oB,sB:=I.sB,own:=I.own,xt:=⟨I.xt.ql,I.xt.ml,I.xt.qq,I.xt.qz,I.xt.sto,I.xt.non,hd',I.xt.cal,I.xt.cn⟩,qgood:=I.qgood,igood:=I.igood,line:=I.line,lines:=I.lines,lin:=I.lin,wok:=I.wok,pend:=I.pend,gone:=I.gone }
   have hat1:CAt σ ({d with x:={d.x with kb:=kb'}}:RD) i b c bs:=hat;obtain⟨I2,_⟩:=I1.cl (v:=v') (e:=e') hat1 o';have hcc:c'=c\/c'={ c with ended:=true }:=hce.imp (λh=>h.1) λh=>h.1
   have ci':CI s.g.mark d.Q d.M (d.C.set i c') s.inst d.p:=ci.upd hc λco=>by
    rcases hcc with rfl | rfl
    ·exact co
    ·exact co.ended
   exact go l ⟨I2,h,st'.pq,L,hb2,ci'⟩ λn sh ct=>⟨dN _,.inr ⟨i,c,c',hc,rfl,rfl,rfl,rfl,.inr (.inr ⟨rfl,hcc⟩)⟩⟩
  ·refine s_cd st hbs o λev bs' v' l w3 o' st'=> ?_;obtain⟨I2,_⟩:=I.cl (v:=v') (e:=d.x.dead) hat o';exact go l ⟨I2,h,st'.pq,L,hb2,ci.upd hc λco=>co.ended⟩ λn sh ct=>⟨dN _,.inr ⟨i,c,_,hc,rfl,rfl,rfl,rfl,.inr (.inl ⟨rfl,rfl,hall⟩)⟩⟩
theorem s_tc {pick:Int} {R:T_a->Int->WP} (S:SO W m0 fr σ log fed d s w) (hp1:d.p<1000)
    (kd:d.x.dead=true->∀ ev w',SO W m0 fr σ log fed d s w'->R ev 11 w')
    (k0:(∀ i,i<ntk σ->canK σ fed d s i=0)->∀ ev w',SO W m0 fr σ log fed d s w'->R ev 9 w')
    (kb:d.C≠[]->∀ ev w',SO W m0 fr σ log fed d s w'->R ev 10 w')
    (k1:∀ ev d' s' w',SO W m0 fr σ log fed d' s' w'->Tr log fed d s d' s' ev->R ev 0 w'):C_Y (some ⟨σ.rb,0,none⟩) pick w R:=by
 obtain⟨I,h,st,L,hb2,ci⟩:=S;apply S_4;unfold F_Ud;intro b_ w1 hb_ hw1;have st:St ⟨W,d.mp σ++m0⟩ (d.cs σ++((b_,evV ev0)::fr)) w1:=(st.alloc (cs:=evV ev0) hb_ hw1).pq;obtain⟨hn,_⟩:=zSj I;refine s_i st ⟨N_,λ_=>⟨rfl,d.x.dead,crb (A:=[]) st rfl,λhd=> ?_,λhd=>s_ed I st hd λsl xs bs w2 hx ro st=> ?_⟩⟩
 ·have st:St ⟨W,d.mp σ++m0⟩ ((b_,evV ev0)::(d.cs σ++fr)) w1:=st.pq;refine⟨st.writable 0,λw3 hw3=> ?_⟩;have st:St ⟨W,d.mp σ++m0⟩ ((b_,evV ev0)::(d.cs σ++fr)) w3:=st.put0 hw3;exact⟨ev0,(st.get 0 rfl).all,kd hd _ w3 ⟨I,h,st.drop1,L,hb2,ci⟩⟩
 have hl:=ro.len;rw [lM,aW] at hl;obtain⟨l2,rfl,hl2,hm2⟩:=hx;have hcn:=I.xt.cn;have hrd:=zYh (σ:=σ) (fed:=fed) (d:=d) (s:=s) (n:=ntk σ);rw [aB] at hl;refine⟨λh0=> ?_,λh0=> ?_⟩
 ·have h0:rdL σ fed d s (ntk σ)=[]:=aX (by
    have:((sl.len:Nat):Int)=0:=by simpa using h0
    omega)
  have st:St ⟨W,d.mp σ++m0⟩ ((b_,evV ev0)::(bs++(d.cs σ++fr))) w2:=st.pq;refine⟨st.writable 0,λw3 hw3=> ?_⟩;have st:St ⟨W,d.mp σ++m0⟩ ((b_,evV ev0)::(bs++(d.cs σ++fr))) w3:=st.put0 hw3;exact⟨ev0,(st.get 0 rfl).all,k0 (zsm h0) _ w3 ⟨I,h,St.drop (a:=bs) st.drop1,L,hb2,ci⟩⟩
 ·have h0:(0:Int)<((sl.len:Nat):Int):=by
    have:((sl.len:Nat):Int)≠0:=by simpa using h0
    omega
  have end_:∀ {ev:T_a} {e:Int} {d':RD} {s':TS} {w3:World},SO W m0 ((b_,evV ev0)::fr) σ log fed d' s' w3->(∀ w',SO W m0 fr σ log fed d' s' w'->R ev e w')->zr w3 b_ 0 6/\∀ w9,w9=World.puts b_ 0 (evV ev) w3->∃ res:T_a,zf w9 b_ 0 (evV res)/\R res e w9:=λ{ev e d' s' w3} S' k=>by
   have st:St ⟨W,d'.mp σ++m0⟩ ((b_,evV ev0)::(d'.cs σ++fr)) w3:=S'.st.pq;refine⟨st.writable 0,λw4 hw4=> ?_⟩;have st:St ⟨W,d'.mp σ++m0⟩ ((b_,evV ev)::(d'.cs σ++fr)) w4:=st.put0 hw4;exact⟨ev,(st.get 0 rfl).all,k w4 ⟨S'.I,S'.h,st.drop1,S'.L,S'.b,S'.ci⟩⟩
  have fin:∀ kk:Int,0<=kk->kk<((sl.len:Nat):Int)->F_0 (some ⟨σ.rb,0,none⟩) R b_ sl kk w2:=λkk hk1 hk2=>by
   unfold F_0;obtain⟨y,hy⟩:∃ y,(rdL σ fed d s (ntk σ)++l2)[kk.toNat]? =some y:=⟨_,aA (by rw [aB]; omega)⟩
   obtain⟨a1,a2,a3⟩:=(ro.src st).at1 (i:=kk.toNat) (v:=Vi y) (by rw [aF,hy]; rfl);have st:St ⟨W,d.mp σ++m0⟩ (d.cs σ++((b_,evV ev0)::fr)) w2:=st.wq bs;refine⟨a1,hk1,hk2,y,a3,?_⟩;rcases aG.1 (mG hy) with hm | hm
   ·obtain⟨i,rfl,hi,hc⟩:=zrm hm;exact s_qd ⟨I,h,st,L,hb2,ci⟩ hp1 hd hi hc λev d' s' w3 S' tr=>end_ S' λw' S2=>k1 ev d' s' w' S2 tr
   ·obtain⟨i,rfl,hi⟩:=hm2 y hm;obtain⟨c,hc⟩:∃ c,d.C[i]? =some c:=⟨_,aA hi⟩
    exact s_fd ⟨I,h,st,L,hb2,ci⟩ hd hc (λev w3 S'=>end_ S' λw' S2=>kb (λe=>by rw [e] at hi; exact absurd hi (eX _)) ev w' S2) λev d' s' w3 S' tr=>end_ S' λw' S2=>k1 ev d' s' w' S2 tr
  have ht1:=eR pick h0;have ht2:=Int.lt_tmod_of_pos pick h0;refine⟨O_,λhneg=> ?_,λhneg=> ?_⟩
  ·have hneg:=dT hneg;rw [i64_in _ O_ O_];exact fin _ O_ O_
  ·have hneg:=dF hneg;exact fin _ O_ O_
end
set_option maxHeartbeats 1000000
abbrev nilS:Slc:=⟨none,0,0⟩
def zRb (cap:Int):List Value:=[Vo true,Vi cap,Vs nilS,Vs nilS,Vi (-1),Vo false,Vi 0]
abbrev saved0:T_b:=⟨0,nilS,nilS⟩
def savV (s:T_b):List Value:=[Vi s.Mark,Vs s.Beyond,Vs s.Held]
section
variable {w0:Base} {w:World} {fr:List zb} {db:Nat} {cap:Int}
theorem s_Lb {i:Int} {R:Slc->Int->WP} (st:St w0 ((db,zRb cap)::fr) w) (hi:i=0\/i=1) (k:R nilS 0 w):C_Rb (Z0 db) i w R:=by
 apply S_O;unfold F_de;apply S_P;unfold F_ee;refine⟨N_,λ_=>⟨rfl,true,st.cell 0 rfl rfl,?_⟩⟩;unfold F_wc;refine⟨N_,λ_=>⟨λh=> ?_,λ_=>⟨N_,λ_=>⟨rfl,O_,O_,nilS,?_,?_⟩⟩⟩⟩
 ·simp only [aD,bne_iff_ne,ne_eq] at h; omega
 ·rcases hi with rfl | rfl
  ·exact st.cell 0 rfl rfl
  ·exact st.cell 0 rfl rfl
 ·apply S_m;exact⟨λ_=>k,N_⟩
theorem s_0c {R:T_b->Int->Bool->WP} (st:St w0 fr w) (k:∀ w',St w0 fr w'->R saved0 0 false w'):C_zc nilS w R:=by
 apply S_Ab;unfold F_9d;intro b w1 hb hw;have st:St w0 ((b,savV saved0)::fr) w1:=st.alloc (cs:=savV saved0) hb hw;refine⟨λ_=>⟨st.writable 0,λw2 hw2=> ?_⟩,λh=>(by have:=dF h; exact absurd (show((0:Nat):Int)<20 by omega) this)⟩;have st:St w0 ((b,savV saved0)::fr) w2:=st.put0 hw2;exact⟨saved0,(st.get 0 rfl).all,k w2 st.drop1⟩
theorem s_1c {R:T_b->Int->Int->Bool->Int->WP} (st:St w0 ((db,zRb cap)::fr) w) (k:∀ w',St w0 ((db,zRb cap)::fr) w'->R saved0 0 0 false 0 w'):C_Ib (Z0 db) w R:=by
 apply S_ib;unfold F_0e;intro b w1 hb hw;have st:St w0 ((db,zRb cap)::(b,savV saved0)::fr) w1:=(st.alloc (cs:=savV saved0) hb hw).pq;refine⟨λg sl ok i w'=>g=0/\sl=0/\ok=false/\0<=i/\i<=2/\St w0 ((db,zRb cap)::(b,savV saved0)::fr) w',λ_ _ _ i _=>2 - i.toNat,⟨rfl,rfl,rfl,O_,O_,st⟩,?_⟩;clear st;rintro _ _ _ i w2 ⟨rfl,rfl,rfl,h0,h2,st⟩;unfold F_Od;refine⟨λhi=> ?_,λhi=> ?_⟩
 ·have hi:=dT hi;have wi:i64.wrap (i+1)=i+1:=i64_in _ O_ O_;refine s_Lb st O_ ⟨N_,λ_=>s_0c st λw3 st b2 w4 hb2 hw4=> ?_⟩;have st:=st.alloc (cs:=savV saved0) hb2 hw4;refine⟨st.writable 0,λw5 hw5=>⟨N_,λ_=> ?_⟩⟩;have st:=(st.put0 hw5).drop1;unfold F_2b;rw [wi];exact⟨⟨rfl,rfl,rfl,O_,O_,st⟩,by show 2 - (i+1).toNat<2 - i.toNat; omega⟩
 ·refine⟨saved0,(st.get 1 rfl).all,st.writable 1,λw3 hw3=> ?_⟩;have st:St w0 ((db,zRb cap)::(b,savV saved0)::fr) w3:=st.put1 hw3;exact⟨saved0,(st.get 1 rfl).all,k w3 (st.wq [(b,savV saved0)])⟩
end
section
variable {W:World} {m0:List (Nat×Obj)} {w:World} {fr:List zb}
theorem s_ib {R:Int->WP} (st:St ⟨W,m0⟩ fr w) (k:∀ w',St ⟨W,m0⟩ fr w'->R 0 w'):C_Jb saved0 w R:=by
 apply S_Xb;unfold F_If;intro b w1 hb hw;have st:St ⟨W,m0⟩ ((b,savV saved0)::fr) w1:=st.alloc (cs:=savV saved0) hb hw;refine⟨0,st.cell 0 rfl rfl,N_,λ_=>⟨0,st.cell 0 rfl rfl,?_⟩⟩;unfold F_Gc;refine⟨N_,λ_=>⟨0,st.cell 0 rfl rfl,nilS,st.cell 0 rfl rfl,λ_ i w'=>i=0/\w'=w1,λ_ _ _=>0,⟨rfl,rfl⟩,?_⟩⟩;rintro l _ _ ⟨rfl,rfl⟩;unfold F_ve;refine⟨N_,λ_=>⟨nilS,st.cell 0 rfl rfl,s_z st λs sm bs w2 _ st=>⟨N_,λ_=> ?_⟩⟩⟩;have st:St ⟨W,m0⟩ ((b,savV saved0)::fr) w2:=St.drop (a:=bs) (St.forget (a:=sm) st);refine⟨nilS,st.cell 0 rfl rfl,λi w'=>i=0/\w'=w2,λ_ _=>0,⟨rfl,rfl⟩,?_⟩;rintro _ _ ⟨rfl,rfl⟩;unfold F_ue;exact⟨N_,λ_=>k _ st.drop1⟩
theorem s_jb {c:Cfg} {R:Slc->Int->WP} (st:St ⟨W,m0⟩ fr w) (hc:zV c=0) (k:∀ b w',St ⟨W,m0⟩ ((b,List.replicate c.Shards.toNat (Vs nilS))::fr) w'->R ⟨some ⟨b,0,none⟩,c.Shards.toNat,c.Shards.toNat⟩ 0 w'):C_hd c saved0 w R:=by
 apply S_jd;unfold F_Gf;intro b1 w1 hb1 hw1 b2 w2 hb2 hw2;have st:St ⟨W,m0⟩ ((b2,savV saved0)::(b1,cfgV c)::fr) w2:=(st.alloc (cs:=cfgV c) hb1 hw1).alloc (cs:=savV saved0) hb2 hw2;have hck:=z7 hc;refine⟨c,(st.get 1 rfl).all,s_h λw3 e3=> ?_⟩;have st:=st.keep e3;rw [hc];refine⟨N_,λ_=>⟨saved0,(st.get 0 rfl).all,s_ib st λw4 st=>⟨N_,λ_=> ?_⟩⟩⟩;have hs:=hck.2.1;refine⟨c.Shards,st.cell 1 rfl rfl,O_,O_,O_,λb w5 hb hw=> ?_⟩
 have e:zp c.Shards.toNat [Vs nilS]=(List.replicate c.Shards.toNat (Vs nilS)).toArray:=by
  have key:∀ n:Nat,(List.replicate n [Vs nilS]).flatten=List.replicate n (Vs nilS):=λn=>by
   induction n with
   | zero=>rfl
   | succ n ih=>rw [dH,eG,ih,dH]; rfl
  unfold zp;exact congrArg List.toArray (key _)
 have e:zp c.Shards.toNat [Ns]=(List.replicate c.Shards.toNat (Vs nilS)).toArray:=e;rw [e] at hw;have st:=st.alloc hb hw;refine⟨nilS,st.cell 1 rfl rfl,λi w'=>i=0/\w'=w5,λ_ _=>0,⟨rfl,rfl⟩,?_⟩;rintro _ _ ⟨rfl,rfl⟩;unfold F_od;exact⟨N_,λ_=>k b _ (st.wq [(b2,savV saved0),(b1,cfgV c)])⟩
theorem s_cc {cap:Int} {w0:Base} {R:OA->Int->WP} (st:St w0 fr w) (k0:cap<0\/cap>16777216->R none 1 w) (k1:0<=cap/\cap<=16777216->∀ b w',St w0 ((b,zRb cap)::fr) w'->R (Z0 b) 0 w'):C_ud cap w R:=by
 apply S_yd;unfold F_Pg;exact⟨λh=>k0 (by simpa using h),λh b w1 hb hw=>k1 (by simp only [cD,decide_eq_false_iff_not] at h; omega) b w1 (st.alloc (cs:=zRb cap) hb hw)⟩
end
set_option maxHeartbeats 4000000
theorem ztg {α:Type} (L:List (List α)) (x:List α):fl (L++[x])=fl L++x:=by unfold fl; simp
theorem zUj {α:Type}:fl ([]:List (List α))=[]:=rfl
def repB (c:Cfg) (db:Nat) (f dp gt:OA) (lsl osl tsl:Slc) (wm:Nat):List Value :=
 [Vi c.Lanes,Vi c.Shards,Vi c.Window,Vi c.Queue,aP db,pP f,pP dp,pP gt,Vs lsl,Vs osl,Vs tsl,Vs nilS,Vs nilS,mV wm,Vs nilS,Vo false,Vo false,Vo false]
def zZh (d:RD):Prop:=d.C=[]/\d.p=0/\d.x.dead=false
structure BldW (rb:Nat) (c:Cfg) (bD:Nat) (lp:List (OA)) (tv:List Value) (LB:List (List zb)) (fx:List zb):Prop where
 tl:tv.length=1+lp.length
 t0:tv[0]? =some (Value.iface 130 (aP bD))
 bD:(bD,[aP rb])∈fx
 tw:∀(i:Nat) p,lp[i]? =some p->∃ b,tv[1+i]? =some (Value.iface 136 (aP b))/\(b,[aP rb,pP p])∈fx
 lb:LB.length=lp.length
 ln:∀(i:Nat) p bs,lp[i]? =some p->LB[i]? =some bs->LnO p (some ⟨(i:Int)+1,c,none⟩) bs
theorem z9c {α:Type} {l:List α} {x y:α} {i:Nat} (h:(l++[x])[i]? =some y):l[i]? =some y\/(i=l.length/\y=x):=by
 by_cases hi:i<l.length
 ·rw [aO hi] at h; exact .inl h
 ·have hl:=(gSo h).1;rw [aB,bT] at hl;have:i=l.length:=O_;subst this;rw [aS (bC _),cY] at h;exact .inr ⟨rfl,(aE h).symm⟩
theorem BldW.add {rb:Nat} {c:Cfg} {bD b:Nat} {lp:List (OA)} {tv:List Value} {LB:List (List zb)} {fx bs:List zb} {p:OA} (H:BldW rb c bD lp tv LB fx) (lo:LnO p (some ⟨(lp.length:Int)+1,c,none⟩) bs) :
    BldW rb c bD (lp++[p]) (tv++[Value.iface 136 (aP b)]) (LB++[bs]) ((b,[aP rb,pP p])::fx):=by
 refine⟨by simp [H.tl]; omega,?_,aJ _ H.bD,λi q hq=> ?_,by simp [H.lb],λi q cs hq hcs=> ?_⟩
 ·rw [aO (by have:=H.tl; omega)]; exact H.t0
 ·rcases z9c hq with hq | ⟨rfl,rfl⟩
  ·obtain⟨b',h1,h2⟩:=H.tw i q hq;exact⟨b',by rw [aO (gSo h1).1]; exact h1,aJ _ h2⟩
  ·exact⟨b,by rw [<-H.tl,aS (bC _),cY]; rfl,aI ..⟩
 ·rcases z9c hq with hq | ⟨rfl,rfl⟩
  ·have hl:=(gSo hq).1;rw [aO (by have:=H.lb; omega)] at hcs;exact H.ln i q cs hq hcs
  ·rw [<-H.lb,aS (bC _),cY] at hcs;obtain rfl:=aE hcs;exact lo
structure BldK (rb:Nat) (c:Cfg) (bD:Nat) (lp:List (OA)) (op:List (OA)) (tv:List Value) (LB OB:List (List zb)) (SB:List (List (Nat×Obj))) (fx:List zb):Prop where
 tl:tv.length=1+lp.length+op.length
 t0:tv[0]? =some (Value.iface 130 (aP bD))
 bD:(bD,[aP rb])∈fx
 tw:∀(i:Nat) p,lp[i]? =some p->∃ b,tv[1+i]? =some (Value.iface 136 (aP b))/\(b,[aP rb,pP p])∈fx
 tk:∀(i:Nat) p,op[i]? =some p->∃ b,tv[1+lp.length+i]? =some (Value.iface 141 (aP b))/\(b,[aP rb,pP p,Vi (i:Int)])∈fx
 ob:OB.length=op.length
 sb:SB.length=op.length
 on:∀(i:Nat) p bs sm,op[i]? =some p->OB[i]? =some bs->SB[i]? =some sm->zSb p (λ_=>[]) c.Queue.toNat [] sm bs
theorem BldK.add {rb:Nat} {c:Cfg} {bD b:Nat} {lp op:List (OA)} {tv:List Value} {LB OB:List (List zb)} {SB:List (List (Nat×Obj))} {fx bs:List zb} {sm:List (Nat×Obj)} {p:OA} (H:BldK rb c bD lp op tv LB OB SB fx) (lo:zSb p (λ_=>[]) c.Queue.toNat [] sm bs) :
    BldK rb c bD lp (op++[p]) (tv++[Value.iface 141 (aP b)]) LB (OB++[bs]) (SB++[sm]) ((b,[aP rb,pP p,Vi (op.length:Int)])::fx):=by
 have htl:=H.tl;refine⟨by simp [H.tl]; omega,?_,aJ _ H.bD,λi q hq=> ?_,λi q hq=> ?_,by simp [H.ob],by simp [H.sb],λi q cs sm' hq hcs hsm=> ?_⟩
 ·rw [aO O_]; exact H.t0
 ·obtain⟨b',h1,h2⟩:=H.tw i q hq;exact⟨b',by rw [aO (gSo h1).1]; exact h1,aJ _ h2⟩
 ·rcases z9c hq with hq | ⟨rfl,rfl⟩
  ·obtain⟨b',h1,h2⟩:=H.tk i q hq;exact⟨b',by rw [aO (gSo h1).1]; exact h1,aJ _ h2⟩
  ·exact⟨b,by rw [<-H.tl,aS (bC _),cY]; rfl,aI ..⟩
 ·rcases z9c hq with hq | ⟨rfl,rfl⟩
  ·have hl:=(gSo hq).1;rw [aO (by have:=H.ob; omega)] at hcs;rw [aO (by have:=H.sb; omega)] at hsm;exact H.on i q cs sm' hq hcs hsm
  ·rw [<-H.ob,aS (bC _),cY] at hcs;rw [<-H.sb,aS (bC _),cY] at hsm;obtain rfl:=aE hcs;obtain rfl:=aE hsm;exact lo
section
variable {W:World} {m0:List (Nat×Obj)} {w:World} {fr:List zb} {c:Cfg} {log:List Tx}
theorem z8o {rb db b_ pb wm top bD:Nat} {f sp dp gt:OA} {lsl tsl:Slc} {lp:List (OA)} {lrow trow fcs dcs gcs:List zb} {tv:List Value} {LB:List (List zb)} {fx:List zb} {fv:Base} {dm:List (Nat×Obj)} {kb fr0:List zb} {R:OA->Int->WP} (hk:DkW (Z0 db) kb) (hfr:fr=kb++fr0)
    (hc:zV c=0) (hl:(lp.length:Int)=c.Lanes) (H:BldW rb c bD lp tv LB fx) (lro:RowC 1 lsl (lp.map pP) lrow) (tro:RowC 1 tsl tv trow) (fo:FdO fv sp (some ⟨log,0,0,0,c.Window.toNat,[],none,false⟩) f fcs) (dpo:DepO dp 0 [] [] dm dcs) (go:znd gt ⟨0,top,λ_=>false⟩ gcs)
    (hpb:(pb,List.replicate c.Shards.toNat (Vs nilS))∈fx) (hbc:(b_,cfgV c)∈fx)
    (st:St ⟨W,fv.mp++(dm++((wm,.map #[] 0)::m0))⟩ ((rb,repB c db f dp gt lsl nilS tsl wm)::(lrow++(trow++(fcs++(dcs++(gcs++(fl LB++(fx++fr)))))))) w)
    (k:∀ σ d w',σ.cfg=c->zZh d->RepI σ d log 0 (s0 lp.length c.Shards.toNat top)->St ⟨W,d.mp σ++m0⟩ (d.cs σ++fr0) w'->R (some ⟨σ.rb,0,none⟩) 0 w') :
    ∃(I:Int->WP) (μ:Int->World->Nat),I 0 w/\∀(t144:Int) w,I t144 w->F_be R b_ (Z0 rb) ⟨some ⟨pb,0,none⟩,c.Shards.toNat,c.Shards.toNat⟩ c.Shards (λ(t144':Int) w'=>I t144' w'/\μ t144' w'<μ t144 w) t144 w:=by
 have hck:=z7 hc;have hsh:=hck.2.1;have hqu:=hck.2.2.2
 refine⟨λi w'=>∃(p:Nat) (osl tsl:Slc) (op:List (OA)) (orow trow:List zb) (tv:List Value) (OB:List (List zb)) (SB:List (List (Nat×Obj))) (fx:List zb),i=(p:Int)/\op.length=p/\(p:Int)<=c.Shards/\RowC 1 osl (op.map pP) orow/\RowC 1 tsl tv trow/\BldK rb c bD lp op tv LB OB SB fx/\(pb,List.replicate c.Shards.toNat (Vs nilS))∈fx/\(b_,cfgV c)∈fx /\
  St ⟨W,fv.mp++(dm++((wm,.map #[] 0)::(fl SB++m0)))⟩ ((rb,repB c db f dp gt lsl osl tsl wm)::(lrow++(orow++(trow++(fcs++(dcs++(gcs++(fl LB++(fl OB++(fx++fr)))))))))) w',λi _=>c.Shards.toNat - i.toNat,
  ⟨0,nilS,tsl,[],[],trow,tv,[],[],fx,rfl,rfl,O_,RowC.nil,tro,⟨H.tl,H.t0,H.bD,H.tw,λi p hp=>(by cases hp),rfl,rfl,λi p bs sm hp=>(by cases hp)⟩,hpb,hbc,by simpa [zUj] using st⟩,?_⟩
 clear st tro hpb hbc;rintro i w1 ⟨p,osl,tsl,op,orow,trow,tv,OB,SB,fx,rfl,hop,hps,oro,tro,HO,hpb,hbc,st⟩;have hol:=oro.len;rw [lM,hop,aW] at hol;have htl:=tro.len;rw [HO.tl,aW] at htl;have hlm:=hck.1;unfold F_be;refine⟨λhi w2 e2=> ?_,λhi=> ?_⟩
 ·have hi:=dT hi;have st:=st.drew e2;have src:zj w2 ⟨some ⟨pb,0,none⟩,c.Shards.toNat,c.Shards.toNat⟩ 1 (List.replicate c.Shards.toNat (Vs nilS)):=⟨by simp,.inr ⟨rfl,(st.blk (pb,_) (by simp [hpb])).all⟩⟩
  obtain⟨a1,a2,a3⟩:=src.at1 (i:=p) (v:=Vs nilS) (by rw [List.getElem?_replicate,if_pos O_]);have hq:c.Queue=((c.Queue.toNat:Nat):Int):=O_;refine⟨c.Queue,(st.blk (b_,cfgV c) (by simp [hbc])).cell rfl,a1,O_,by show(p:Int)<((c.Shards.toNat:Nat):Int); omega,nilS,by rw [tN]; exact a3,?_⟩;rw [hq];refine s_3b st O_ O_ O_ λo_ sm obs w3 oo st=>⟨N_,λ_=> ?_⟩
  have st:St ⟨W,fv.mp++(dm++((wm,.map #[] 0)::(fl (SB++[sm])++m0)))⟩ ((rb,repB c db f dp gt lsl osl tsl wm)::(orow++(lrow++(trow++(fcs++(dcs++(gcs++(fl LB++(fl (OB++[obs])++(fx++fr)))))))))) w3:=(st.perm (za λf_=>by simp [ztg] <;> omega)).mperm (za λf_=>by simp [ztg] <;> omega);refine⟨rfl,osl,st.cell 0 rfl rfl,λb7 w4 hb7 hw7=>⟨[pP o_],zS hb7 hw7 rfl,?_⟩⟩;have st4:St _ (orow++((rb,repB c db f dp gt lsl osl tsl wm)::(lrow++(trow++(fcs++(dcs++(gcs++(fl LB++(fl (OB++[obs])++(fx++fr)))))))))) w4:=((st.alloc (cs:=[pP o_]) hb7 hw7).drop1).pq;refine oro.append st4 rfl rfl rfl (by show(osl.len+1)*8<=_; omega) λosl' orow' w5 oro' st hl'=> ?_;have st:St _ ((rb,repB c db f dp gt lsl osl tsl wm)::(lrow++(orow'++(trow++(fcs++(dcs++(gcs++(fl LB++(fl (OB++[obs])++(fx++fr)))))))))) w5:=st.pq;refine⟨rfl,st.writable 0,λw6 hw6=> ?_⟩;have st:St _ ((rb,repB c db f dp gt lsl osl' tsl wm)::(lrow++(orow'++(trow++(fcs++(dcs++(gcs++(fl LB++(fl (OB++[obs])++(fx++fr)))))))))) w6:=st.put0 hw6;refine⟨rfl,tsl,st.cell 0 rfl rfl,λb8 w7 hb8 hw7 b9 w8 hb9 hw8=>⟨[Value.iface 141 (aP b8)],zS hb9 hw8 rfl,?_⟩⟩;have st:=(st.alloc (cs:=[aP rb,pP o_,Vi (p:Int)]) hb8 hw7).alloc (cs:=[Value.iface 141 (aP b8)]) hb9 hw8;have st:St _ (trow++((rb,repB c db f dp gt lsl osl' tsl wm)::(lrow++(orow'++(fcs++(dcs++(gcs++(fl LB++(fl (OB++[obs])++(((b8,[aP rb,pP o_,Vi (p:Int)])::fx)++fr)))))))))) w8:=st.drop1.pq;refine tro.append st rfl rfl rfl (by show(tsl.len+1)*16<=_; omega) λtsl' trow' w9 tro' st hl2=> ?_;have st:St _ ((rb,repB c db f dp gt lsl osl' tsl wm)::(lrow++(orow'++(trow'++(fcs++(dcs++(gcs++(fl LB++(fl (OB++[obs])++(((b8,[aP rb,pP o_,Vi (p:Int)])::fx)++fr)))))))))) w9:=st.pq;refine⟨rfl,st.writable 0,λw10 hw10=> ?_⟩;have st:=st.put0 hw10;have wp:i64.wrap ((p:Int)+1)=((p+1:Nat):Int):=W_;rw [wp];have hadd:=HO.add (b:=b8) oo;rw [hop] at hadd;exact⟨⟨p+1,osl',tsl',op++[o_],orow',trow',tv++[Value.iface 141 (aP b8)],OB++[obs],SB++[sm],(b8,[aP rb,pP o_,Vi (p:Int)])::fx,rfl,by simp [hop],O_,by rw [aR]; exact oro',tro',hadd,aJ _ hpb,aJ _ hbc,st⟩,by show c.Shards.toNat - (((p+1:Nat):Int)).toNat<c.Shards.toNat - ((p:Nat):Int).toNat; omega⟩
 ·have hi:=dF hi;have hpe:p=c.Shards.toNat:=O_;refine⟨rfl,tsl,st.cell 0 rfl rfl,λb10 w2 hb10 hw2 b11 w3 hb11 hw3=>⟨[Value.iface 144 (aP b10)],zS hb11 hw3 rfl,?_⟩⟩;have st:=(st.alloc (cs:=[aP rb]) hb10 hw2).alloc (cs:=[Value.iface 144 (aP b10)]) hb11 hw3;have st:St _ (trow++((rb,repB c db f dp gt lsl osl tsl wm)::(lrow++(orow++(fcs++(dcs++(gcs++(fl LB++(fl OB++(((b10,[aP rb])::fx)++fr)))))))))) w3:=st.drop1.pq;refine tro.append st rfl rfl rfl (by show(tsl.len+1)*16<=_; omega) λtsl' trow' w4 tro' st hl2=> ?_;have st:St _ ((rb,repB c db f dp gt lsl osl tsl wm)::(lrow++(orow++(trow'++(fcs++(dcs++(gcs++(fl LB++(fl OB++(((b10,[aP rb])::fx)++fr)))))))))) w4:=st.pq;refine⟨rfl,st.writable 0,λw5 hw5=> ?_⟩;have st:St _ ((rb,repB c db f dp gt lsl osl tsl' wm)::(lrow++(orow++(trow'++(fcs++(dcs++(gcs++(fl LB++(fl OB++(((b10,[aP rb])::fx)++fr)))))))))) w5:=st.put0 hw5;obtain⟨σ,hσ⟩:∃ σ:RS,σ=⟨rb,c,⟨db,0,none⟩,f,sp,dp,gt,lp,op,tv++[Value.iface 144 (aP b10)],lsl,osl,tsl',wm,fv,lrow++(orow++(trow'++((b10,[aP rb])::fx)))⟩:=⟨_,rfl⟩
  obtain⟨d,hd⟩:∃ d:RD,d=⟨fcs,dcs,gcs,LB,OB,[],[],[],dm,#[],0,SB,nilS,nilS,[],0,⟨nilS,false,false,kb,[],[]⟩,List.replicate c.Shards.toNat [],List.replicate c.Shards.toNat (λ_=>[]),[],0⟩:=⟨_,rfl⟩
  have hrb:rb=σ.rb:=by rw [hσ]
  rw [hrb];refine k σ d w5 (by rw [hσ]) (by subst hd; exact⟨rfl,rfl,rfl⟩) ?_ ?_
  ·have hfx:∀ {q:zb},q∈fx->q∈lrow++(orow++(trow'++((b10,[aP rb])::fx))):=λh=>by simp [h]
   have htvl:∀ {i:Nat} {v:Value},tv[i]? =some v->(tv++[Value.iface 144 (aP b10)])[i]? =some v:=λh=>by rw [aO (gSo h).1]; exact h
   have hnl:∀(k:ByteArray),zQ #[] (.string k)=none:=λk=>zld λe he=>(by cases he)
   subst hσ; subst hd;refine { ok:=⟨⟨lrow,lro,λq hq=>by simp [hq]⟩,⟨orow,oro,λq hq=>by simp [hq]⟩,⟨trow',tro',λq hq=>by simp [hq]⟩,?_,⟨bD,htvl HO.t0,hfx HO.bD⟩,λi p hp=> ?_,λi p hp=> ?_,⟨b10,?_,by simp⟩,hc,hl,?_⟩,feed:=fo,deps:=dpo,top:=rfl,gate:=go,ll:= ?_,lB:=H.lb,lane:=λi o ho=> ?_,ol:= ?_,il:=by show(List.replicate _ _).length=(List.replicate _ _).length; rw [bN,bN],oB:=HO.ob,sB:=HO.sb,own:=λi q l hq hl=> ?_,qgood:=λq hq z hz=> ?_,igood:=λl hl z hz=> ?_,line:=RowC.nil,lines:=rfl,lin:=λp hp=>(by cases hp),wok:=MOk.empty,pend:=λt ht=>(by cases ht),gone:=RowC.nil,xt:=⟨?_,?_,?_,λq hq e he=> ?_,λi M l hM hl=> ?_,λ_=> ?_,hk,⟨[],RowC.nil,rfl,rfl,λi c hc=>(by cases hc)⟩,bU _⟩ }
   ·show(tv++[_]).length=lp.length+op.length+2;rw [aB,HO.tl]; simp; omega
   ·obtain⟨b,h1,h2⟩:=HO.tw i p hp;exact⟨b,htvl h1,hfx h2⟩
   ·obtain⟨b,h1,h2⟩:=HO.tk i p hp;exact⟨b,htvl h1,hfx h2⟩
   ·show(tv++[_])[1+lp.length+op.length]? =_;rw [<-HO.tl,aS (bC _),cY]; rfl
   ·show(op.length:Int)=c.Shards;omega
   ·show(List.replicate _ _).length=lp.length;rw [bN]
   ·have ho:(List.replicate lp.length none)[i]? =some o:=ho;have hil:=(gSo ho).1;rw [bN] at hil;obtain rfl:o=none:=bQ (mG ho);have h1:=aA (l:=lp) (i:=i) hil;have h2:=aA (l:=LB) (i:=i) (by have:=H.lb; omega);exact⟨_,_,none,h1,h2,H.ln i _ _ h1 h2,trivial⟩
   ·show(List.replicate _ _).length=op.length;rw [bN]; omega
   ·have hq:(List.replicate c.Shards.toNat [])[i]? =some q:=hq;have hl:(List.replicate c.Shards.toNat (λ_=>[]))[i]? =some l:=hl;have hil:=(gSo hq).1;rw [bN] at hil;obtain rfl:q=[]:=bQ (mG hq);obtain rfl:l=λ_=>[]:=bQ (mG hl);have h1:=aA (l:=op) (i:=i) O_;have h2:=aA (l:=OB) (i:=i) (by have:=HO.ob; omega);have h3:=aA (l:=SB) (i:=i) (by have:=HO.sb; omega);exact⟨_,_,_,h1,h2,h3,HO.on i _ _ _ h1 h2 h3⟩
   ·show(List.replicate _ _).length=op.length;rw [bN]; omega
   ·show(List.replicate _ _).length=op.length;rw [bN]; omega
   ·show List.replicate _ _=(List.replicate _ _).map _;rw [dX]; rfl
   ·obtain rfl:q=[]:=bQ hq;cases he
   ·obtain rfl:M=λ_=>[]:=bQ (mG hM);exact λk=>⟨rfl,λy hy=>(by cases hy)⟩
   ·show List.replicate _ _=(List.replicate _ _).map _;rw [dX]; rfl
   ·obtain rfl:q=[]:=bQ hq;cases hz
   ·obtain rfl:l=[]:=bQ hl;cases hz
  ·have hrv:repB c db f dp gt lsl osl tsl' wm=repV σ d.x d.line d.gone:=by rw [hσ,hd]; rfl
   rw [hrv] at st;subst hσ; subst hd; subst hfr;exact(st.perm (za λf_=>by simp [RD.cs,RD.mp,RX.yb,zUj] <;> omega)).mperm (za λf_=>by simp [RD.cs,RD.mp] <;> omega)
end
section
variable {W:World} {m0:List (Nat×Obj)} {w:World} {fr:List zb} {σ:RS} {d:RD} {log:List Tx} {fed:Nat} {s:TS}
theorem s_rd {A:List zb} {R:Int->WP} (I:RepI σ d log fed s) (st:St ⟨W,d.mp σ++m0⟩ (A++(d.cs σ++fr)) w) (k:∀ n,R n w):C_xb (some ⟨σ.rb,0,none⟩) w R:=by
 apply S_8;unfold F_Yd;obtain⟨ps,hr,hpl,hcl,hcal⟩:=I.xt.cal;have hcn:=I.xt.cn;have hrl:=hr.len;rw [lM,aW] at hrl;refine⟨rfl,d.x.cl,crb st rfl,λ_ i w'=>w'=w/\∃ p:Nat,i=(p:Int)/\p<=d.C.length,λ_ i _=>d.C.length - i.toNat,⟨rfl,0,rfl,O_⟩,?_⟩;rintro n _ w2 ⟨rfl,p,rfl,hp⟩;unfold F_nd;refine⟨λhi=> ?_,λ_=>k n⟩;have hi:=dT hi;obtain⟨c,hc⟩:∃ c,d.C[p]? =some c:=⟨_,aA O_⟩
 obtain⟨cb,cbs,hb,hbs,o⟩:=hcal p c hc;obtain⟨a1,a2,a3⟩:=(hr.srcM (λc hc=>aH _ (RD.cbm hc)) st).at1 (i:=p) (v:=aP cb) (by rw [aF,hb]; rfl);have g:=zyd hbs st;obtain⟨tp,sv,by_,bey0,bad,av,tks,svs,bys,rest,hav,to,so,ro,hbl,hnum,hcfg,hrs,e0⟩:=o;rw [e0] at g;have wp:i64.wrap ((p:Int)+1)=((p+1:Nat):Int):=W_
 have nx:∀ n',F_1 (p:Int) (λ(n_':Int) (t11':Int) w'=>(w'=w2/\∃ p:Nat,t11'=(p:Int)/\p<=d.C.length)/\d.C.length - t11'.toNat<d.C.length - (p:Int).toNat) n' w2:=λn'=>by
  unfold F_1;rw [wp];exact⟨⟨rfl,p+1,rfl,O_⟩,O_⟩
 exact⟨a1,O_,hi,some ⟨cb,0,none⟩,by rw [tN]; exact a3,rfl,c.ended,g.cell 0 rfl rfl,λ_=>nx _,λ_=>nx _⟩
theorem ztm {A:List zb}:(A++(d.cs σ++fr)).Perm (d.x.cb++((σ.rb,repV σ d.x d.line d.gone)::(A++(d.fcs++(d.dcs++(d.gcs++(fl d.LB++(fl d.OB++(d.lb++(d.gb++(d.PB++(d.x.kb++(fl d.x.CB++(σ.fx++fr)))))))))))))) :=
 za λf_=>by simp [RD.cs,RX.yb] <;> omega
theorem zVj {cl':Slc} {cb' bs:List zb} {c:CS} {z:zb}:((σ.rb,repV σ {d.x with cl:=cl'} d.line d.gone)::(cb'++(bs++(z::(d.fcs++(d.dcs++(d.gcs++(fl d.LB++(fl d.OB++(d.lb++(d.gb++(d.PB++(d.x.kb++(fl d.x.CB++(σ.fx++fr))))))))))))))).Perm ([z]++(({d with x:={d.x with cl:=cl',cb:=cb',CB:=d.x.CB++[bs]},C:=d.C++[c]}:RD).cs σ++fr)):=by
 have e:repV σ {d.x with cl:=cl'} d.line d.gone=repV σ {d.x with cl:=cl',cb:=cb',CB:=d.x.CB++[bs]} d.line d.gone:=rfl;rw [e];exact za λf_=>by simp [RD.cs,RX.yb,ztg] <;> omega
theorem zhj {cb' tks T:List zb} {x y z:zb}:(cb'++(x::(([y]++(tks++[z]))++T))).Perm (x::(cb'++((y::tks)++(z::T)))):=za λf_=>by simp <;> omega
theorem QE.ok_up {e:QE} {n:Nat} (h:e.ok n):e.ok (n+1):=by
 cases e with
 | ins s i z=>exact h
 | rq s c q=>exact⟨h.1,h.2.1,Nat.lt_succ_of_lt h.2.2⟩
theorem s_sd {x:T_f} {R:Int->Int->WP} (S:SO W m0 fr σ log fed d s w) (hn:d.C.length<1000)
    (k0:∀ v e w',e≠0->SO W m0 fr σ log fed d s w'->R v e w')
    (k1:∀ v c d' w',d'.C=d.C++[c]->c.m.call=x->c.m.begun=false->c.ended=false->d'.p=d.p->SO W m0 fr σ log fed d' s w'->R v 0 w'):C_vb (some ⟨σ.rb,0,none⟩) x w R:=by
 obtain⟨I,h,st,L,hph,ci⟩:=S;apply S_6;unfold F_Wd;intro b_ w1 hb_ hw1;obtain⟨xc,hxc⟩:∃ xc:List Value,xc=[Vb x.Kind,Vt x.Key,Vt x.End]:=⟨_,rfl⟩
 have st:St ⟨W,d.mp σ++m0⟩ ([(b_,xc)]++(d.cs σ++fr)) w1:=by rw [hxc]; exact st.alloc hb_ hw1
 have st':St ⟨W,d.mp σ++m0⟩ (d.cs σ++([(b_,xc)]++fr)) w1:=st.pq;have out:∀ {v e:Int} {w':World},e≠0->St ⟨W,d.mp σ++m0⟩ ([(b_,xc)]++(d.cs σ++fr)) w'->R v e w':=λ{v e w'} he st=>k0 v e w' he ⟨I,h,st.drop1,L,hph,ci⟩;have call:∀ {w':World} {A:List zb},St ⟨W,d.mp σ++m0⟩ ([(b_,xc)]++A) w'->zf w' b_ 0 [Vb x.Kind,Vt x.Key,Vt x.End]:=λst=>by rw [<-hxc]; exact(st.get 0 rfl).all
 refine s_i st' ⟨N_,λ_=>⟨rfl,d.x.dead,crb st rfl,λ_=>out D_ st,λ_=>⟨rfl,false,crb st rfl,N_,λ_=>⟨x,call st,s_A λw2 e2=> ?_⟩⟩⟩⟩;have st:=st.keep e2;refine⟨λ_=>out D_ st,λhck=>s_rd I st λnl=>⟨λ_=>out D_ st,λ_=>⟨rfl,d.x.cl,crb st rfl,λw5 hd5=> ?_⟩⟩⟩;have hce:zLe x=0:=by simpa using hck
 have st:=st.drew hd5;obtain⟨ps,hr,hpl,hcl,hcal⟩:=I.xt.cal;have hrl:=hr.len;rw [lM,aW] at hrl;have wn:i64.wrap ((-1) - ((d.x.cl.len:Nat):Int))= -1 - (d.C.length:Int):=W_;rw [wn];refine⟨rfl,σ.cfg,⟨crb st rfl,crb st rfl,crb st rfl,crb st rfl,trivial⟩,x,call st,s_ic st (λhe w6 st6=>⟨λ_=>out he st6,λh=>absurd (by simpa using h) he⟩) λhe tb tks w6 to st6=>⟨N_,λ_ w7 hd7=> ?_⟩⟩;have st:St ⟨W,d.mp σ++m0⟩ ((tks++[(b_,xc)])++(d.cs σ++fr)) w7:=by rw [aN]; exact st6.drew hd7
 have st0:St ⟨W,d.mp σ++m0⟩ ([(b_,xc)]++(tks++(d.cs σ++fr))) w7:=st.pq;refine⟨rfl,d.x.cl,crb st rfl,x.Kind,(call st0).1,λb1 w8 hb1 hw8=> ?_⟩;obtain⟨c,hc⟩:∃ c:CS,c=⟨newT (-1 - (d.C.length:Int)) σ.cfg x,false,0⟩:=⟨_,rfl⟩
 have st8:St ⟨W,d.mp σ++m0⟩ (([(b1,cuV σ.rb d.C.length c (Z0 tb) ⟨none,0,0⟩ none 0 [Vi 0,Vi 0,Vo false,Vs ⟨none,0,0⟩,Vi 0])]++(tks++[(b_,xc)]))++(d.cs σ++fr)) w8:=by
  rw [hc];exact st.alloc hb1 hw8
 refine⟨crb st8 rfl,λb2 w9 hb2 hw9=> ?_⟩;have st9:St ⟨W,d.mp σ++m0⟩ (((b2,[aP b1])::([(b1,cuV σ.rb d.C.length c (Z0 tb) ⟨none,0,0⟩ none 0 [Vi 0,Vi 0,Vo false,Vs ⟨none,0,0⟩,Vi 0])]++(tks++[(b_,xc)])))++(d.cs σ++fr)) w9:=st8.alloc hb2 hw9;refine⟨crb st9 rfl,[aP b1],zS hb2 hw9 rfl,?_⟩;have st10:=(st9.drop1).perm (ztm (A:=[(b1,cuV σ.rb d.C.length c (Z0 tb) ⟨none,0,0⟩ none 0 [Vi 0,Vi 0,Vo false,Vs ⟨none,0,0⟩,Vi 0])]++(tks++[(b_,xc)])));refine hr.append st10 rfl rfl rfl (by show(d.x.cl.len+1)*8<=_; omega) λcl' cb' w10 hr' st11 hl'=> ?_;obtain⟨bs,hbs⟩:∃ bs,bs=(b1,cuV σ.rb d.C.length c (Z0 tb) ⟨none,0,0⟩ none 0 [Vi 0,Vi 0,Vo false,Vs ⟨none,0,0⟩,Vi 0])::tks:=⟨_,rfl⟩
 have st12:St ⟨W,d.mp σ++m0⟩ ((σ.rb,repV σ d.x d.line d.gone)::(cb'++(bs++((b_,xc)::(d.fcs++(d.dcs++(d.gcs++(fl d.LB++(fl d.OB++(d.lb++(d.gb++(d.PB++(d.x.kb++(fl d.x.CB++(σ.fx++fr))))))))))))))) w10:=by
  rw [hbs]; exact st11.perm zhj
 refine⟨rfl,st12.writable 0,λw11 hw11=> ?_⟩;have st13:St ⟨W,d.mp σ++m0⟩ ((σ.rb,repV σ {d.x with cl:=cl'} d.line d.gone)::(cb'++(bs++((b_,xc)::(d.fcs++(d.dcs++(d.gcs++(fl d.LB++(fl d.OB++(d.lb++(d.gb++(d.PB++(d.x.kb++(fl d.x.CB++(σ.fx++fr))))))))))))))) w11:=st12.put0 hw11
 have o:CuO σ d.C.length b1 c bs:=by
  subst hc;exact⟨some ⟨tb,0,none⟩,none,⟨none,0,0⟩,[],0,_,tks,[],[],[],rfl,to,.inl ⟨rfl,rfl⟩,RowC.nil,bU _,rfl,rfl,λe he=>(by cases he),by rw [hbs]; show _::tks=_::(tks++[]); rw [bZ]⟩
 obtain⟨d',hd'⟩:∃ d':RD,d'={d with x:={d.x with cl:=cl',cb:=cb',CB:=d.x.CB++[bs]},C:=d.C++[c]}:=⟨_,rfl⟩
 have X:=I.xt
 have hxt:XtI σ {d.x with cl:=cl',cb:=cb',CB:=d.x.CB++[bs]} d.Q d.M (d.C++[c]) s.qs s.inst:=by
  refine⟨X.ql,X.ml,X.qq,λq hq e he=>by rw [aB]; exact QE.ok_up (X.qz q hq e he),X.sto,λh=>(by simp at h),X.disk,⟨ps++[b1],by rw [aR]; exact hr',by simp [hpl],by show(d.x.CB++[bs]).length=(d.C++[c]).length; simp [hcl],λi e he=> ?_⟩,by rw [aB,bT]; omega⟩;rcases z9c he with he | ⟨rfl,rfl⟩
  ·obtain⟨b2,bs2,h1,h2,h3⟩:=hcal i e he;exact⟨b2,bs2,by rw [aO (gSo h1).1]; exact h1,by show(d.x.CB++[bs])[i]? =_; rw [aO (gSo h2).1]; exact h2,h3⟩
  ·exact⟨b1,bs,by rw [<-hpl,aS (bC _),cY]; rfl,by show(d.x.CB++[bs])[d.C.length]? =_; rw [<-hcl,aS (bC _),cY]; rfl,o⟩
 have I':RepI σ d' log fed s:=by
  subst hd';exact { ok:=I.ok,feed:=I.feed,deps:=I.deps,top:=I.top,gate:=I.gate,ll:=I.ll,lB:=I.lB,lane:=I.lane,ol:=I.ol,il:=I.il,oB:=I.oB,sB:=I.sB,own:=I.own,xt:=hxt,qgood:=I.qgood,igood:=I.igood,line:=I.line,lines:=I.lines,lin:=I.lin,wok:=I.wok,pend:=I.pend,gone:=I.gone }
 refine k1 _ c d' w11 (by rw [hd']) (by rw [hc]; rfl) (by rw [hc]; rfl) (by rw [hc]) (by rw [hd']) ⟨I',h,?_,L,hph,?_⟩
 ·subst hd';exact st13.weak [(b_,xc)] zVj
 ·subst hd';exact ci.new X.qz (by rw [hc]; rfl) (by rw [hc]; rfl) (by rw [hc]; rfl) (by rw [hc]; rfl)
end
set_option maxHeartbeats 4000000
section
variable {W:World} {m0:List (Nat×Obj)} {w:World} {fr:List zb} {c:Cfg} {log:List Tx}
theorem z9o {rb db b_ pb wm top bD:Nat} {f sp dp gt:OA} {tsl:Slc} {trow fcs dcs gcs:List zb} {tv:List Value} {fx:List zb} {fv:Base} {dm:List (Nat×Obj)} {kb fr0:List zb} {R:OA->Int->WP} (hk:DkW (Z0 db) kb) (hfr:fr=kb++fr0)
    (hc:zV c=0) (H:BldW rb c bD [] tv [] fx) (tro:RowC 1 tsl tv trow) (fo:FdO fv sp (some ⟨log,0,0,0,c.Window.toNat,[],none,false⟩) f fcs) (dpo:DepO dp 0 [] [] dm dcs) (go:znd gt ⟨0,top,λ_=>false⟩ gcs)
    (hpb:(pb,List.replicate c.Shards.toNat (Vs nilS))∈fx) (hbc:(b_,cfgV c)∈fx)
    (st:St ⟨W,fv.mp++(dm++((wm,.map #[] 0)::m0))⟩ ((rb,repB c db f dp gt nilS nilS tsl wm)::(trow++(fcs++(dcs++(gcs++(fx++fr)))))) w)
    (k:∀ σ d w',σ.cfg=c->zZh d->RepI σ d log 0 (s0 c.Lanes.toNat c.Shards.toNat top)->St ⟨W,d.mp σ++m0⟩ (d.cs σ++fr0) w'->R (some ⟨σ.rb,0,none⟩) 0 w') :
    ∃(I:Int->WP) (μ:Int->World->Nat),I 0 w/\∀(t103:Int) w,I t103 w->F_ce R b_ (Z0 rb) ⟨some ⟨pb,0,none⟩,c.Shards.toNat,c.Shards.toNat⟩ c.Lanes (λ(t103':Int) w'=>I t103' w'/\μ t103' w'<μ t103 w) t103 w:=by
 have hck:=z7 hc;have hlm:=hck.1
 refine⟨λi w'=>∃(p:Nat) (lsl tsl:Slc) (lp:List (OA)) (lrow trow:List zb) (tv:List Value) (LB:List (List zb)) (fx:List zb),i=(p:Int)/\lp.length=p/\(p:Int)<=c.Lanes/\RowC 1 lsl (lp.map pP) lrow/\RowC 1 tsl tv trow/\BldW rb c bD lp tv LB fx/\(pb,List.replicate c.Shards.toNat (Vs nilS))∈fx/\(b_,cfgV c)∈fx /\
  St ⟨W,fv.mp++(dm++((wm,.map #[] 0)::m0))⟩ ((rb,repB c db f dp gt lsl nilS tsl wm)::(lrow++(trow++(fcs++(dcs++(gcs++(fl LB++(fx++fr)))))))) w',λi _=>c.Lanes.toNat - i.toNat,
  ⟨0,nilS,tsl,[],[],trow,tv,[],fx,rfl,rfl,O_,RowC.nil,tro,H,hpb,hbc,by simpa [zUj] using st⟩,?_⟩
 clear st tro hpb hbc;rintro i w1 ⟨p,lsl,tsl,lp,lrow,trow,tv,LB,fx,rfl,hlp,hps,lro,tro,H,hpb,hbc,st⟩;have hll:=lro.len;rw [lM,hlp,aW] at hll;have htl:=tro.len;rw [H.tl,aW] at htl;unfold F_ce;refine⟨λhi=> ?_,λhi=> ?_⟩
 ·have hi:=dT hi;have wp:i64.wrap ((p:Int)+1)=((p+1:Nat):Int):=W_
  have hnew:newM ((p+1:Nat):Int) c=(some ⟨((p+1:Nat):Int),c,none⟩,0):=by
   unfold newM;rw [if_neg (by simpa using hc),if_neg O_]
  rw [wp];refine⟨c,(st.blk (b_,cfgV c) (by simp [hbc])).all,s_qc st λg bs w2 lo _ st=> ?_⟩;rw [hnew] at lo ⊢;refine⟨N_,λ_=> ?_⟩;have st:St _ ((rb,repB c db f dp gt lsl nilS tsl wm)::(lrow++(trow++(fcs++(dcs++(gcs++(fl (LB++[bs])++(fx++fr)))))))) w2:=st.perm (za λf_=>by simp [ztg] <;> omega);refine⟨rfl,lsl,st.cell 0 rfl rfl,λb4 w3 hb4 hw3=>⟨[pP g],zS hb4 hw3 rfl,?_⟩⟩;have st3:St _ (lrow++((rb,repB c db f dp gt lsl nilS tsl wm)::(trow++(fcs++(dcs++(gcs++(fl (LB++[bs])++(fx++fr)))))))) w3:=((st.alloc (cs:=[pP g]) hb4 hw3).drop1).pq;refine lro.append st3 rfl rfl rfl (by show(lsl.len+1)*8<=_; omega) λlsl' lrow' w4 lro' st hl'=> ?_;have st:St _ ((rb,repB c db f dp gt lsl nilS tsl wm)::(lrow'++(trow++(fcs++(dcs++(gcs++(fl (LB++[bs])++(fx++fr)))))))) w4:=st.pq;refine⟨rfl,st.writable 0,λw5 hw5=> ?_⟩;have st:St _ ((rb,repB c db f dp gt lsl' nilS tsl wm)::(lrow'++(trow++(fcs++(dcs++(gcs++(fl (LB++[bs])++(fx++fr)))))))) w5:=st.put0 hw5;refine⟨rfl,tsl,st.cell 0 rfl rfl,λb5 w6 hb5 hw6 b6 w7 hb6 hw7=>⟨[Value.iface 136 (aP b5)],zS hb6 hw7 rfl,?_⟩⟩;have st:=(st.alloc (cs:=[aP rb,pP g]) hb5 hw6).alloc (cs:=[Value.iface 136 (aP b5)]) hb6 hw7;have st:St _ (trow++((rb,repB c db f dp gt lsl' nilS tsl wm)::(lrow'++(fcs++(dcs++(gcs++(fl (LB++[bs])++(((b5,[aP rb,pP g])::fx)++fr)))))))) w7:=st.drop1.pq;refine tro.append st rfl rfl rfl (by show(tsl.len+1)*16<=_; omega) λtsl' trow' w8 tro' st hl2=> ?_;have st:St _ ((rb,repB c db f dp gt lsl' nilS tsl wm)::(lrow'++(trow'++(fcs++(dcs++(gcs++(fl (LB++[bs])++(((b5,[aP rb,pP g])::fx)++fr)))))))) w8:=st.pq;refine⟨rfl,st.writable 0,λw9 hw9=> ?_⟩;have st:=st.put0 hw9;have hadd:=H.add (b:=b5) (p:=g) (bs:=bs) (by rw [hlp]; exact lo);exact⟨⟨p+1,lsl',tsl',lp++[g],lrow',trow',tv++[Value.iface 136 (aP b5)],LB++[bs],(b5,[aP rb,pP g])::fx,rfl,by simp [hlp],O_,by rw [aR]; exact lro',tro',hadd,aJ _ hpb,aJ _ hbc,st⟩,by show c.Lanes.toNat - (((p+1:Nat):Int)).toNat<c.Lanes.toNat - ((p:Nat):Int).toNat; omega⟩
 ·have hi:=dF hi;have hpe:p=c.Lanes.toNat:=O_;refine⟨c.Shards,(st.blk (b_,cfgV c) (by simp [hbc])).cell rfl,z8o (sp:=sp) hk hfr hc O_ H lro tro fo dpo go hpb hbc st λσ d w' e F I st=>k σ d w' e F ?_ st⟩;rw [hlp,hpe] at I;exact I
theorem zbr {win:Int} (hw:1<=win/\win<=64):zqc log 0 [] win=0:=by
 unfold zqc
 rw [if_neg O_,if_neg (λh=>h λi x hi=>by simp at hi),if_neg (by
  rw [show([]:List Int).length=0 from rfl,zdd]; omega)]
theorem z2l {rb db b_ b1 sb wm:Nat} {cap:Int} {dp:OA} {dcs scs:List zb} {dm:List (Nat×Obj)} {R:OA->Int->WP}
    (hcap:0<=cap/\cap<=16777216) (hc:zV c=0) (hl:chkL 1 log=0) (so:SrcO sb log [] scs) (dpo:DepO dp 0 [] [] dm dcs)
    (st:St ⟨W,dm++((wm,.map #[] 0)::m0)⟩ ((rb,repB c db none dp none nilS nilS nilS wm)::(dcs++((b1,savV saved0)::(b_,cfgV c)::(db,zRb cap)::(scs++fr)))) w)
    (k:∀ σ d top w',σ.cfg=c->zZh d->RepI σ d log 0 (s0 c.Lanes.toNat c.Shards.toNat top)->St ⟨W,d.mp σ++m0⟩ (d.cs σ++fr) w'->R (some ⟨σ.rb,0,none⟩) 0 w'):F_kc (Z0 sb) R b_ b1 (Z0 rb) w:=by
 have hck:=z7 hc;have hwi:=hck.2.2.1;unfold F_kc;have cs1:∀ {w':World} {mp:List (Nat×Obj)} {L:List zb} {o:Nat} {v:Value},St ⟨W,mp⟩ L w'->(b1,savV saved0)∈L->(savV saved0)[o]? =some v->w'.cell? ⟨b1,o,none⟩=some v:=λst hm hv=>(st.blk _ hm).cell hv;refine⟨0,cs1 st (by simp) rfl,nilS,cs1 st (by simp) rfl,c.Window,(st.blk (b_,cfgV c) (by simp)).cell rfl,?_⟩;have st1:St ⟨W,dm++((wm,.map #[] 0)::m0)⟩ (scs++((rb,repB c db none dp none nilS nilS nilS wm)::(dcs++((b1,savV saved0)::(b_,cfgV c)::(db,zRb cap)::fr)))) w:=st.pq;refine s_8c (bs:=[]) hl so st1 (λ{l' w'} _=>⟨rfl,.inl rfl⟩) (by show 0<=_; omega) D_ (λx hx=>(by cases hx)) (λh=>absurd (zbr hwi) h) λ_ fm fb fcs w2 fo st=> ?_;have st:St ⟨W,fm++(dm++((wm,.map #[] 0)::m0))⟩ ((rb,repB c db none dp none nilS nilS nilS wm)::(fcs++(dcs++((b1,savV saved0)::(b_,cfgV c)::(db,zRb cap)::fr)))) w2:=st.pq;refine⟨rfl,st.writable 0,λw3 hw3=>⟨N_,λ_=> ?_⟩⟩;have st:St ⟨W,fm++(dm++((wm,.map #[] 0)::m0))⟩ ((rb,repB c db (Z0 fb) dp none nilS nilS nilS wm)::(fcs++(dcs++((b1,savV saved0)::(b_,cfgV c)::(db,zRb cap)::fr)))) w3:=st.put0 hw3;refine⟨0,cs1 st (by simp) rfl,nilS,cs1 st (by simp) rfl,?_⟩;refine s_sc (mark:=0) (xs:=[]) st (λl' w' _=>⟨rfl,.inl rfl⟩) (by show 0<=_; omega) (λh=> ?_) λmk hmk _ _ g' top gcs w4 go st=> ?_
 ·rcases h with h | h | h
  ·omega
  ·omega
  ·cases h
 obtain rfl:mk=0:=O_
 have go:znd g' ⟨0,top,λ_=>false⟩ gcs:=by
  have e:(λj:Nat=>decide ((j:Int)∈([]:List Int)))=λ_=>false:=funext λj=>by simp
  rw [<-e]; exact go
 have st:St ⟨W,fm++(dm++((wm,.map #[] 0)::m0))⟩ ((rb,repB c db (Z0 fb) dp none nilS nilS nilS wm)::(gcs++(fcs++(dcs++((b1,savV saved0)::(b_,cfgV c)::(db,zRb cap)::fr))))) w4:=st.pq;refine⟨rfl,st.writable 0,λw5 hw5=>⟨N_,λ_=> ?_⟩⟩;have st:St ⟨W,fm++(dm++((wm,.map #[] 0)::m0))⟩ ((rb,repB c db (Z0 fb) dp g' nilS nilS nilS wm)::(gcs++(fcs++(dcs++((b1,savV saved0)::(b_,cfgV c)::(db,zRb cap)::fr))))) w5:=st.put0 hw5;refine⟨c,(st.blk (b_,cfgV c) (by simp)).all,saved0,(st.blk (b1,savV saved0) (by simp)).all,s_jb st hc λpb w6 st=>⟨N_,λ_=> ?_⟩⟩;have st:St _ ((rb,repB c db (Z0 fb) dp g' nilS nilS nilS wm)::(pb,List.replicate c.Shards.toNat (Vs nilS))::(gcs++(fcs++(dcs++((b1,savV saved0)::(b_,cfgV c)::(db,zRb cap)::fr))))) w6:=st.pq;refine⟨rfl,nilS,st.cell 0 rfl rfl,λb2 w7 hb2 hw7 b3 w8 hb3 hw8=>⟨[Value.iface 130 (aP b2)],zS hb3 hw8 rfl,?_⟩⟩;have st:=((st.alloc (cs:=[aP rb]) hb2 hw7).alloc (cs:=[Value.iface 130 (aP b2)]) hb3 hw8).drop1;refine RowC.nil.append (l:=_) (bs:=[]) st rfl rfl rfl (by show(0+1)*16<=_; omega) λtsl trow w9 tro st hl2=> ?_;have st:St ⟨W,fm++(dm++((wm,.map #[] 0)::m0))⟩ ((rb,repB c db (Z0 fb) dp g' nilS nilS nilS wm)::(trow++(fcs++(dcs++(gcs++([(b2,[aP rb]),(pb,List.replicate c.Shards.toNat (Vs nilS)),(b1,savV saved0),(b_,cfgV c)]++([(db,zRb cap)]++fr))))))) w9:=st.pq;refine⟨rfl,st.writable 0,λw10 hw10=> ?_⟩;have st:St ⟨W,fm++(dm++((wm,.map #[] 0)::m0))⟩ ((rb,repB c db (Z0 fb) dp g' nilS nilS tsl wm)::(trow++(fcs++(dcs++(gcs++([(b2,[aP rb]),(pb,List.replicate c.Shards.toNat (Vs nilS)),(b1,savV saved0),(b_,cfgV c)]++([(db,zRb cap)]++fr))))))) w10:=st.put0 hw10;refine⟨c.Lanes,(st.blk (b_,cfgV c) (by simp)).cell rfl,z9o (fv:=⟨W,fm⟩) (sp:=some ⟨sb,0,none⟩) (bD:=b2) ⟨db,cap,nilS,nilS,-1,false,0,[],[],[],[],rfl,RowC.nil,RowC.nil,⟨λx hx=>(by cases hx),bU _⟩,⟨λx hx=>(by cases hx),bU _⟩,hcap,rfl⟩ rfl hc ⟨rfl,rfl,by simp,λi p hp=>(by cases hp),rfl,λi p bs hp=>(by cases hp)⟩ tro ⟨fb,sb,rfl,rfl,fo⟩ dpo go (by simp) (by simp) st λσ d w' e F I st=>k σ d top w' e F I st⟩
theorem s_kb {sb db:Nat} {cap:Int} {scs:List zb} {R:OA->Int->WP} (hcap:0<=cap/\cap<=16777216) (hl:chkL 1 log=0) (so:SrcO sb log [] scs) (st:St ⟨W,m0⟩ ((db,zRb cap)::(scs++fr)) w)
    (k0:zV c≠0->∀ w',St ⟨W,m0⟩ ((db,zRb cap)::(scs++fr)) w'->R none 7 w')
    (k:zV c=0->∀ σ d top w',σ.cfg=c->zZh d->RepI σ d log 0 (s0 c.Lanes.toNat c.Shards.toNat top)->St ⟨W,d.mp σ++m0⟩ (d.cs σ++fr) w'->R (some ⟨σ.rb,0,none⟩) 0 w'):C_9c c (Z0 sb) (Z0 db) w R:=by
 apply S_ad;unfold F_kf;intro b_ w1 hb hw;have st:St ⟨W,m0⟩ ((db,zRb cap)::(b_,cfgV c)::(scs++fr)) w1:=(st.alloc (cs:=cfgV c) hb hw).pq;refine⟨N_,λ_=> ?_⟩;unfold F_lc;refine⟨N_,λ_=>⟨c,(st.get 1 rfl).all,s_h λw2 e2=> ?_⟩⟩;have st:=st.keep e2;refine⟨λh=>k0 (by simpa using h) w2 (st.wq [(b_,cfgV c)]),λh=> ?_⟩;have hc:zV c=0:=by simpa using h
 refine s_1c st λw3 st b1 w4 hb1 hw4=> ?_;have st:=st.alloc (cs:=savV saved0) hb1 hw4;refine⟨st.writable 0,λw5 hw5=>⟨N_,λ_ w6 e6=> ?_⟩⟩;have st:St ⟨W,m0⟩ ((b1,savV saved0)::(db,zRb cap)::(b_,cfgV c)::(scs++fr)) w6:=(st.put0 hw5).drew e6;have st:St ⟨W,m0⟩ ((b1,savV saved0)::(b_,cfgV c)::(db,zRb cap)::(scs++fr)) w6:=st.pq;refine⟨c,(st.get 1 rfl).all,s_S st λdp dm dcs w7 dpo st=> ?_,λwm w7 hwm hw7=> ?_⟩
 ·have cc:∀ {w':World} {mp:List (Nat×Obj)},St ⟨W,mp⟩ (dcs++((b1,savV saved0)::(b_,cfgV c)::(db,zRb cap)::(scs++fr))) w'->zf w' b_ 0 (cfgV c):=λst=>(st.blk (b_,cfgV c) (by simp)).all;refine⟨cc st,λwm w8 hwm hw8=> ?_⟩;have st:=st.mnew hwm hw8;refine⟨cc st,λrb w9 hrb hw9=> ?_⟩;have st:=st.alloc (cs:=repB c db none dp none nilS nilS nilS wm) hrb hw9;exact z2l hcap hc hl so dpo (st.mperm (za λf_=>by simp <;> omega)) (k hc)
 ·have st:=st.mnew hwm hw7;refine⟨(st.get 1 rfl).all,s_S st λdp dm dcs w8 dpo st=>⟨(st.blk (b_,cfgV c) (by simp)).all,λrb w9 hrb hw9=> ?_⟩⟩;have st:=st.alloc (cs:=repB c db none dp none nilS nilS nilS wm) hrb hw9;exact z2l hcap hc hl so dpo st (k hc)
theorem s_gd {σ:RS} {d:RD} {s:TS} {last:Int} {R:Int->WP} (F:zZh d) (I:RepI σ d log 0 s) (st:St ⟨W,d.mp σ++m0⟩ (d.cs σ++fr) w)
    (k:∀ e d' w',zZh d'->RepI σ d' log (if last<0\/last>((log.length:Nat):Int) then 0 else last.toNat) s->St ⟨W,d'.mp σ++m0⟩ (d'.cs σ++fr) w'->R e w'):C_wb (some ⟨σ.rb,0,none⟩) last w R:=by
 apply S_7;unfold F_Xd;refine s_i st ⟨N_,λ_=>⟨rfl,false,crb (A:=[]) st (by show some (Vo d.x.dead)=_; rw [F.2.2]),N_,λ_=>⟨rfl,σ.f,crb (A:=[]) st rfl,?_⟩⟩⟩;have st:St ⟨W,d.mp σ++m0⟩ (d.fcs++(({d with fcs:=[]}:RD).cs σ++fr)) w:=st.pR;refine s_Rc (λq hq=>fvm hq) I.feed st λfcs' w2 fo st=>k _ {d with fcs:=fcs'} w2 F { I with feed:= ?_ } (st.pR);unfold zpj at fo;simp only [bW,if_false] at fo;by_cases h:last<0\/last>((log.length:Nat):Int)
 ·rw [if_pos h];rw [if_pos (show last<((0:Nat):Int)\/_ from h)] at fo;exact fo
 ·rw [if_neg h];rw [if_neg (show ¬ (last<((0:Nat):Int)\/_) from h)] at fo;exact fo
end
end Go.Proofs.YtofjmclceflgiaaGreat
