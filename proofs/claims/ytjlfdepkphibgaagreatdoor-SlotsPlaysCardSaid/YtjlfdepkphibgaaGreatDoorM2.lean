/- Chapter 19: a slot's bytes, as the document has them. -/
import Derived.Test.YtjlfdepkphibgaaGreatDoorM1
import Derived.Test.YtjlfdepkphibgaaGreatDoorGdump
import Derived.Test.YtjlfdepkphibgaaGreatDoorGtowpathref02
import Derived.Test.YtjlfdepkphibgaaGreatDoorGtowpathref18
import Derived.Test.YtjlfdepkphibgaaGreatDoorGtowpathref08
import Derived.Test.YtjlfdepkphibgaaGreatDoorGtowpathref05
import Derived.Test.YtjlfdepkphibgaaGreatDoorGtowpathref12
import Derived.Test.YtjlfdepkphibgaaGreatDoorGtowpathref09
import Derived.Test.YtjlfdepkphibgaaGreatDoorGtowpathref03
import Derived.Test.YtjlfdepkphibgaaGreatDoorGtowpathref04
import Derived.Test.YtjlfdepkphibgaaGreatDoorGtowpathref19
namespace Go.Proofs.YtjlfdepkphibgaaGreatDoor
open Go
set_option linter.unusedVariables false
set_option linter.unusedSimpArgs false

/-- A reader, the first fault, and how much was left. -/
structure DS where
 r:RS
 e:Int
 left:Nat
def zHb (d:DS) (is:Bool) (f:Int):DS :=
 ⟨d.r,if d.e≠0 then d.e else if d.r.rest.length=d.left then(if d.r.end_=0 then 5 else d.r.end_) else if is=true then f else 0,d.r.rest.length⟩
def numD (d:DS):DS:=zHb ⟨(varR d.r).1,d.e,d.left⟩ (decide (((varR d.r).2:Int)>65536)) 3
def numM (d:DS):Int×DS:=if d.e≠0 then(0,d) else if(numD d).e≠0 then(0,numD d) else(((varR d.r).2:Int),numD d)
def verD (d:DS):DS:=zHb ⟨(fixR 1 d.r).1,d.e,d.left⟩ (decide (((fixR 1 d.r).2:Int)>1)) 4
def txtD (most:Int) (d:DS):DS:=zHb ⟨(zV most d.r).1,d.e,d.left⟩ false 0
def verM (d:DS):Ver×DS :=
 if(numM d).2.e≠0 then(⟨(numM d).1,ByteArray.empty,false⟩,(numM d).2)
 else if(verD (numM d).2).e≠0∨(fixR 1 (numM d).2.r).2=1 then(⟨(numM d).1,ByteArray.empty,decide ((fixR 1 (numM d).2.r).2=1)⟩,verD (numM d).2)
 else(⟨(numM d).1,mkS (zV 1024 (verD (numM d).2).r).2,false⟩,txtD 1024 (verD (numM d).2))
def repM {α:Type} (f:DS→α×DS):Nat→DS→List α×DS
 | 0,d=>([],d)
 | n+1,d=>if d.e≠0 then([],d) else((f d).1::(repM f n (f d).2).1,(repM f n (f d).2).2)
def z8:Nat→DS→List Hd×DS
 | 0,d=>([],d)
 | n+1,d=>if d.e≠0 then([],d) else if(txtD 64 d).e≠0 then([],txtD 64 d) else
  ((mkS (zV 64 d.r).2,(repM verM (numM (txtD 64 d)).1.toNat (numM (txtD 64 d)).2).1)::(z8 n (repM verM (numM (txtD 64 d)).1.toNat (numM (txtD 64 d)).2).2).1,(z8 n (repM verM (numM (txtD 64 d)).1.toNat (numM (txtD 64 d)).2).2).2)
def keyD (d:DS):DS:=if d.e=0 then zHb ⟨(varR d.r).1,d.e,d.left⟩ false 0 else⟨(varR d.r).1,d.e,d.left⟩
/-- The parts, one behind the other. -/
def d0M (xs:List UInt8):DS:=⟨⟨xs,0⟩,0,xs.length⟩
def begM (d:DS):List Int×DS:=repM numM (numM d).1.toNat (numM d).2
def hldM (d:DS):List Hd×DS:=z8 (varR d.r).2 (keyD d)
def allD (xs:List UInt8):SvM×DS:=(⟨(numM (d0M xs)).1,(begM (numM (d0M xs)).2).1,(hldM (begM (numM (d0M xs)).2).2).1⟩,(hldM (begM (numM (d0M xs)).2).2).2)
abbrev zSv:SvM:=⟨0,[],[]⟩
open Classical in
noncomputable def decM (xs:List UInt8):SvM×Int :=
 if(allD xs).2.e≠0 then(zSv,(allD xs).2.e) else if(allD xs).2.r.rest.length>0 then(zSv,4) else if ckOk (allD xs).1 then((allD xs).1,0) else(zSv,1)
/-! ### Nothing but what is there is taken -/
def GdD (d:DS):Prop:=d.e=0→d.r.code=0∧d.left=d.r.rest.length
theorem zje {d:DS} {is:Bool} {f:Int} (h:(zHb d is f).e=0) (hf:f≠0∨is=false):d.e=0∧d.r.rest.length≠d.left∧is=false:=by
 unfold zHb at h
 simp only at h
 split at h
 ·contradiction
 rename_i h1
 split at h
 ·split at h
  ·cases h
  ·contradiction
 rename_i h2
 split at h
 ·rename_i h3
  rcases hf with hf | hf
  ·exact absurd h hf
  ·rw [h3] at hf; cases hf
 ·rename_i h3
  exact⟨O_,h2,by simpa using h3⟩
theorem zYd {l:List UInt8} {c:Int} (h:(varR ⟨l,c⟩).1.rest.length≠l.length):c=0∧∃ n r,varR ⟨l,c⟩=(⟨r,0⟩,n)∧l=varF n++r∧n<2 ^ 64:=by
 by_cases hc:c=0
 ·subst hc
  refine⟨rfl,?_⟩
  rcases zxd l with ⟨c,_,hv⟩ | h2
  ·rw [hv] at h; exact absurd rfl h
  ·exact h2
 ·exfalso
  apply h
  unfold varR
  rw [if_pos hc]
theorem z6f {l:List UInt8} {c:Int} (h:(fixR 1 ⟨l,c⟩).1.rest.length≠l.length):c=0∧∃ n r,fixR 1 ⟨l,c⟩=(⟨r,0⟩,n)∧l=fixB 1 n++r∧n<256:=by
 by_cases hc:c=0
 ·subst hc
  refine⟨rfl,?_⟩
  rcases zQf l with ⟨_,hv⟩ | h2
  ·rw [hv] at h; exact absurd rfl h
  ·exact h2
 ·exfalso
  apply h
  unfold fixR
  rw [if_pos hc]
theorem zke (s:RS):(varR s).1.rest.length≤s.rest.length:=by
 unfold varR
 split
 ·exact Nat.le_refl _
 split
 ·exact Nat.le_refl _
 ·rw [List.length_drop]; omega
theorem zfh (s:RS):(fixR 1 s).1.rest.length≤s.rest.length:=by
 unfold fixR
 split
 ·exact Nat.le_refl _
 split
 ·exact Nat.le_refl _
 split
 ·exact Nat.le_refl _
 ·rw [List.length_drop]; omega
theorem z7f (most:Int) (s:RS):(zV most s).1.rest.length≤s.rest.length:=by
 unfold zV
 repeat' split
 all_goals first | exact Nat.le_refl _ | (rw [List.length_drop]; omega)
theorem zjc (d:DS):(numM d).2.r.rest.length≤d.r.rest.length:=by
 unfold numM
 split
 ·exact Nat.le_refl _
 split
 ·exact zke _
 ·exact zke _
theorem zYe (d:DS):(verM d).2.r.rest.length≤d.r.rest.length:=by
 have h1:=zjc d
 have h2:=zfh (numM d).2.r
 unfold verM
 split
 ·exact h1
 split
 ·exact Nat.le_trans h2 h1
 ·exact Nat.le_trans (z7f _ _) (Nat.le_trans h2 h1)
theorem zZe {α:Type} {f:DS→α×DS} (hf:∀ d,(f d).2.r.rest.length≤d.r.rest.length):∀(n:Nat) (d:DS),(repM f n d).2.r.rest.length≤d.r.rest.length
 | 0,d=>Nat.le_refl _
 | n+1,d=>by
  rw [repM]
  split
  ·exact Nat.le_refl _
  ·exact Nat.le_trans (zZe hf n _) (hf d)
theorem z8f {α:Type} {f:DS→α×DS}:∀(n:Nat) (d:DS),(repM f n d).1.length≤n
 | 0,d=>Nat.le_refl _
 | n+1,d=>by
  rw [repM]
  split
  ·exact Nat.zero_le _
  ·rw [List.length_cons]; have:=z8f (f:=f) n (f d).2; omega
theorem zZd (d:DS):0≤(numM d).1∧(numM d).1≤65536:=by
 unfold numM
 split
 ·exact⟨Int.le_refl 0,by show(0:Int)≤65536; omega⟩
 split
 ·exact⟨Int.le_refl 0,by show(0:Int)≤65536; omega⟩
 ·rename_i h1 h2
  have h:=zje (d:=⟨(varR d.r).1,d.e,d.left⟩) (f:=3) (is:=decide (((varR d.r).2:Int)>65536)) (by unfold numD at h2; omega) (.inl D_)
  have:=of_decide_eq_false h.2.2
  exact⟨O_,by simp only; omega⟩
/-! ### What is taken is what is written -/
theorem z0e {d:DS} (hg:GdD d) (hd:d.e=0) (h:(numM d).2.e=0):d.r.rest=encB (numM d).1++(numM d).2.r.rest∧GdD (numM d).2∧(numM d).2.r.rest.length<d.r.rest.length:=by
 have hl:=zke d.r
 unfold numM at h ⊢
 rw [if_neg O_] at h ⊢
 by_cases hn:(numD d).e≠0
 ·rw [if_pos hn] at h; exact absurd h hn
 rw [if_neg hn]
 have hn:(numD d).e=0:=O_
 have hw:=zje (d:=⟨(varR d.r).1,d.e,d.left⟩) (f:=3) (is:=decide (((varR d.r).2:Int)>65536)) hn (.inl D_)
 have hne:(varR d.r).1.rest.length≠d.left:=hw.2.1
 rw [(hg hd).2] at hne
 obtain⟨hc,n,r,hv,hrest,_⟩:=zYd (l:=d.r.rest) (c:=d.r.code) hne
 have hv:varR d.r=(⟨r,0⟩,n):=hv
 have hr:(numD d).r=⟨r,0⟩:=by show(varR d.r).1=_; rw [hv]
 refine⟨?_,fun _=>⟨by rw [hr],rfl⟩,?_⟩
 ·rw [hr,hv,hrest]; unfold encB; rw [Int.toNat_natCast]
 ·show(varR d.r).1.rest.length<_; omega
theorem zgh {d:DS} {most:Int} (hg:GdD d) (hd:d.e=0) (hm:0≤most) (hl:d.r.rest.length≤140737488351232) (h:(txtD most d).e=0):d.r.rest=(varF (zV most d.r).2.length++(zV most d.r).2)++(txtD most d).r.rest∧GdD (txtD most d)∧(txtD most d).r.rest.length<d.r.rest.length:=by
 have hle:=z7f most d.r
 have hw:=zje (d:=⟨(zV most d.r).1,d.e,d.left⟩) (f:=0) (is:=false) h (.inr rfl)
 have hne:(zV most d.r).1.rest.length≠d.left:=hw.2.1
 rw [(hg hd).2] at hne
 have hc:=(hg hd).1
 have hrr:(txtD most d).r=(zV most d.r).1:=rfl
 rw [hrr]
 have key:(zV most d.r).1.code=0∧d.r.rest=(varF (zV most d.r).2.length++(zV most d.r).2)++(zV most d.r).1.rest:=by
  have hd:d.r=⟨d.r.rest,0⟩:=by rw [←hc]
  rcases z6e hm d.r.rest with ⟨c,_,he⟩ | ⟨x,r1,he,hx,hxl⟩
  ·rw [hd,he] at hne; exact absurd rfl hne
  ·rw [hd,he]; exact⟨rfl,by rw [hx,List.append_assoc]⟩
 refine⟨key.2,fun _=>⟨key.1,rfl⟩,?_⟩
 show(zV most d.r).1.rest.length<_; omega
theorem zVl {d:DS} (hg:GdD d) (hd:d.e=0) (hl:d.r.rest.length≤140737488351232) (h:(verM d).2.e=0):d.r.rest=zpb (verM d).1++(verM d).2.r.rest∧GdD (verM d).2∧(verM d).2.r.rest.length<d.r.rest.length:=by
 have hnl:=zjc d
 unfold verM at h ⊢
 by_cases h1:(numM d).2.e≠0
 ·rw [if_pos h1] at h; exact absurd h h1
 rw [if_neg h1] at h ⊢
 have h1:(numM d).2.e=0:=O_
 obtain⟨a1,a2,a3⟩:=z0e hg hd h1
 have hv0:(verD (numM d).2).e=0:=by
  by_cases h2:(verD (numM d).2).e=0
  ·exact h2
  ·rw [if_pos (.inl h2)] at h; exact absurd h h2
 have hw:=zje (d:=⟨(fixR 1 (numM d).2.r).1,(numM d).2.e,(numM d).2.left⟩) (f:=4) (is:=decide (((fixR 1 (numM d).2.r).2:Int)>1)) hv0 (.inl D_)
 have hne:(fixR 1 (numM d).2.r).1.rest.length≠(numM d).2.left:=hw.2.1
 rw [(a2 h1).2] at hne
 have hfl:=zfh (numM d).2.r
 obtain⟨hc,n,r,hf,hrest,_⟩:=z6f (l:=(numM d).2.r.rest) (c:=(numM d).2.r.code) hne
 have hf:fixR 1 (numM d).2.r=(⟨r,0⟩,n):=hf
 have hn1:=of_decide_eq_false hw.2.2
 have hvr:(verD (numM d).2).r=⟨r,0⟩:=by show(fixR 1 (numM d).2.r).1=_; rw [hf]
 have hvg:GdD (verD (numM d).2):=fun _=>⟨by rw [hvr],rfl⟩
 rw [hf] at hn1 hne hfl
 have hrl:r.length<(numM d).2.r.rest.length:=by
  have h1:r.length≠(numM d).2.r.rest.length:=hne
  have h2:r.length≤(numM d).2.r.rest.length:=hfl
  omega
 rw [hf] at h ⊢
 by_cases hn:n=1
 ·subst hn
  rw [if_pos (.inr rfl)]
  refine⟨?_,hvg,by rw [hvr]; show r.length<_; omega⟩
  show d.r.rest=zpb ⟨(numM d).1,ByteArray.empty,decide ((1:Nat)=1)⟩++(verD (numM d).2).r.rest
  rw [hvr,a1,hrest]
  unfold zpb encB
  rw [if_pos (by rfl),List.append_assoc]
 ·have hno:¬ ((verD (numM d).2).e≠0∨n=1):=fun h'=>h'.elim (fun h'=>h' hv0) hn
  have hno':¬ ((verD (numM d).2).e≠0∨((⟨r,0⟩,n):RS×Nat).2=1):=hno
  rw [if_neg hno'] at h ⊢
  have hn0:n=0:=O_
  subst hn0
  have hlr:(verD (numM d).2).r.rest.length≤140737488351232:=by rw [hvr]; show r.length≤_; omega
  obtain⟨b1,b2,b3⟩:=zgh (most:=1024) hvg hv0 D_ hlr h
  refine⟨?_,b2,by rw [hvr] at b3; have b3:(txtD 1024 (verD (numM d).2)).r.rest.length<r.length:=b3; show(txtD 1024 (verD (numM d).2)).r.rest.length<_; omega⟩
  show d.r.rest=zpb ⟨(numM d).1,mkS (zV 1024 (verD (numM d).2).r).2,false⟩++(txtD 1024 (verD (numM d).2)).r.rest
  have hr:r=(verD (numM d).2).r.rest:=by rw [hvr]
  rw [a1,hrest,hr,b1]
  unfold zpb encB
  rw [if_neg (by simp)]
  simp only [z6h,mkS_toList,List.append_assoc]
theorem zhh {α:Type} {f:DS→α×DS} {enc:α→List UInt8} (hf:∀ {d:DS},GdD d→d.e=0→d.r.rest.length≤140737488351232→(f d).2.e=0→d.r.rest=enc (f d).1++(f d).2.r.rest∧GdD (f d).2∧(f d).2.r.rest.length<d.r.rest.length) (hfl:∀ d,(f d).2.r.rest.length≤d.r.rest.length) (hfe:∀ d,d.e≠0→(f d).2.e≠0):∀(n:Nat) (d:DS),GdD d→d.r.rest.length≤140737488351232→(repM f n d).2.e=0 →
    d.e=0∧d.r.rest=(repM f n d).1.flatMap enc++(repM f n d).2.r.rest∧(repM f n d).1.length=n∧GdD (repM f n d).2
 | 0,d,hg,_,h=>⟨h,by rw [repM]; rfl,rfl,hg⟩
 | n+1,d,hg,hl,h=>by
  rw [repM] at h ⊢
  by_cases hd:d.e≠0
  ·rw [if_pos hd] at h; exact absurd h hd
  rw [if_neg hd] at h ⊢
  have hd:d.e=0:=O_
  have hstep:(f d).2.e=0:=by
   have h2:(repM f n (f d).2).2.e=0:=h
   cases n with
   | zero=>exact h2
   | succ n =>
    rw [repM] at h2
    by_cases h3:(f d).2.e≠0
    ·rw [if_pos h3] at h2; exact absurd h2 h3
    ·omega
  obtain⟨a1,a2,a3⟩:=hf hg hd hl hstep
  obtain⟨b1,b2,b3,b4⟩:=zhh hf hfl hfe n (f d).2 a2 (by have:=hfl d; omega) h
  refine⟨hd,?_,?_,b4⟩
  ·show d.r.rest=((f d).1::(repM f n (f d).2).1).flatMap enc++(repM f n (f d).2).2.r.rest
   rw [List.flatMap_cons,List.append_assoc,←b2]; exact a1
  ·show((f d).1::(repM f n (f d).2).1).length=n+1
   rw [List.length_cons,b3]
theorem zgd {d:DS} (h:d.e≠0):(numM d).2.e≠0:=by unfold numM; rw [if_pos h]; exact h
theorem z7i {d:DS} (h:d.e≠0):(verM d).2.e≠0:=by unfold verM; rw [if_pos (zgd h)]; exact zgd h
theorem zZh:∀(n:Nat) (d:DS),GdD d→d.r.rest.length≤140737488351232→(z8 n d).2.e=0→d.e=0∧d.r.rest=(z8 n d).1.flatMap zxc++(z8 n d).2.r.rest∧(z8 n d).1.length=n∧GdD (z8 n d).2
 | 0,d,hg,_,h=>⟨h,by rw [z8]; rfl,rfl,hg⟩
 | n+1,d,hg,hl,h=>by
  rw [z8] at h ⊢
  by_cases hd:d.e≠0
  ·rw [if_pos hd] at h; exact absurd h hd
  rw [if_neg hd] at h ⊢
  have hd:d.e=0:=O_
  by_cases ht:(txtD 64 d).e≠0
  ·rw [if_pos ht] at h; exact absurd h ht
  rw [if_neg ht] at h ⊢
  have ht:(txtD 64 d).e=0:=O_
  obtain⟨a1,a2,a3⟩:=zgh (most:=64) hg hd D_ hl ht
  have n1:=zjc (txtD 64 d)
  have r1:=zZe zYe (numM (txtD 64 d)).1.toNat (numM (txtD 64 d)).2
  have hve:∀ {n:Nat} {d:DS},d.e≠0→(z8 n d).2.e≠0:=fun {n d} h=>by
   cases n with
   | zero=>exact h
   | succ n=>rw [z8,if_pos h]; exact h
  have hre:∀ {n:Nat} {d:DS},d.e≠0→(repM verM n d).2.e≠0:=fun {n d} h=>by
   cases n with
   | zero=>exact h
   | succ n=>rw [repM,if_pos h]; exact h
  have h2:(z8 n (repM verM (numM (txtD 64 d)).1.toNat (numM (txtD 64 d)).2).2).2.e=0:=h
  have hv:(repM verM (numM (txtD 64 d)).1.toNat (numM (txtD 64 d)).2).2.e=0:=by
   by_cases hx:(repM verM (numM (txtD 64 d)).1.toNat (numM (txtD 64 d)).2).2.e=0
   ·exact hx
   ·exact absurd h2 (hve hx)
  have hn:(numM (txtD 64 d)).2.e=0:=by
   by_cases hx:(numM (txtD 64 d)).2.e=0
   ·exact hx
   ·exact absurd hv (hre hx)
  obtain⟨b1,b2,b3⟩:=z0e a2 ht hn
  obtain⟨_,c2,c3,c4⟩:=zhh (enc:=zpb) (fun {d} hg hd hl h=>zVl hg hd hl h) zYe (fun d h=>z7i h) _ _ b2 O_ hv
  obtain⟨_,e2,e3,e4⟩:=zZh n _ c4 O_ h2
  refine⟨hd,?_,by show(_::_).length=n+1; rw [List.length_cons,e3],e4⟩
  show d.r.rest=((mkS (zV 64 d.r).2,(repM verM (numM (txtD 64 d)).1.toNat (numM (txtD 64 d)).2).1)::(z8 n (repM verM (numM (txtD 64 d)).1.toNat (numM (txtD 64 d)).2).2).1).flatMap zxc++(z8 n (repM verM (numM (txtD 64 d)).1.toNat (numM (txtD 64 d)).2).2).2.r.rest
  rw [List.flatMap_cons,List.append_assoc,←e2]
  have e5:zxc (mkS (zV 64 d.r).2,(repM verM (numM (txtD 64 d)).1.toNat (numM (txtD 64 d)).2).1)=(varF (zV 64 d.r).2.length++(zV 64 d.r).2)++(encB (numM (txtD 64 d)).1++(repM verM (numM (txtD 64 d)).1.toNat (numM (txtD 64 d)).2).1.flatMap zpb):=by
   unfold zxc encB
   rw [z6h,mkS_toList,c3]
  rw [e5]
  simp only [List.append_assoc] at a1 ⊢
  rw [←c2,←b1]
  exact a1
theorem zWl {xs:List UInt8} (hl:xs.length≤140737488351232) (h:(decM xs).2=0):ckOk (decM xs).1∧encS (decM xs).1=xs:=by
 unfold decM at h ⊢
 by_cases h1:(allD xs).2.e≠0
 ·rw [if_pos h1] at h; exact absurd h h1
 rw [if_neg h1] at h ⊢
 by_cases h2:(allD xs).2.r.rest.length>0
 ·rw [if_pos h2] at h; exact absurd h D_
 rw [if_neg h2] at h ⊢
 by_cases h3:ckOk (allD xs).1
 rotate_left
 ·rw [if_neg h3] at h; exact absurd h D_
 rw [if_pos h3]
 refine⟨h3,?_⟩
 have h1:(allD xs).2.e=0:=O_
 have h2:(allD xs).2.r.rest=[]:=List.eq_nil_of_length_eq_zero O_
 clear h3 h
 have hg0:GdD (d0M xs):=fun _=>⟨rfl,rfl⟩
 have hke:(hldM (begM (numM (d0M xs)).2).2).2.e=0:=h1
 -- behind the number of keys
 have hkd:(keyD (begM (numM (d0M xs)).2).2).e=0:=by
  unfold hldM at hke
  cases hn:(varR (begM (numM (d0M xs)).2).2.r).2 with
  | zero=>rw [hn] at hke; exact hke
  | succ n =>
   rw [hn,z8] at hke
   by_cases hx:(keyD (begM (numM (d0M xs)).2).2).e≠0
   ·rw [if_pos hx] at hke; exact absurd hke hx
   ·omega
 have hbe:(begM (numM (d0M xs)).2).2.e=0:=by
  unfold keyD at hkd
  by_cases hx:(begM (numM (d0M xs)).2).2.e=0
  ·exact hx
  ·rw [if_neg hx] at hkd; exact absurd hkd hx
 have hre:∀ {n:Nat} {d:DS},d.e≠0→(repM numM n d).2.e≠0:=fun {n d} h=>by
  cases n with
  | zero=>exact h
  | succ n=>rw [repM,if_pos h]; exact h
 have hn2:(numM (numM (d0M xs)).2).2.e=0:=by
  by_cases hx:(numM (numM (d0M xs)).2).2.e=0
  ·exact hx
  ·exact absurd hbe (hre hx)
 have hn1:(numM (d0M xs)).2.e=0:=by
  by_cases hx:(numM (d0M xs)).2.e=0
  ·exact hx
  ·exact absurd hn2 (zgd hx)
 obtain⟨a1,a2,a3⟩:=z0e hg0 rfl hn1
 obtain⟨b1,b2,b3⟩:=z0e a2 hn1 hn2
 have hx0:(d0M xs).r.rest=xs:=rfl
 rw [hx0] at a1 a3
 obtain⟨_,c2,c3,c4⟩:=zhh (enc:=encB) (fun {d} hg hd _ h=>z0e hg hd h) zjc (fun d h=>zgd h) _ _ b2 O_ hbe
 have hrl:=zZe zjc (numM (numM (d0M xs)).2).1.toNat (numM (numM (d0M xs)).2).2
 have hbl:(begM (numM (d0M xs)).2).2.r.rest.length≤140737488351232:=by
  have:(begM (numM (d0M xs)).2).2.r.rest.length≤(numM (numM (d0M xs)).2).2.r.rest.length:=hrl
  omega
 have c2:(numM (numM (d0M xs)).2).2.r.rest=(begM (numM (d0M xs)).2).1.flatMap encB++(begM (numM (d0M xs)).2).2.r.rest:=c2
 have c3:(begM (numM (d0M xs)).2).1.length=(numM (numM (d0M xs)).2).1.toNat:=c3
 have c4:GdD (begM (numM (d0M xs)).2).2:=c4
 have hvl:=zke (begM (numM (d0M xs)).2).2.r
 unfold keyD at hkd
 rw [if_pos hbe] at hkd
 have hw:=zje (d:=⟨(varR (begM (numM (d0M xs)).2).2.r).1,(begM (numM (d0M xs)).2).2.e,(begM (numM (d0M xs)).2).2.left⟩) (f:=0) (is:=false) hkd (.inr rfl)
 have hne:(varR (begM (numM (d0M xs)).2).2.r).1.rest.length≠(begM (numM (d0M xs)).2).2.left:=hw.2.1
 rw [(c4 hbe).2] at hne
 obtain⟨hc,n,r,hv,hrest,_⟩:=zYd (l:=(begM (numM (d0M xs)).2).2.r.rest) (c:=(begM (numM (d0M xs)).2).2.r.code) hne
 have hv:varR (begM (numM (d0M xs)).2).2.r=(⟨r,0⟩,n):=hv
 have hkr:(keyD (begM (numM (d0M xs)).2).2).r=⟨r,0⟩:=by unfold keyD; rw [if_pos hbe]; show(varR _).1=_; rw [hv]
 have hkg:GdD (keyD (begM (numM (d0M xs)).2).2):=fun _=>⟨by rw [hkr],by unfold keyD; rw [if_pos hbe]; rfl⟩
 rw [hv] at hvl
 have hvl:r.length≤(begM (numM (d0M xs)).2).2.r.rest.length:=hvl
 obtain⟨_,e2,e3,_⟩:=zZh (varR (begM (numM (d0M xs)).2).2.r).2 (keyD (begM (numM (d0M xs)).2).2) hkg (by rw [hkr]; show r.length≤_; omega) hke
 rw [hkr] at e2
 have e2:r=(hldM (begM (numM (d0M xs)).2).2).1.flatMap zxc++(hldM (begM (numM (d0M xs)).2).2).2.r.rest:=e2
 have e3:(hldM (begM (numM (d0M xs)).2).2).1.length=n:=by
  have h8:(hldM (begM (numM (d0M xs)).2).2).1.length=(varR (begM (numM (d0M xs)).2).2.r).2:=e3
  rw [h8,hv]
 have h2:(hldM (begM (numM (d0M xs)).2).2).2.r.rest=[]:=h2
 rw [h2,List.append_nil] at e2
 show varF (numM (d0M xs)).1.toNat++(varF (begM (numM (d0M xs)).2).1.length++((begM (numM (d0M xs)).2).1.flatMap encB++(varF (hldM (begM (numM (d0M xs)).2).2).1.length++(hldM (begM (numM (d0M xs)).2).2).1.flatMap zxc)))=xs
 rw [c3,e3,←e2,←hrest,←c2]
 show encB (numM (d0M xs)).1++(encB (numM (numM (d0M xs)).2).1++_)=xs
 rw [←b1,←a1]
/-- The reader, the first fault and what was left, in memory. -/
def DcO (b2 b3 b4:Nat) (d:DS) (cs:List zf):Prop :=
 ∃ r rbs,RdO r d.r rbs∧cs=(b2,[Vi d.e])::(b3,[Vp r])::(b4,[Vi ((d.left:Nat):Int)])::rbs
section
variable {w0:Base} {w:World} {fr cs:List zf} {b2 b3 b4:Nat} {d:DS}
theorem s_Cd {is:Bool} {f:Int} {R:Bool→WP} (o:DcO b2 b3 b4 d cs) (st:St w0 (cs++fr) w) (k:∀ cs' w',DcO b2 b3 b4 (zHb d is f) cs'→St w0 (cs'++fr) w'→R ((zHb d is f).e != 0) w') :
    C_Dc is f (some ⟨b2,0,none⟩) (some ⟨b3,0,none⟩) (some ⟨b4,0,none⟩) w R:=by
 apply S_Ac
 unfold F_Le
 obtain⟨r,rbs,ro,rfl⟩:=o
 have st:St w0 ((b2,[Vi d.e])::(b3,[Vp r])::(b4,[Vi ((d.left:Nat):Int)])::(rbs++fr)) w:=st
 have fin:∀ {e:Int} {w':World},e=(zHb d is f).e→St w0 ((b2,[Vi e])::(b3,[Vp r])::(b4,[Vi ((d.left:Nat):Int)])::(rbs++fr)) w'→F_x (some ⟨b2,0,none⟩) (some ⟨b3,0,none⟩) (some ⟨b4,0,none⟩) R w':=by
  intro e w' he st'
  unfold F_x
  have st2:St w0 (rbs++((b2,[Vi e])::(b3,[Vp r])::(b4,[Vi ((d.left:Nat):Int)])::fr)) w':=st'.pq
  have st3:St w0 ((b4,[Vi ((d.left:Nat):Int)])::(b2,[Vi e])::(b3,[Vp r])::(rbs++fr)) w':=st'.pq
  refine⟨rfl,r,st'.cell 1 rfl rfl,s_k st2 ro ⟨rfl,st3.writable 0 rfl (Nat.le_of_ble_eq_true rfl),fun w4 hw4=> ?_⟩⟩
  have st4:St w0 ((b4,[Vi ((d.r.rest.length:Nat):Int)])::(b2,[Vi e])::(b3,[Vp r])::(rbs++fr)) w4:=st3.put0 hw4
  refine⟨rfl,e,st4.cell 1 rfl rfl,?_⟩
  rw [he]
  refine k _ w4 ⟨r,rbs,ro,rfl⟩ ?_
  rw [←he]
  have st5:St w0 ((b2,[Vi e])::(b3,[Vp r])::(b4,[Vi ((d.r.rest.length:Nat):Int)])::(rbs++fr)) w4:=st4.pq
  exact st5
 refine⟨rfl,d.e,st.cell 0 rfl rfl,fun h=> ?_,fun h w4 hd4=> ?_⟩
 ·have h:d.e≠0:=by simpa using h
  exact fin (by unfold zHb; simp only; rw [if_pos h]) st
 have h:d.e=0:=by simpa using h
 have st4:=st.drew hd4
 have st4r:St w0 (rbs++((b2,[Vi d.e])::(b3,[Vp r])::(b4,[Vi ((d.left:Nat):Int)])::fr)) w4:=st4.pq
 refine⟨rfl,r,st4.cell 1 rfl rfl,rfl,((d.left:Nat):Int),st4.cell 2 rfl rfl,s_k st4r ro ⟨st4.cell 2 rfl rfl,fun h2=> ?_,fun h2=>⟨fun h3=> ?_,fun h3=> ?_⟩⟩⟩
 ·have h2:d.r.rest.length=d.left:=by have h2:((d.r.rest.length:Nat):Int)=((d.left:Nat):Int):=by simpa using h2
                                     omega
  refine⟨rfl,r,st4.cell 1 rfl rfl,s_Fb st4r ro ⟨rfl,st4.writable 0 rfl (Nat.le_of_ble_eq_true rfl),fun w5 hw5=> ?_⟩⟩
  have st5:St w0 ((b2,[Vi d.r.end_])::(b3,[Vp r])::(b4,[Vi ((d.left:Nat):Int)])::(rbs++fr)) w5:=st4.put0 hw5
  refine⟨rfl,d.r.end_,st5.cell 0 rfl rfl,fun h4=>⟨rfl,st5.writable 0 rfl (Nat.le_of_ble_eq_true rfl),fun w6 hw6=> ?_⟩,fun h4=> ?_⟩
  ·have h4:d.r.end_=0:=by simpa using h4
   exact fin (e:=5) (by unfold zHb; simp only; rw [if_neg O_,if_pos h2,if_pos h4]) (st5.put0 hw6)
  ·have h4:d.r.end_≠0:=by simpa using h4
   exact fin (by unfold zHb; simp only; rw [if_neg O_,if_pos h2,if_neg h4]) st5
 ·have h2:¬ d.r.rest.length=d.left:=fun e=>by rw [e] at h2; simp at h2
  refine⟨rfl,st4.writable 0 rfl (Nat.le_of_ble_eq_true rfl),fun w6 hw6=> ?_⟩
  exact fin (e:=f) (by unfold zHb; simp only; rw [if_neg O_,if_neg h2,if_pos h3]) (st4.put0 hw6)
 ·have h2:¬ d.r.rest.length=d.left:=fun e=>by rw [e] at h2; simp at h2
  refine fin (e:=d.e) ?_ st4
  unfold zHb; simp only
  rw [if_neg O_,if_neg h2,if_neg (by rw [h3]; decide),h]
end
abbrev pAt (b:Nat):Value:=Vp (some ⟨b,0,none⟩)
abbrev zr (b2 b3 b4:Nat):Value:=Value.func (.func 155) #[] #[pAt b2,pAt b3,pAt b4]
abbrev numV (b2 b3 b5:Nat):Value:=Value.func (.func 158) #[] #[pAt b2,pAt b3,pAt b5]
section
variable {w0:Base} {w:World} {fr cs:List zf} {b2 b3 b4 b5 b6:Nat} {d:DS}
theorem s_m {is:Bool} {f:Int} {K:Ending→WP} (o:DcO b2 b3 b4 d cs) (st:St w0 (cs++fr) w) (k:∀ cs' w',DcO b2 b3 b4 (zHb d is f) cs'→St w0 (cs'++fr) w'→K (Ending.returned (Vo ((zHb d is f).e != 0))) w') :
    zU (P:=Tryz.prog) (zr b2 b3 b4) #[Vo is,Vi f] w K:=by
 refine zU.mk (all:=#[Vo is,Vi f,pAt b2,pAt b3,pAt b4]) K_ rfl ?_
 have hh:C_Dc is f (some ⟨b2,0,none⟩) (some ⟨b3,0,none⟩) (some ⟨b4,0,none⟩) w (fun v w'=>K (Ending.returned (Vo v)) w'):=s_Cd o st k
 refine Calls.mono hh ?_
 rintro e w' ⟨v,rfl,h⟩
 exact h
theorem s_nd {R:Int→WP} (o:DcO b2 b3 b4 d cs) (st:St w0 (cs++((b5,[zr b2 b3 b4])::fr)) w) (k:∀ cs' w',DcO b2 b3 b4 (numM d).2 cs'→St w0 (cs'++((b5,[zr b2 b3 b4])::fr)) w'→R (numM d).1 w') :
    C_Ec (some ⟨b2,0,none⟩) (some ⟨b3,0,none⟩) (some ⟨b5,0,none⟩) w R:=by
 apply S_Bc
 unfold F_Me
 have hx:=o
 obtain⟨r,rbs,ro,rfl⟩:=o
 have st1:St w0 ((b2,[Vi d.e])::(b3,[Vp r])::(b4,[Vi ((d.left:Nat):Int)])::(rbs++((b5,[zr b2 b3 b4])::fr))) w:=st
 refine⟨rfl,d.e,st1.cell 0 rfl rfl,fun h=> ?_,fun h=>⟨rfl,r,st1.cell 1 rfl rfl,?_⟩⟩
 ·have h:d.e≠0:=by simpa using h
  have e:numM d=(0,d):=by unfold numM; rw [if_pos h]
  rw [e] at k
  exact k _ w hx st
 have h:d.e=0:=by simpa using h
 have st2:St w0 (rbs++((b2,[Vi d.e])::(b3,[Vp r])::(b4,[Vi ((d.left:Nat):Int)])::(b5,[zr b2 b3 b4])::fr)) w:=st1.pq
 refine s_z st2 ro fun rb3 w3 ro3 st3=> ?_
 have st3b:St w0 ((b5,[zr b2 b3 b4])::(b2,[Vi d.e])::(b3,[Vp r])::(b4,[Vi ((d.left:Nat):Int)])::(rb3++fr)) w3:=st3.pq
 refine⟨rfl,zr b2 b3 b4,st3b.cell 0 rfl rfl,?_⟩
 have st3c:St w0 (((b2,[Vi d.e])::(b3,[Vp r])::(b4,[Vi ((d.left:Nat):Int)])::rb3)++((b5,[zr b2 b3 b4])::fr)) w3:=st3.pq
 refine s_m (d:=⟨(varR d.r).1,d.e,d.left⟩) ⟨r,rb3,ro3,rfl⟩ st3c fun cs' w4 o4 st4=>⟨_,rfl,fun h4=> ?_,fun h4=> ?_⟩
 ·have h4:(numD d).e≠0:=by unfold numD; simpa using h4
  have e:numM d=(0,numD d):=by unfold numM; rw [if_neg O_,if_pos h4]
  rw [e] at k
  exact k cs' w4 o4 st4
 ·have h4:¬ (numD d).e≠0:=by unfold numD; simpa using h4
  have e:numM d=(((varR d.r).2:Int),numD d):=by unfold numM; rw [if_neg O_,if_neg h4]
  have hr:=zZd d
  rw [e] at k hr
  rw [i64_in _ (by have:=hr.1; simp only at this; omega) (by have:=hr.2; simp only at this; omega)]
  exact k cs' w4 o4 st4
theorem s_r {K:Ending→WP} (o:DcO b2 b3 b4 d cs) (st:St w0 (cs++((b5,[zr b2 b3 b4])::fr)) w) (k:∀ cs' w',DcO b2 b3 b4 (numM d).2 cs'→St w0 (cs'++((b5,[zr b2 b3 b4])::fr)) w'→K (Ending.returned (Vi (numM d).1)) w') :
    zU (P:=Tryz.prog) (numV b2 b3 b5) #[] w K:=by
 refine zU.mk (all:=#[pAt b2,pAt b3,pAt b5]) K_ rfl ?_
 have hh:C_Ec (some ⟨b2,0,none⟩) (some ⟨b3,0,none⟩) (some ⟨b5,0,none⟩) w (fun v w'=>K (Ending.returned (Vi v)) w'):=s_nd o st k
 refine Calls.mono hh ?_
 rintro e w' ⟨v,rfl,h⟩
 exact h
theorem s_Qc {R:T_c→WP} (o:DcO b2 b3 b4 d cs) (hl:d.r.rest.length≤140737488351232) (st:St w0 (cs++((b5,[zr b2 b3 b4])::(b6,[numV b2 b3 b5])::fr)) w) (k:∀ cs' w',DcO b2 b3 b4 (verM d).2 cs'→St w0 (cs'++((b5,[zr b2 b3 b4])::(b6,[numV b2 b3 b5])::fr)) w'→R (verM d).1 w') :
    C_Fc (some ⟨b6,0,none⟩) (some ⟨b2,0,none⟩) (some ⟨b3,0,none⟩) (some ⟨b5,0,none⟩) w R:=by
 apply S_Cc
 unfold F_Ne
 intro b w1 hb hw1
 have st1:St w0 ((b,verV ⟨0,ByteArray.empty,false⟩)::(cs++((b5,[zr b2 b3 b4])::(b6,[numV b2 b3 b5])::fr))) w1:=st.alloc hb hw1
 have st1n:St w0 ((b6,[numV b2 b3 b5])::(b,verV ⟨0,ByteArray.empty,false⟩)::(cs++((b5,[zr b2 b3 b4])::fr))) w1:=st1.pq
 refine⟨rfl,numV b2 b3 b5,st1n.cell 0 rfl rfl,?_⟩
 have st1c:St w0 (cs++((b5,[zr b2 b3 b4])::(b6,[numV b2 b3 b5])::(b,verV ⟨0,ByteArray.empty,false⟩)::fr)) w1:=st1.pq
 refine s_r o st1c fun cs2 w2 o2 st2=>⟨_,rfl,?_⟩
 have st2b:St w0 ((b,verV ⟨0,ByteArray.empty,false⟩)::(cs2++((b5,[zr b2 b3 b4])::(b6,[numV b2 b3 b5])::fr))) w2:=st2.pq
 refine⟨st2b.writable 0 rfl (Nat.le_of_ble_eq_true rfl),fun w3 hw3=> ?_⟩
 have st3:St w0 ((b,verV ⟨(numM d).1,ByteArray.empty,false⟩)::(cs2++((b5,[zr b2 b3 b4])::(b6,[numV b2 b3 b5])::fr))) w3:=st2b.put0 hw3
 have hx2:=o2
 obtain⟨r,rbs,ro,rfl⟩:=o2
 have st3e:St w0 ((b2,[Vi (numM d).2.e])::(b3,[Vp r])::(b4,[Vi (((numM d).2.left:Nat):Int)])::(b,verV ⟨(numM d).1,ByteArray.empty,false⟩)::(rbs++((b5,[zr b2 b3 b4])::(b6,[numV b2 b3 b5])::fr))) w3:=st3.pq
 refine⟨rfl,(numM d).2.e,st3e.cell 0 rfl rfl,fun h=> ?_,fun h=>⟨rfl,r,st3e.cell 1 rfl rfl,?_⟩⟩
 ·have h:(numM d).2.e≠0:=by simpa using h
  have e:verM d=(⟨(numM d).1,ByteArray.empty,false⟩,(numM d).2):=by unfold verM; rw [if_pos h]
  rw [e] at k
  refine⟨_,(st3.get 0 rfl).all,st3.writable 0 rfl (Nat.le_of_ble_eq_true rfl),fun w4 hw4=> ?_⟩
  have st4:St w0 ((b,verV ⟨(numM d).1,ByteArray.empty,false⟩)::(((b2,[Vi (numM d).2.e])::(b3,[Vp r])::(b4,[Vi (((numM d).2.left:Nat):Int)])::rbs)++((b5,[zr b2 b3 b4])::(b6,[numV b2 b3 b5])::fr))) w4:=st3.put0 hw4
  exact⟨_,(st4.get 0 rfl).all,k _ w4 hx2 st4.drop1⟩
 have h:(numM d).2.e=0:=by simpa using h
 have st3r:St w0 (rbs++((b2,[Vi (numM d).2.e])::(b3,[Vp r])::(b4,[Vi (((numM d).2.left:Nat):Int)])::(b,verV ⟨(numM d).1,ByteArray.empty,false⟩)::(b5,[zr b2 b3 b4])::(b6,[numV b2 b3 b5])::fr)) w3:=st3e.pq
 refine s_2 st3r ro fun rb4 w4 ro4 st4=> ?_
 obtain⟨x,hxx⟩:∃ x,x=fixR 1 (numM d).2.r:=⟨_,rfl⟩
 have hxx':fixR 1 (numM d).2.r=x:=hxx.symm
 rw [hxx'] at ro4 ⊢
 have st4b:St w0 ((b,verV ⟨(numM d).1,ByteArray.empty,false⟩)::(b2,[Vi (numM d).2.e])::(b3,[Vp r])::(b4,[Vi (((numM d).2.left:Nat):Int)])::(rb4++((b5,[zr b2 b3 b4])::(b6,[numV b2 b3 b5])::fr))) w4:=st4.pq
 refine⟨st4b.writable 0 rfl (Nat.le_of_ble_eq_true rfl),fun w5 hw5=> ?_⟩
 have hdr:((x.2:Int)==1)=decide (x.2=1):=by
  by_cases h1:x.2=1
  ·rw [h1]; rfl
  ·rw [decide_eq_false h1]; simpa using (by omega:(x.2:Int)≠1)
 rw [hdr] at hw5
 have st5:St w0 ((b,verV ⟨(numM d).1,ByteArray.empty,decide (x.2=1)⟩)::(b2,[Vi (numM d).2.e])::(b3,[Vp r])::(b4,[Vi (((numM d).2.left:Nat):Int)])::(rb4++((b5,[zr b2 b3 b4])::(b6,[numV b2 b3 b5])::fr))) w5:=st4b.put0 hw5
 have st5w:St w0 ((b5,[zr b2 b3 b4])::(b,verV ⟨(numM d).1,ByteArray.empty,decide (x.2=1)⟩)::(b2,[Vi (numM d).2.e])::(b3,[Vp r])::(b4,[Vi (((numM d).2.left:Nat):Int)])::(rb4++((b6,[numV b2 b3 b5])::fr))) w5:=st5.pq
 refine⟨rfl,zr b2 b3 b4,st5w.cell 0 rfl rfl,?_⟩
 have st5c:St w0 (((b2,[Vi (numM d).2.e])::(b3,[Vp r])::(b4,[Vi (((numM d).2.left:Nat):Int)])::rb4)++((b,verV ⟨(numM d).1,ByteArray.empty,decide (x.2=1)⟩)::(b5,[zr b2 b3 b4])::(b6,[numV b2 b3 b5])::fr)) w5:=st5.pq
 have hvd:zHb ⟨x.1,(numM d).2.e,(numM d).2.left⟩ (decide ((x.2:Int)>1)) 4=verD (numM d).2:=by unfold verD; rw [hxx']
 refine s_m (d:=⟨x.1,(numM d).2.e,(numM d).2.left⟩) ⟨r,rb4,ro4,rfl⟩ st5c fun cs6 w6 o6 st6=>⟨_,rfl,?_⟩
 rw [hvd] at o6 ⊢
 have st6b:St w0 ((b,verV ⟨(numM d).1,ByteArray.empty,decide (x.2=1)⟩)::(cs6++((b5,[zr b2 b3 b4])::(b6,[numV b2 b3 b5])::fr))) w6:=st6.pq
 have fin:∀ {v:Ver} {d':DS} {cs':List zf} {w':World},verM d=(v,d')→DcO b2 b3 b4 d' cs'→St w0 ((b,verV v)::(cs'++((b5,[zr b2 b3 b4])::(b6,[numV b2 b3 b5])::fr))) w'→F_5b R b w':=by
  intro v d' cs' w' e o' st'
  rw [e] at k
  unfold F_5b
  refine⟨v,(st'.get 0 rfl).all,st'.writable 0 rfl (Nat.le_of_ble_eq_true rfl),fun w7 hw7=> ?_⟩
  have st7:St w0 ((b,verV v)::(cs'++((b5,[zr b2 b3 b4])::(b6,[numV b2 b3 b5])::fr))) w7:=st'.put0 hw7
  exact⟨v,(st7.get 0 rfl).all,k cs' w7 o' st7.drop1⟩
 have no:((verD (numM d).2).e≠0∨x.2=1)→F_Gb (some ⟨b3,0,none⟩) (some ⟨b5,0,none⟩) R b false w6:=by
  intro hor
  unfold F_Gb
  refine⟨fun h=>(by cases h),fun _=>fin ?_ o6 st6b⟩
  unfold verM
  rw [if_neg O_,hxx',if_pos hor]
 refine⟨fun h6=> ?_,fun h6=> ?_⟩
 rotate_left
 ·have h6:(verD (numM d).2).e≠0:=by simpa using h6
  exact no (.inl h6)
 have h6:(verD (numM d).2).e=0:=by simpa using h6
 refine⟨decide (x.2=1),st6b.cell 0 rfl rfl,?_⟩
 by_cases hx1:x.2=1
 ·rw [decide_eq_true hx1]; exact no (.inr hx1)
 rw [decide_eq_false hx1] at st6b ⊢
 unfold F_Gb
 refine⟨fun _=> ?_,fun h=>(by cases h)⟩
 have hx6:=o6
 obtain⟨r7,rbs7,ro7,rfl⟩:=o6
 have st6e:St w0 ((b3,[Vp r7])::(b2,[Vi (verD (numM d).2).e])::(b4,[Vi (((verD (numM d).2).left:Nat):Int)])::(b,verV ⟨(numM d).1,ByteArray.empty,false⟩)::(rbs7++((b5,[zr b2 b3 b4])::(b6,[numV b2 b3 b5])::fr))) w6:=st6b.pq
 refine⟨rfl,r7,st6e.cell 0 rfl rfl,?_⟩
 have st6r:St w0 (rbs7++((b3,[Vp r7])::(b2,[Vi (verD (numM d).2).e])::(b4,[Vi (((verD (numM d).2).left:Nat):Int)])::(b,verV ⟨(numM d).1,ByteArray.empty,false⟩)::(b5,[zr b2 b3 b4])::(b6,[numV b2 b3 b5])::fr)) w6:=st6e.pq
 have hll:(verD (numM d).2).r.rest.length≤140737488351232:=by
  have h1:=zjc d
  have h2:(verD (numM d).2).r.rest.length≤(numM d).2.r.rest.length:=zfh _
  omega
 refine s_t st6r ro7 D_ D_ hll fun rb8 w8 ro8 st8=> ?_
 have st8b:St w0 ((b,verV ⟨(numM d).1,ByteArray.empty,false⟩)::(b3,[Vp r7])::(b2,[Vi (verD (numM d).2).e])::(b4,[Vi (((verD (numM d).2).left:Nat):Int)])::(rb8++((b5,[zr b2 b3 b4])::(b6,[numV b2 b3 b5])::fr))) w8:=st8.pq
 refine⟨st8b.writable 0 rfl (Nat.le_of_ble_eq_true rfl),fun w9 hw9=> ?_⟩
 have st9:St w0 ((b,verV ⟨(numM d).1,mkS (zV 1024 (verD (numM d).2).r).2,false⟩)::(b3,[Vp r7])::(b2,[Vi (verD (numM d).2).e])::(b4,[Vi (((verD (numM d).2).left:Nat):Int)])::(rb8++((b5,[zr b2 b3 b4])::(b6,[numV b2 b3 b5])::fr))) w9:=st8b.put0 hw9
 have st9w:St w0 ((b5,[zr b2 b3 b4])::(b,verV ⟨(numM d).1,mkS (zV 1024 (verD (numM d).2).r).2,false⟩)::(b3,[Vp r7])::(b2,[Vi (verD (numM d).2).e])::(b4,[Vi (((verD (numM d).2).left:Nat):Int)])::(rb8++((b6,[numV b2 b3 b5])::fr))) w9:=st9.pq
 refine⟨rfl,zr b2 b3 b4,st9w.cell 0 rfl rfl,?_⟩
 have st9c:St w0 (((b2,[Vi (verD (numM d).2).e])::(b3,[Vp r7])::(b4,[Vi (((verD (numM d).2).left:Nat):Int)])::rb8)++((b,verV ⟨(numM d).1,mkS (zV 1024 (verD (numM d).2).r).2,false⟩)::(b5,[zr b2 b3 b4])::(b6,[numV b2 b3 b5])::fr)) w9:=st9.pq
 refine s_m (d:=⟨(zV 1024 (verD (numM d).2).r).1,(verD (numM d).2).e,(verD (numM d).2).left⟩) ⟨r7,rb8,ro8,rfl⟩ st9c fun cs10 w10 o10 st10=>⟨_,rfl,?_⟩
 refine fin (v:=⟨(numM d).1,mkS (zV 1024 (verD (numM d).2).r).2,false⟩) (d':=txtD 1024 (verD (numM d).2)) ?_ o10 (st10.pq)
 unfold verM
 rw [if_neg O_,hxx',if_neg (fun h=>h.elim (fun h=>h h6) hx1)]
end
def SavO (s:T_b) (m:SvM) (eb hc:List zf):Prop:=s.Mark=m.mark∧RowC 1 s.Beyond (m.bey.map Vi) eb∧HdsO s.Held m.held hc
theorem SavO.zero:SavO ⟨0,⟨none,0,0⟩,⟨none,0,0⟩⟩ zSv [] []:=⟨rfl,RowC.nil,HdsO.nil⟩
/-- Keys with their versions of one's own can be read. -/
theorem HdsO.at_ {sl:Slc} {hs:List Hd} {hc:List zf} (h:HdsO sl hs hc) (hb:∀ x∈hs,x.2.length≤1048576):∃ os:List HO,os.map hoD=hs∧(∀ o∈os,o.2.2.len≤1048576)∧∀ {w0:Base} {w:World} {fr:List zf},St w0 (hc++fr) w→HdAt w sl os:=by
 obtain⟨vsl,tb,pb,rfl,r,ps⟩:=h
 have hl:=ps.len
 obtain⟨os,hos⟩:∃ os:List HO,os=(hs.zip vsl).map fun p=>(p.1.1,p.1.2,p.2):=⟨_,rfl⟩
 have hlen:∀ o∈os,o.2.2.len≤1048576∧∃ a c b,pb=a++(c++b)∧RowC 3 o.2.2 (o.2.1.flatMap verV) c:=by
  intro o ho
  rw [hos] at ho
  obtain⟨p,hp,rfl⟩:=List.mem_map.1 ho
  obtain⟨i,hi⟩:=List.mem_iff_getElem?.1 hp
  obtain⟨h1,h2⟩:=List.getElem?_zip_eq_some.1 hi
  obtain⟨a,c,b,e,hin⟩:=ps.at_ h1 h2
  have hin:RowC 3 p.2 (p.1.2.flatMap verV) c:=hin
  have h3:=hin.len
  rw [zq (sz:=3) (fun _=>rfl)] at h3
  have h4:=hb _ (List.mem_of_getElem? h1)
  exact⟨by show p.2.len≤_; omega,a,c,b,e,hin⟩
 refine⟨os,?_,fun o ho=>(hlen o ho).1,fun {w0 w fr} st=>⟨?_,fun o ho=> ?_⟩⟩
 ·rw [hos,List.map_map]
  show(hs.zip vsl).map (fun p=>(p.1.1,p.1.2))=hs
  have:∀(hs:List Hd) (vsl:List Slc),vsl.length=hs.length→(hs.zip vsl).map (fun p=>((p.1.1,p.1.2):Hd))=hs:=by
   intro hs
   induction hs with
   | nil=>intro vsl _; rfl
   | cons h hs ih=>intro vsl hv; cases vsl with
    | nil=>simp at hv
    | cons s vsl=>rw [List.zip_cons_cons,List.map_cons,ih vsl (by simpa using hv)]
  exact this hs vsl hl
 ·have e:(hs.zip vsl).flatMap (fun p=>hdV p.1.1 p.2)=os.flatMap hoT:=by rw [hos,List.flatMap_map]
  rw [e] at r
  have st:St w0 (tb++(pb++fr)) w:=st.pq
  exact r.src st
 ·obtain⟨h1,a,c,b,rfl,hin⟩:=hlen o ho
  have st:St w0 (c++(tb++(a++(b++fr)))) w:=st.pq
  exact⟨hin.src st,O_⟩
/-- What was read can be looked at. -/
theorem SavO.at_ {s:T_b} {m:SvM} {eb hc:List zf} (h:SavO s m eb hc) (hb:∀ x∈m.held,x.2.length≤1048576) (h1:m.bey.length≤17592186044416) (h2:m.held.length≤17592186044416):∃ os:List HO,∀ {w0:Base} {w:World} {fr:List zf},St w0 (eb++(hc++fr)) w→SvAt w s m os:=by
 obtain⟨g1,g2,g3⟩:=h
 obtain⟨os,a1,a2,a3⟩:=g3.at_ hb
 have hl1:=g2.len
 rw [List.length_map] at hl1
 have hl2:s.Held.len=m.held.length:=by
  obtain⟨vsl,tb,pb,_,r,ps⟩:=g3
  have:=r.len
  rw [zme (sz:=2) (fun _=>rfl) ps.len] at this
  omega
 refine⟨os,fun {w0 w fr} st=>⟨g1,g2.src st,a3 (st.perm (l':=hc++(eb++fr)) (zc fun f_=>by simp <;> omega)),a1,O_,O_,fun o ho=>by have:=a2 o ho; omega⟩⟩
open Classical in
noncomputable def finM (d:DS) (m:SvM):SvM×Int:=if d.e≠0 then(zSv,d.e) else if d.r.rest.length>0 then(zSv,4) else if ckOk m then(m,0) else(zSv,1)
section
variable {w0:Base} {w:World} {fr cs eb hc:List zf} {b1 b2 b3 b4 b5 b6:Nat} {d:DS} {m:SvM} {s:T_b} {R:T_b→Int→WP}
theorem s_Dd (o:DcO b2 b3 b4 d cs) (hs:SavO s m eb hc) (hb:∀ x∈m.held,x.2.length≤1048576) (h1:m.bey.length≤17592186044416) (h2:m.held.length≤17592186044416)
    (st:St w0 (cs++((b5,[zr b2 b3 b4])::(b6,[numV b2 b3 b5])::(b1,svT s)::(eb++(hc++fr)))) w)
    (k:∀ s' eb' hc' w',SavO s' (finM d m).1 eb' hc'→St w0 (eb'++(hc'++fr)) w'→R s' (finM d m).2 w'):F_Db R b1 b2 b3 w:=by
 obtain⟨r,rbs,ro,rfl⟩:=o
 unfold F_Db
 have st1:St w0 ((b2,[Vi d.e])::(b3,[Vp r])::(b4,[Vi ((d.left:Nat):Int)])::(rbs++((b5,[zr b2 b3 b4])::(b6,[numV b2 b3 b5])::(b1,svT s)::(eb++(hc++fr))))) w:=st
 -- the two results are put, and read again
 have put:∀ {e0 e:Int} {s':T_b} {G:List zf} {w':World},St w0 ((b1,svT s)::(b2,[Vi e0])::G) w'→(∀ w2,St w0 ((b1,svT s')::(b2,[Vi e])::G) w2→R s' e w2) →
     zd w' b1 0 3∧∀ w2,w2=World.puts b1 0 (svT s') w'→zd w2 b2 0 1∧∀ w3,w3=World.puts b2 0 [Vi e] w2→∃ res,ze w3 b1 0 (svT res)∧∃ res1,ze w3 b2 0 [Vi res1]∧R res res1 w3:=by
  intro e0 e s' G w' st' kk
  refine⟨st'.writable 0 rfl (Nat.le_of_ble_eq_true rfl),fun w2 hw2=> ?_⟩
  have s2:St w0 ((b1,svT s')::(b2,[Vi e0])::G) w2:=st'.put0 hw2
  have s2b:St w0 ((b2,[Vi e0])::(b1,svT s')::G) w2:=s2.pq
  refine⟨s2b.writable 0 rfl (Nat.le_of_ble_eq_true rfl),fun w3 hw3=> ?_⟩
  have s3:St w0 ((b2,[Vi e])::(b1,svT s')::G) w3:=s2b.put0 hw3
  exact⟨s',(s3.get 1 rfl).all,e,(s3.get 0 rfl).all,kk w3 (s3.pq)⟩
 refine⟨d.e,st1.cell 0 rfl rfl,fun h w25 hd25=> ?_,fun h=>⟨r,st1.cell 1 rfl rfl,?_⟩⟩
 ·have h:d.e≠0:=by simpa using h
  have st2:St w0 ((b1,svT s)::(b2,[Vi d.e])::((b3,[Vp r])::(b4,[Vi ((d.left:Nat):Int)])::(rbs++((b5,[zr b2 b3 b4])::(b6,[numV b2 b3 b5])::(eb++(hc++fr)))))) w25:=(st1.drew hd25).pq
  refine⟨d.e,st2.cell 1 rfl rfl,st2.writable 0 rfl (Nat.le_of_ble_eq_true rfl),fun w26 hw26=> ?_⟩
  have st3:St w0 ((b1,svT ⟨0,⟨none,0,0⟩,⟨none,0,0⟩⟩)::(b2,[Vi d.e])::((b3,[Vp r])::(b4,[Vi ((d.left:Nat):Int)])::(rbs++((b5,[zr b2 b3 b4])::(b6,[numV b2 b3 b5])::(eb++(hc++fr)))))) w26:=st2.put0 hw26
  have st3b:St w0 ((b2,[Vi d.e])::(b1,svT ⟨0,⟨none,0,0⟩,⟨none,0,0⟩⟩)::((b3,[Vp r])::(b4,[Vi ((d.left:Nat):Int)])::(rbs++((b5,[zr b2 b3 b4])::(b6,[numV b2 b3 b5])::(eb++(hc++fr)))))) w26:=st3.pq
  refine⟨st3b.cell 0 rfl rfl,st3b.writable 0 rfl (Nat.le_of_ble_eq_true rfl),fun w27 hw27=> ?_⟩
  have st4:St w0 ((b2,[Vi d.e])::(b1,svT ⟨0,⟨none,0,0⟩,⟨none,0,0⟩⟩)::((b3,[Vp r])::(b4,[Vi ((d.left:Nat):Int)])::(rbs++((b5,[zr b2 b3 b4])::(b6,[numV b2 b3 b5])::(eb++(hc++fr)))))) w27:=st3b.put0 hw27
  have e:finM d m=(zSv,d.e):=by unfold finM; rw [if_pos h]
  rw [e] at k
  exact⟨⟨0,⟨none,0,0⟩,⟨none,0,0⟩⟩,(st4.get 1 rfl).all,d.e,(st4.get 0 rfl).all,k _ [] [] w27 SavO.zero (st4.weak ((b2,[Vi d.e])::(b1,svT ⟨0,⟨none,0,0⟩,⟨none,0,0⟩⟩)::(b3,[Vp r])::(b4,[Vi ((d.left:Nat):Int)])::(rbs++((b5,[zr b2 b3 b4])::(b6,[numV b2 b3 b5])::(eb++hc)))) (zc fun f_=>by simp <;> omega))⟩
 have h:d.e=0:=by simpa using h
 have st1r:St w0 (rbs++((b2,[Vi d.e])::(b3,[Vp r])::(b4,[Vi ((d.left:Nat):Int)])::(b5,[zr b2 b3 b4])::(b6,[numV b2 b3 b5])::(b1,svT s)::(eb++(hc++fr)))) w:=st1.pq
 have st1s:St w0 ((b1,svT s)::(b2,[Vi d.e])::((b3,[Vp r])::(b4,[Vi ((d.left:Nat):Int)])::(rbs++((b5,[zr b2 b3 b4])::(b6,[numV b2 b3 b5])::(eb++(hc++fr)))))) w:=st1.pq
 have zero:∀ {e':Int} {w':World},finM d m=(zSv,e')→St w0 ((b1,svT s)::(b2,[Vi d.e])::((b3,[Vp r])::(b4,[Vi ((d.left:Nat):Int)])::(rbs++((b5,[zr b2 b3 b4])::(b6,[numV b2 b3 b5])::(eb++(hc++fr)))))) w' →
     zd w' b1 0 3∧∀ w2,w2=World.puts b1 0 (svT ⟨0,⟨none,0,0⟩,⟨none,0,0⟩⟩) w'→zd w2 b2 0 1∧∀ w3,w3=World.puts b2 0 [Vi e'] w2→∃ res,ze w3 b1 0 (svT res)∧∃ res1,ze w3 b2 0 [Vi res1]∧R res res1 w3:=by
  intro e' w' he st'
  rw [he] at k
  exact put st' fun w2 s2=>k _ [] [] w2 SavO.zero (s2.weak ((b1,svT ⟨0,⟨none,0,0⟩,⟨none,0,0⟩⟩)::(b2,[Vi e'])::(b3,[Vp r])::(b4,[Vi ((d.left:Nat):Int)])::(rbs++((b5,[zr b2 b3 b4])::(b6,[numV b2 b3 b5])::(eb++hc)))) (zc fun f_=>by simp <;> omega))
 refine s_k st1r ro ⟨fun hl=> ?_,fun hl=> ?_⟩
 ·have hl:=of_decide_eq_true hl
  exact zero (by unfold finM; rw [if_neg O_,if_pos O_]) st1s
 have hl:=of_decide_eq_false hl
 refine⟨s,(st1s.get 0 rfl).all,?_⟩
 obtain⟨os,hat⟩:=hs.at_ hb h1 h2
 have hsv:SvAt w s m os:=hat (fr:=(b2,[Vi d.e])::(b3,[Vp r])::(b4,[Vi ((d.left:Nat):Int)])::(rbs++((b5,[zr b2 b3 b4])::(b6,[numV b2 b3 b5])::(b1,svT s)::fr))) (st1.pq)
 refine s_A hsv fun w31 e31=> ?_
 have st2:=st1s.keep e31
 by_cases hk:ckOk m
 ·rw [zOf hk]
  have e:finM d m=(m,0):=by unfold finM; rw [if_neg O_,if_neg O_,if_pos hk]
  rw [e] at k
  refine⟨fun h=>(by simp at h),fun _=>⟨s,(st2.get 0 rfl).all,?_⟩⟩
  exact put st2 fun w2 s2=>k s eb hc w2 hs (s2.weak ((b1,svT s)::(b2,[Vi 0])::(b3,[Vp r])::(b4,[Vi ((d.left:Nat):Int)])::(rbs++[(b5,[zr b2 b3 b4]),(b6,[numV b2 b3 b5])])) (zc fun f_=>by simp <;> omega))
 ·rw [zPf hk]
  exact⟨fun _=>zero (by unfold finM; rw [if_neg O_,if_neg O_,if_neg hk]) st2,fun h=>(by simp at h)⟩
end
/-! ### Keys with their versions -/
def LfD (d:DS):Prop:=d.e=0→d.left=d.r.rest.length
theorem LfD.num {d:DS} (h:LfD d):LfD (numM d).2:=by
 unfold numM
 split
 ·exact h
 split
 ·exact fun _=>rfl
 ·exact fun _=>rfl
theorem LfD.ver {d:DS} (h:LfD d):LfD (verM d).2:=by
 unfold verM
 split
 ·exact h.num
 split
 ·exact fun _=>rfl
 ·exact fun _=>rfl
theorem LfD.rep {α:Type} {f:DS→α×DS} (hf:∀ {d},LfD d→LfD (f d).2):∀(n:Nat) {d:DS},LfD d→LfD (repM f n d).2
 | 0,d,h=>h
 | n+1,d,h=>by
  rw [repM]
  split
  ·exact h
  ·exact LfD.rep hf n (hf h)
theorem z0d {α:Type} {f:DS→α×DS} {n:Nat} {d:DS} (h:n=0∨d.e≠0):repM f n d=([],d):=by
 cases n with
 | zero=>rfl
 | succ n=>rw [repM,if_pos (h.resolve_left O_)]
theorem zIf {n:Nat} {d:DS} (h:n=0∨d.e≠0):z8 n d=([],d):=by
 cases n with
 | zero=>rfl
 | succ n=>rw [z8,if_pos (h.resolve_left O_)]
section
variable {w0:Base} {w:World} {fr:List zf} {b1 b2 b3 b4 b5 b6 b8:Nat} {acc:List Hd} {key:ByteArray} {mark:Int} {bs hs:Slc}
theorem s_Rc {again_1:Int→WP} {keys:Int} {n0:Nat} {d0:DS} {cs0 hc eb:List zf} (hn:n0≤65536) (hl:d0.r.rest.length≤70368744177664) (o:DcO b2 b3 b4 d0 cs0) (hh:HdsO hs acc hc) (ha:acc.length≤1099511627776)
    (st:St w0 (cs0++((b5,[zr b2 b3 b4])::(b6,[numV b2 b3 b5])::(b8,hldT (key,⟨none,0,0⟩))::(b1,svT ⟨mark,bs,hs⟩)::(eb++(hc++fr)))) w)
    (k:∀ cs hs' hc' w',DcO b2 b3 b4 (repM verM n0 d0).2 cs→HdsO hs' (acc++[(key,(repM verM n0 d0).1)]) hc'→St w0 (cs++((b5,[zr b2 b3 b4])::(b6,[numV b2 b3 b5])::(b1,svT ⟨mark,bs,hs'⟩)::(eb++(hc'++fr)))) w'→again_1 (IntKind.u64.wrap (keys - 1)) w') :
    ∃(I:Int→WP) (μ:Int→World→Nat),I ((n0:Nat):Int) w∧∀(k_:Int) w,I k_ w→F_Dd b1 b2 b3 b5 b6 keys again_1 b8 (fun(k_':Int) w'=>I k_' w'∧μ k_' w'<μ k_ w) k_ w:=by
 refine⟨fun k_ w'=>∃(n:Nat) (vs:List Ver) (d:DS) (cs vb:List zf) (sl:Slc),k_=(n:Int)∧vs.length+n≤65536∧vs++(repM verM n d).1=(repM verM n0 d0).1∧(repM verM n d).2=(repM verM n0 d0).2∧d.r.rest.length≤70368744177664∧DcO b2 b3 b4 d cs∧RowC 3 sl (vs.flatMap verV) vb ∧
     St w0 (cs++((b5,[zr b2 b3 b4])::(b6,[numV b2 b3 b5])::(b8,hldT (key,sl))::(b1,svT ⟨mark,bs,hs⟩)::(vb++(eb++(hc++fr))))) w',fun k_ _=>k_.toNat,
  ⟨n0,[],d0,cs0,[],⟨none,0,0⟩,rfl,by simpa using hn,rfl,rfl,hl,o,RowC.nil,by simpa using st⟩,?_⟩
 clear st o hl hn
 rintro k_ w1 ⟨n,vs,d,cs,vb,sl,rfl,hn,hV,hD,hl,o,rv,st⟩
 have hx:=o
 obtain⟨r,rbs,ro,rfl⟩:=o
 have hsl:sl.len=vs.length:=by have:=rv.len; rw [zq (sz:=3) (fun _=>rfl)] at this; omega
 -- what is behind the loop
 have behind:(n=0∨d.e≠0)→∀ {again_2:Int→WP},F_0b b1 b2 b3 b5 b6 keys again_1 b8 ((n:Nat):Int) again_2 false w1:=by
  intro hor again_2
  rw [z0d hor,List.append_nil] at hV
  rw [z0d hor] at hD
  have hD:d=(repM verM n0 d0).2:=hD
  unfold F_0b
  refine⟨fun h=>(by cases h),fun _=> ?_⟩
  obtain⟨vsl,tb,pb,rfl,rt,ps⟩:=hh
  have hvl:=ps.len
  have htl:hs.len=acc.length:=by
   have:=rt.len
   rw [zme (sz:=2) (fun _=>rfl) hvl] at this
   omega
  have st1:St w0 ((b1,svT ⟨mark,bs,hs⟩)::(b8,hldT (key,sl))::(((b2,[Vi d.e])::(b3,[Vp r])::(b4,[Vi ((d.left:Nat):Int)])::rbs)++((b5,[zr b2 b3 b4])::(b6,[numV b2 b3 b5])::(vb++(eb++(tb++(pb++fr))))))) w1:=st.pq
  refine⟨hs,st1.cell 0 rfl rfl,⟨key,sl⟩,(st1.get 1 rfl).all,fun b10 w2 hb10 hw2=> ?_⟩
  have st2:=st1.alloc (cs:=hldT (key,sl)) hb10 hw2
  refine⟨hldT (key,sl),zY hb10 hw2 rfl,?_⟩
  have st2:St w0 (tb++((b1,svT ⟨mark,bs,hs⟩)::(((b2,[Vi d.e])::(b3,[Vp r])::(b4,[Vi ((d.left:Nat):Int)])::rbs)++((b5,[zr b2 b3 b4])::(b6,[numV b2 b3 b5])::(vb++(eb++(pb++fr))))))) w2:=st2.wq [(b10,hldT (key,sl)),(b8,hldT (key,sl))]
  refine rt.append st2 rfl rfl rfl (by rw [htl]; omega) fun hs' tb' w3 rt' st3 hl3=> ?_
  have st3:St w0 ((b1,svT ⟨mark,bs,hs⟩)::(tb'++(((b2,[Vi d.e])::(b3,[Vp r])::(b4,[Vi ((d.left:Nat):Int)])::rbs)++((b5,[zr b2 b3 b4])::(b6,[numV b2 b3 b5])::(vb++(eb++(pb++fr))))))) w3:=st3.pq
  refine⟨st3.writable 0 rfl (Nat.le_of_ble_eq_true rfl),fun w4 hw4=> ?_⟩
  have st4:St w0 ((b1,svT ⟨mark,bs,hs'⟩)::(tb'++(((b2,[Vi d.e])::(b3,[Vp r])::(b4,[Vi ((d.left:Nat):Int)])::rbs)++((b5,[zr b2 b3 b4])::(b6,[numV b2 b3 b5])::(vb++(eb++(pb++fr))))))) w4:=st3.put0 hw4
  rw [←hD,←hV] at k
  refine k _ hs' (tb'++(pb++vb)) w4 hx ⟨vsl++[sl],tb',pb++vb,rfl,?_,ps.snoc rv⟩ (st4.pq)
  rw [z4h (f:=fun p:Hd×Slc=>hdV p.1.1 p.2) hvl]
  exact rt'
 unfold F_Dd
 refine⟨fun hi=> ?_,fun hi=> ?_⟩
 rotate_left
 ·have hi:=of_decide_eq_false hi
  exact behind (.inl O_)
 have hi:=of_decide_eq_true hi
 have st1:St w0 ((b2,[Vi d.e])::(b3,[Vp r])::(b4,[Vi ((d.left:Nat):Int)])::(rbs++((b5,[zr b2 b3 b4])::(b6,[numV b2 b3 b5])::(b8,hldT (key,sl))::(b1,svT ⟨mark,bs,hs⟩)::(vb++(eb++(hc++fr)))))) w1:=st
 refine⟨d.e,st1.cell 0 rfl rfl,?_⟩
 by_cases hde:d.e=0
 rotate_left
 ·rw [show(d.e==0)=false from by simpa using hde]
  exact behind (.inr hde)
 rw [hde]
 obtain⟨n,rfl⟩:∃ n',n=n'+1:=⟨n - 1,O_⟩
 rw [repM,if_neg O_] at hV hD
 have wn:IntKind.i64.wrap (((n+1:Nat):Int) - 1)=((n:Nat):Int):=by rw [i64_in _ O_ O_]; omega
 unfold F_0b
 refine⟨fun _ w2 hd2=> ?_,fun h=>(by cases h)⟩
 have st2:=st.drew hd2
 have st2b:St w0 ((b8,hldT (key,sl))::(((b2,[Vi d.e])::(b3,[Vp r])::(b4,[Vi ((d.left:Nat):Int)])::rbs)++((b5,[zr b2 b3 b4])::(b6,[numV b2 b3 b5])::(b1,svT ⟨mark,bs,hs⟩)::(vb++(eb++(hc++fr)))))) w2:=st2.pq
 refine⟨sl,st2b.cell 0 rfl rfl,?_⟩
 refine s_Qc hx O_ st2 fun cs3 w3 o3 st3=> ?_
 have st3b:St w0 ((b8,hldT (key,sl))::(vb++(cs3++((b5,[zr b2 b3 b4])::(b6,[numV b2 b3 b5])::(b1,svT ⟨mark,bs,hs⟩)::(eb++(hc++fr)))))) w3:=st3.pq
 refine⟨st3b.cell 0 rfl rfl,fun b9 w4 hb9 hw4=> ?_⟩
 have st4:=st3b.alloc (cs:=verV (verM d).1) hb9 hw4
 refine⟨st4.cell 1 rfl rfl,verV (verM d).1,zY hb9 hw4 rfl,?_⟩
 have st4:St w0 (vb++((b8,hldT (key,sl))::(cs3++((b5,[zr b2 b3 b4])::(b6,[numV b2 b3 b5])::(b1,svT ⟨mark,bs,hs⟩)::(eb++(hc++fr)))))) w4:=st4.wq [(b9,verV (verM d).1)]
 refine rv.append st4 rfl rfl rfl (by rw [hsl]; omega) fun sl' vb' w5 rv' st5 hl5=> ?_
 have st5:St w0 ((b8,hldT (key,sl))::(vb'++(cs3++((b5,[zr b2 b3 b4])::(b6,[numV b2 b3 b5])::(b1,svT ⟨mark,bs,hs⟩)::(eb++(hc++fr)))))) w5:=st5.pq
 refine⟨st5.writable 0 rfl (Nat.le_of_ble_eq_true rfl),fun w6 hw6=> ?_⟩
 have st6:St w0 ((b8,hldT (key,sl'))::(vb'++(cs3++((b5,[zr b2 b3 b4])::(b6,[numV b2 b3 b5])::(b1,svT ⟨mark,bs,hs⟩)::(eb++(hc++fr)))))) w6:=st5.put0 hw6
 rw [wn]
 have hle:=zYe d
 refine⟨⟨n,vs++[(verM d).1],(verM d).2,cs3,vb',sl',rfl,by rw [List.length_append,List.length_singleton]; omega,by rw [List.append_assoc]; exact hV,hD,O_,o3,?_,st6.pq⟩,by show Int.toNat _<Int.toNat _; omega⟩
 rw [List.flatMap_append,List.flatMap_cons,List.flatMap_nil,List.append_nil]
 exact rv'
end
section
variable {w0:Base} {w:World} {fr eb cs0:List zf} {b1 b2 b3 b4 b5 b6:Nat} {mark:Int} {bs:Slc} {R:T_b→Int→WP}
theorem s_Sc {n0 L:Nat} {d0:DS} (hL:L≤549755813888) (hn:n0<2 ^ 64) (hlf:LfD d0) (hl:d0.r.rest.length≤L) (o:DcO b2 b3 b4 d0 cs0)
    (st:St w0 (cs0++((b5,[zr b2 b3 b4])::(b6,[numV b2 b3 b5])::(b1,svT ⟨mark,bs,⟨none,0,0⟩⟩)::(eb++fr))) w)
    (k:∀ cs hs hc w',DcO b2 b3 b4 (z8 n0 d0).2 cs→HdsO hs (z8 n0 d0).1 hc→(∀ x∈(z8 n0 d0).1,x.2.length≤1048576)→(z8 n0 d0).1.length≤1099511627776→St w0 (cs++((b5,[zr b2 b3 b4])::(b6,[numV b2 b3 b5])::(b1,svT ⟨mark,bs,hs⟩)::(eb++(hc++fr)))) w'→F_Db R b1 b2 b3 w') :
    F_2b R b1 b2 b3 b5 b6 ((n0:Nat):Int) w:=by
 unfold F_2b
 refine⟨fun keys w'=>∃(n:Nat) (acc:List Hd) (d:DS) (cs:List zf) (hs:Slc) (hc:List zf),keys=(n:Int)∧n<2 ^ 64∧acc++(z8 n d).1=(z8 n0 d0).1∧(z8 n d).2=(z8 n0 d0).2∧LfD d∧(d.e=0→acc.length+d.r.rest.length≤L)∧acc.length≤L+1∧d.r.rest.length≤L ∧
     (∀ x∈acc,x.2.length≤1048576)∧DcO b2 b3 b4 d cs∧HdsO hs acc hc∧St w0 (cs++((b5,[zr b2 b3 b4])::(b6,[numV b2 b3 b5])::(b1,svT ⟨mark,bs,hs⟩)::(eb++(hc++fr)))) w',fun keys _=>keys.toNat,
  ⟨n0,[],d0,cs0,⟨none,0,0⟩,[],rfl,hn,rfl,rfl,hlf,fun _=>by simpa using hl,by simp,hl,fun x hx=>(by cases hx),o,HdsO.nil,by simpa using st⟩,?_⟩
 clear st o hl hn hlf
 rintro keys w1 ⟨n,acc,d,cs,hs,hc,rfl,hn,hH,hD,hlf,hal,hal2,hl,hvb,o,hh,st⟩
 have hx:=o
 obtain⟨r,rbs,ro,rfl⟩:=o
 have stop:(n=0∨d.e≠0)→∀ {again_:Int→WP},F_1b R b1 b2 b3 b5 b6 ((n:Nat):Int) again_ false w1:=by
  intro hor again_
  rw [zIf hor,List.append_nil] at hH
  rw [zIf hor] at hD
  have hD:d=(z8 n0 d0).2:=hD
  unfold F_1b
  refine⟨fun h=>(by cases h),fun _=> ?_⟩
  rw [←hH,←hD] at k
  exact k _ hs hc w1 hx hh hvb O_ st
 unfold F_8d
 refine⟨fun hi=> ?_,fun hi=> ?_⟩
 rotate_left
 ·have hi:=of_decide_eq_false hi
  exact stop (.inl O_)
 have hi:=of_decide_eq_true hi
 have st1:St w0 ((b2,[Vi d.e])::(b3,[Vp r])::(b4,[Vi ((d.left:Nat):Int)])::(rbs++((b5,[zr b2 b3 b4])::(b6,[numV b2 b3 b5])::(b1,svT ⟨mark,bs,hs⟩)::(eb++(hc++fr))))) w1:=st
 refine⟨d.e,st1.cell 0 rfl rfl,?_⟩
 by_cases hde:d.e=0
 rotate_left
 ·rw [show(d.e==0)=false from by simpa using hde]
  exact stop (.inr hde)
 rw [hde]
 obtain⟨n,rfl⟩:∃ n',n=n'+1:=⟨n - 1,O_⟩
 rw [z8,if_neg O_] at hH hD
 have wn:IntKind.u64.wrap (((n+1:Nat):Int) - 1)=((n:Nat):Int):=by rw [zX _ O_ O_]; omega
 have hal:=hal hde
 unfold F_1b
 refine⟨fun _=>⟨r,st1.cell 1 rfl rfl,?_⟩,fun h=>(by cases h)⟩
 have st1r:St w0 (rbs++((b2,[Vi d.e])::(b3,[Vp r])::(b4,[Vi ((d.left:Nat):Int)])::(b5,[zr b2 b3 b4])::(b6,[numV b2 b3 b5])::(b1,svT ⟨mark,bs,hs⟩)::(eb++(hc++fr)))) w1:=st1.pq
 refine s_t st1r ro D_ D_ O_ fun rb2 w2 ro2 st2 b8 w3 hb8 hw3=> ?_
 have st3:=st2.alloc (cs:=hldT (ByteArray.empty,⟨none,0,0⟩)) hb8 hw3
 refine⟨st3.writable 0 rfl (Nat.le_of_ble_eq_true rfl),fun w4 hw4=> ?_⟩
 have st4:St w0 ((b8,hldT (mkS (zV 64 d.r).2,⟨none,0,0⟩))::(rb2++((b2,[Vi d.e])::(b3,[Vp r])::(b4,[Vi ((d.left:Nat):Int)])::(b5,[zr b2 b3 b4])::(b6,[numV b2 b3 b5])::(b1,svT ⟨mark,bs,hs⟩)::(eb++(hc++fr))))) w4:=st3.put0 hw4
 have st4w:St w0 ((b5,[zr b2 b3 b4])::(b8,hldT (mkS (zV 64 d.r).2,⟨none,0,0⟩))::(rb2++((b2,[Vi d.e])::(b3,[Vp r])::(b4,[Vi ((d.left:Nat):Int)])::(b6,[numV b2 b3 b5])::(b1,svT ⟨mark,bs,hs⟩)::(eb++(hc++fr))))) w4:=st4.pq
 refine⟨zr b2 b3 b4,st4w.cell 0 rfl rfl,?_⟩
 have st4c:St w0 (((b2,[Vi d.e])::(b3,[Vp r])::(b4,[Vi ((d.left:Nat):Int)])::rb2)++((b5,[zr b2 b3 b4])::(b6,[numV b2 b3 b5])::(b8,hldT (mkS (zV 64 d.r).2,⟨none,0,0⟩))::(b1,svT ⟨mark,bs,hs⟩)::(eb++(hc++fr)))) w4:=st4.pq
 refine s_m (d:=⟨(zV 64 d.r).1,d.e,d.left⟩) ⟨r,rb2,ro2,rfl⟩ st4c fun cs5 w5 o5 st5=>⟨_,rfl,fun h5=> ?_,fun h5=> ?_⟩
 ·have h5:(txtD 64 d).e≠0:=by unfold txtD; simpa using h5
  rw [if_pos h5] at hH hD
  have hD:txtD 64 d=(z8 n0 d0).2:=hD
  have hH:acc=(z8 n0 d0).1:=by simpa using hH
  rw [←hH,←hD] at k
  exact k cs5 hs hc w5 o5 hh hvb O_ (st5.wq [(b8,hldT (mkS (zV 64 d.r).2,⟨none,0,0⟩))])
 have h5:¬ (txtD 64 d).e≠0:=by unfold txtD; simpa using h5
 rw [if_neg h5] at hH hD
 have h5:(txtD 64 d).e=0:=O_
 have o5:DcO b2 b3 b4 (txtD 64 d) cs5:=o5
 have st5n:St w0 ((b6,[numV b2 b3 b5])::(b8,hldT (mkS (zV 64 d.r).2,⟨none,0,0⟩))::(cs5++((b5,[zr b2 b3 b4])::(b1,svT ⟨mark,bs,hs⟩)::(eb++(hc++fr))))) w5:=st5.pq
 refine⟨numV b2 b3 b5,st5n.cell 0 rfl rfl,?_⟩
 have st5c:St w0 (cs5++((b5,[zr b2 b3 b4])::(b6,[numV b2 b3 b5])::(b8,hldT (mkS (zV 64 d.r).2,⟨none,0,0⟩))::(b1,svT ⟨mark,bs,hs⟩)::(eb++(hc++fr)))) w5:=st5.pq
 refine s_r o5 st5c fun cs6 w6 o6 st6=>⟨_,rfl,?_⟩
 have hrng:=zZd (txtD 64 d)
 have hnn:(numM (txtD 64 d)).1=(((numM (txtD 64 d)).1.toNat:Nat):Int):=O_
 have hw:=zje (d:=⟨(zV 64 d.r).1,d.e,d.left⟩) (f:=0) (is:=false) h5 (.inr rfl)
 have hne:(zV 64 d.r).1.rest.length≠d.left:=hw.2.1
 have htl:=z7f 64 d.r
 have hlf0:=hlf hde
 have hsh:(txtD 64 d).r.rest.length<d.r.rest.length:=by show(zV 64 d.r).1.rest.length<_; omega
 have hnl:=zjc (txtD 64 d)
 have hrl:=zZe zYe (numM (txtD 64 d)).1.toNat (numM (txtD 64 d)).2
 have hvn:=z8f (f:=verM) (numM (txtD 64 d)).1.toNat (numM (txtD 64 d)).2
 have key:=s_Rc (w0:=w0) (w:=w6) (fr:=fr) (b1:=b1) (b2:=b2) (b3:=b3) (b4:=b4) (b5:=b5) (b6:=b6) (b8:=b8) (acc:=acc) (key:=mkS (zV 64 d.r).2) (mark:=mark) (bs:=bs) (hs:=hs) (keys:=((n+1:Nat):Int)) (n0:=(numM (txtD 64 d)).1.toNat) (d0:=(numM (txtD 64 d)).2) (cs0:=cs6) (hc:=hc) (eb:=eb)
  (again_1:=fun(keys':Int) w'=>(∃(n:Nat) (acc:List Hd) (d:DS) (cs:List zf) (hs:Slc) (hc:List zf),keys'=(n:Int)∧n<2 ^ 64∧acc++(z8 n d).1=(z8 n0 d0).1∧(z8 n d).2=(z8 n0 d0).2∧LfD d∧(d.e=0→acc.length+d.r.rest.length≤L)∧acc.length≤L+1∧d.r.rest.length≤L ∧
   (∀ x∈acc,x.2.length≤1048576)∧DcO b2 b3 b4 d cs∧HdsO hs acc hc∧St w0 (cs++((b5,[zr b2 b3 b4])::(b6,[numV b2 b3 b5])::(b1,svT ⟨mark,bs,hs⟩)::(eb++(hc++fr)))) w')∧keys'.toNat<((n+1:Nat):Int).toNat)
  O_ O_ o6 hh O_ st6 (fun cs7 hs7 hc7 w7 o7 hh7 st7=>by
   rw [wn]
   refine⟨⟨n,acc++[(mkS (zV 64 d.r).2,(repM verM (numM (txtD 64 d)).1.toNat (numM (txtD 64 d)).2).1)],_,cs7,hs7,hc7,rfl,O_,by rw [List.append_assoc]; exact hH,hD,LfD.rep LfD.ver _ (LfD.num fun _=>rfl),fun _=> ?_,?_,O_,fun x hx=> ?_,o7,hh7,st7⟩,O_⟩
   ·rw [List.length_append,List.length_singleton]; omega
   ·rw [List.length_append,List.length_singleton]; omega
   ·rcases List.mem_append.1 hx with hx | hx
    ·exact hvb x hx
    ·rw [List.mem_singleton.1 hx]
     show(repM verM (numM (txtD 64 d)).1.toNat (numM (txtD 64 d)).2).1.length≤_
     omega)
 rw [←hnn] at key
 exact key
theorem s_od {n0 L:Nat} {d0:DS} (hL:L≤549755813888) (hn:n0≤65536) (hlf:LfD d0) (hl:d0.r.rest.length≤L) (o:DcO b2 b3 b4 d0 cs0)
    (st:St w0 (cs0++((b5,[zr b2 b3 b4])::(b6,[numV b2 b3 b5])::(b1,svT ⟨mark,⟨none,0,0⟩,⟨none,0,0⟩⟩)::fr)) w)
    (k:∀ cs s eb hc w',DcO b2 b3 b4 (hldM (repM numM n0 d0).2).2 cs→SavO s ⟨mark,(repM numM n0 d0).1,(hldM (repM numM n0 d0).2).1⟩ eb hc→(∀ x∈(hldM (repM numM n0 d0).2).1,x.2.length≤1048576)→(hldM (repM numM n0 d0).2).1.length≤1099511627776→St w0 (cs++((b5,[zr b2 b3 b4])::(b6,[numV b2 b3 b5])::(b1,svT s)::(eb++(hc++fr)))) w'→F_Db R b1 b2 b3 w') :
    ∃(I:Int→WP) (μ:Int→World→Nat),I ((n0:Nat):Int) w∧∀(n_:Int) w,I n_ w→F_Ed R b1 b2 b3 b5 b6 (fun(n_':Int) w'=>I n_' w'∧μ n_' w'<μ n_ w) n_ w:=by
 refine⟨fun n_ w'=>∃(n:Nat) (acc:List Int) (d:DS) (cs:List zf) (bs:Slc) (eb:List zf),n_=(n:Int)∧acc.length+n≤65536∧acc++(repM numM n d).1=(repM numM n0 d0).1∧(repM numM n d).2=(repM numM n0 d0).2∧LfD d∧d.r.rest.length≤L∧DcO b2 b3 b4 d cs∧RowC 1 bs (acc.map Vi) eb ∧
     St w0 (cs++((b5,[zr b2 b3 b4])::(b6,[numV b2 b3 b5])::(b1,svT ⟨mark,bs,⟨none,0,0⟩⟩)::(eb++fr))) w',fun n_ _=>n_.toNat,
  ⟨n0,[],d0,cs0,⟨none,0,0⟩,[],rfl,by simpa using hn,rfl,rfl,hlf,hl,o,RowC.nil,by simpa using st⟩,?_⟩
 clear st o hl hn hlf
 rintro n_ w1 ⟨n,acc,d,cs,bs,eb,rfl,hn,hA,hD,hlf,hl,o,rv,st⟩
 have hx:=o
 obtain⟨r,rbs,ro,rfl⟩:=o
 have hbl:bs.len=acc.length:=by have:=rv.len; rw [List.length_map] at this; omega
 have st1:St w0 ((b2,[Vi d.e])::(b3,[Vp r])::(b4,[Vi ((d.left:Nat):Int)])::(rbs++((b5,[zr b2 b3 b4])::(b6,[numV b2 b3 b5])::(b1,svT ⟨mark,bs,⟨none,0,0⟩⟩)::(eb++fr)))) w1:=st
 have behind:(n=0∨d.e≠0)→∀ {again_:Int→WP},F_3b R b1 b2 b3 b5 b6 ((n:Nat):Int) again_ false w1:=by
  intro hor again_
  rw [z0d hor,List.append_nil] at hA
  rw [z0d hor] at hD
  have hD:d=(repM numM n0 d0).2:=hD
  rw [←hA,←hD] at k
  unfold F_3b
  refine⟨fun h=>(by cases h),fun _=>⟨r,st1.cell 1 rfl rfl,?_⟩⟩
  have st1r:St w0 (rbs++((b2,[Vi d.e])::(b3,[Vp r])::(b4,[Vi ((d.left:Nat):Int)])::(b5,[zr b2 b3 b4])::(b6,[numV b2 b3 b5])::(b1,svT ⟨mark,bs,⟨none,0,0⟩⟩)::(eb++fr))) w1:=st1.pq
  refine s_z st1r ro fun rb2 w2 ro2 st2=> ?_
  have st2b:St w0 ((b2,[Vi d.e])::(b5,[zr b2 b3 b4])::(b3,[Vp r])::(b4,[Vi ((d.left:Nat):Int)])::(rb2++((b6,[numV b2 b3 b5])::(b1,svT ⟨mark,bs,⟨none,0,0⟩⟩)::(eb++fr)))) w2:=st2.pq
  have st2c:St w0 (((b2,[Vi d.e])::(b3,[Vp r])::(b4,[Vi ((d.left:Nat):Int)])::rb2)++((b5,[zr b2 b3 b4])::(b6,[numV b2 b3 b5])::(b1,svT ⟨mark,bs,⟨none,0,0⟩⟩)::(eb++fr))) w2:=st2.pq
  have hvl:=zke d.r
  have go:∀ {cs':List zf} {w':World},DcO b2 b3 b4 (keyD d) cs'→LfD (keyD d)→(keyD d).r.rest.length≤L→St w0 (cs'++((b5,[zr b2 b3 b4])::(b6,[numV b2 b3 b5])::(b1,svT ⟨mark,bs,⟨none,0,0⟩⟩)::(eb++fr))) w'→F_2b R b1 b2 b3 b5 b6 (((varR d.r).2:Nat):Int) w':=by
   intro cs' w' o' hlf' hl' st'
   exact s_Sc hL (z2l d.r) hlf' hl' o' st' fun cs hs hc w' o7 hh7 hv7 hl7 st7=>k cs ⟨mark,bs,hs⟩ eb hc w' o7 ⟨rfl,rv,hh7⟩ hv7 hl7 st7
  refine⟨d.e,st2b.cell 0 rfl rfl,fun he=>⟨zr b2 b3 b4,st2b.cell 1 rfl rfl,?_⟩,fun he=> ?_⟩
  ·have he:d.e=0:=by simpa using he
   have hk:zHb ⟨(varR d.r).1,d.e,d.left⟩ false 0=keyD d:=by unfold keyD; rw [if_pos he]
   refine s_m (d:=⟨(varR d.r).1,d.e,d.left⟩) ⟨r,rb2,ro2,rfl⟩ st2c fun cs5 w5 o5 st5=>⟨_,rfl,?_⟩
   rw [hk] at o5
   exact go o5 (by rw [←hk]; exact fun _=>rfl) (by rw [←hk]; show(varR d.r).1.rest.length≤L; omega) st5
  ·have he:d.e≠0:=by simpa using he
   have hk:(⟨(varR d.r).1,d.e,d.left⟩:DS)=keyD d:=by unfold keyD; rw [if_neg he]
   exact go (cs':=(b2,[Vi d.e])::(b3,[Vp r])::(b4,[Vi ((d.left:Nat):Int)])::rb2) (by rw [←hk]; exact⟨r,rb2,ro2,rfl⟩) (by rw [←hk]; exact fun h=>absurd h he) (by rw [←hk]; show(varR d.r).1.rest.length≤L; omega) st2c
 unfold F_Ed
 refine⟨fun hi=> ?_,fun hi=> ?_⟩
 rotate_left
 ·have hi:=of_decide_eq_false hi
  exact behind (.inl O_)
 have hi:=of_decide_eq_true hi
 refine⟨d.e,st1.cell 0 rfl rfl,?_⟩
 by_cases hde:d.e=0
 rotate_left
 ·rw [show(d.e==0)=false from by simpa using hde]
  exact behind (.inr hde)
 rw [hde]
 obtain⟨n,rfl⟩:∃ n',n=n'+1:=⟨n - 1,O_⟩
 rw [repM,if_neg O_] at hA hD
 have wn:IntKind.i64.wrap (((n+1:Nat):Int) - 1)=((n:Nat):Int):=by rw [i64_in _ O_ O_]; omega
 unfold F_3b
 refine⟨fun _ w2 hd2=> ?_,fun h=>(by cases h)⟩
 have st2:=st.drew hd2
 have st2b:St w0 ((b1,svT ⟨mark,bs,⟨none,0,0⟩⟩)::(b6,[numV b2 b3 b5])::(((b2,[Vi d.e])::(b3,[Vp r])::(b4,[Vi ((d.left:Nat):Int)])::rbs)++((b5,[zr b2 b3 b4])::(eb++fr)))) w2:=st2.pq
 refine⟨bs,st2b.cell 0 rfl rfl,numV b2 b3 b5,st2b.cell 1 rfl rfl,?_⟩
 refine s_r hx st2 fun cs3 w3 o3 st3=>⟨_,rfl,?_⟩
 have st3b:St w0 ((b1,svT ⟨mark,bs,⟨none,0,0⟩⟩)::(eb++(cs3++((b5,[zr b2 b3 b4])::(b6,[numV b2 b3 b5])::fr)))) w3:=st3.pq
 refine⟨st3b.cell 0 rfl rfl,fun b7 w4 hb7 hw4=> ?_⟩
 have st4:=st3b.alloc (cs:=[Vi (numM d).1]) hb7 hw4
 refine⟨st4.cell 1 rfl rfl,[Vi (numM d).1],zY hb7 hw4 rfl,?_⟩
 have st4:St w0 (eb++((b1,svT ⟨mark,bs,⟨none,0,0⟩⟩)::(cs3++((b5,[zr b2 b3 b4])::(b6,[numV b2 b3 b5])::fr)))) w4:=st4.weak [(b7,[Vi (numM d).1])] (zc fun f_=>by simp <;> omega)
 refine rv.append st4 rfl rfl rfl (by rw [hbl]; omega) fun bs' eb' w5 rv' st5 hl5=> ?_
 have st5:St w0 ((b1,svT ⟨mark,bs,⟨none,0,0⟩⟩)::(eb'++(cs3++((b5,[zr b2 b3 b4])::(b6,[numV b2 b3 b5])::fr)))) w5:=st5.pq
 refine⟨st5.writable 0 rfl (Nat.le_of_ble_eq_true rfl),fun w6 hw6=> ?_⟩
 have st6:St w0 ((b1,svT ⟨mark,bs',⟨none,0,0⟩⟩)::(eb'++(cs3++((b5,[zr b2 b3 b4])::(b6,[numV b2 b3 b5])::fr)))) w6:=st5.put0 hw6
 rw [wn]
 have hle:=zjc d
 refine⟨⟨n,acc++[(numM d).1],(numM d).2,cs3,bs',eb',rfl,by rw [List.length_append,List.length_singleton]; omega,by rw [List.append_assoc]; exact hA,hD,hlf.num,O_,o3,?_,st6.pq⟩,by show Int.toNat _<Int.toNat _; omega⟩
 rw [List.map_append]
 exact rv'
theorem s_bb {b_:Slc} {xs:List UInt8} (st:St w0 fr w) (hs:zh w b_ 1 (xs.map bV)) (hl:b_.len≤549755813888)
    (k:∀ s' eb' hc' w',SavO s' (decM xs).1 eb' hc'→St w0 (eb'++(hc'++fr)) w'→R s' (decM xs).2 w'):C_Kc b_ w R:=by
 apply S_Jc
 unfold F_9e
 have hxl:b_.len=xs.length:=hs.len_eq
 intro b1 w1 hb1 hw1 b2 w2 hb2 hw2
 have st1:St w0 ((b1,svT ⟨0,⟨none,0,0⟩,⟨none,0,0⟩⟩)::fr) w1:=st.alloc hb1 hw1
 have st2:St w0 ((b2,[Vi 0])::(b1,svT ⟨0,⟨none,0,0⟩,⟨none,0,0⟩⟩)::fr) w2:=st1.alloc hb2 hw2
 have e02:Ext w w2:=(Ext.new hw1).trans (Ext.new hw2)
 refine s_9b st2 (e02.src hs) O_ fun r rbs w3 ro st3 b3 w4 hb3 hw4=> ?_
 have st4:=st3.alloc hb3 hw4
 refine⟨st4.writable 0 rfl (Nat.le_of_ble_eq_true rfl),fun w5 hw5 b4 w6 hb4 hw6=> ?_⟩
 have st5:St w0 ((b3,[Vp r])::(rbs++((b2,[Vi 0])::(b1,svT ⟨0,⟨none,0,0⟩,⟨none,0,0⟩⟩)::fr))) w5:=st4.put0 hw5
 have st6:=st5.alloc hb4 hw6
 refine⟨st6.writable 0 rfl (Nat.le_of_ble_eq_true rfl),fun w7 hw7 b5 w8 hb5 hw8=> ?_⟩
 have st7:St w0 ((b4,[Vi ((b_.len:Nat):Int)])::(b3,[Vp r])::(rbs++((b2,[Vi 0])::(b1,svT ⟨0,⟨none,0,0⟩,⟨none,0,0⟩⟩)::fr))) w7:=st6.put0 hw7
 have st8:=st7.alloc hb5 hw8
 refine⟨st8.writable 0 rfl (Nat.le_of_ble_eq_true rfl),fun w9 hw9 b6 w10 hb6 hw10=> ?_⟩
 have st9:St w0 ((b5,[zr b2 b3 b4])::(b4,[Vi ((b_.len:Nat):Int)])::(b3,[Vp r])::(rbs++((b2,[Vi 0])::(b1,svT ⟨0,⟨none,0,0⟩,⟨none,0,0⟩⟩)::fr))) w9:=st8.put0 hw9
 have st10:=st9.alloc hb6 hw10
 refine⟨st10.writable 0 rfl (Nat.le_of_ble_eq_true rfl),fun w11 hw11=> ?_⟩
 have st11:St w0 ((b6,[numV b2 b3 b5])::(b5,[zr b2 b3 b4])::(b4,[Vi ((b_.len:Nat):Int)])::(b3,[Vp r])::(rbs++((b2,[Vi 0])::(b1,svT ⟨0,⟨none,0,0⟩,⟨none,0,0⟩⟩)::fr))) w11:=st10.put0 hw11
 refine⟨numV b2 b3 b5,st11.cell 0 rfl rfl,?_⟩
 rw [hxl] at st11
 have o11:DcO b2 b3 b4 (d0M xs) ((b2,[Vi 0])::(b3,[Vp r])::(b4,[Vi ((xs.length:Nat):Int)])::rbs):=⟨r,rbs,ro,rfl⟩
 have st11:St w0 (((b2,[Vi 0])::(b3,[Vp r])::(b4,[Vi ((xs.length:Nat):Int)])::rbs)++((b5,[zr b2 b3 b4])::(b6,[numV b2 b3 b5])::(b1,svT ⟨0,⟨none,0,0⟩,⟨none,0,0⟩⟩)::fr)) w11:=st11.pq
 refine s_r o11 st11 fun cs12 w12 o12 st12=>⟨_,rfl,?_⟩
 have st12:St w0 ((b1,svT ⟨0,⟨none,0,0⟩,⟨none,0,0⟩⟩)::(b6,[numV b2 b3 b5])::(cs12++((b5,[zr b2 b3 b4])::fr))) w12:=st12.pq
 refine⟨st12.writable 0 rfl (Nat.le_of_ble_eq_true rfl),fun w13 hw13=> ?_⟩
 have st13:St w0 ((b1,svT ⟨(numM (d0M xs)).1,⟨none,0,0⟩,⟨none,0,0⟩⟩)::(b6,[numV b2 b3 b5])::(cs12++((b5,[zr b2 b3 b4])::fr))) w13:=st12.put0 hw13
 refine⟨numV b2 b3 b5,st13.cell 1 rfl rfl,?_⟩
 have st13:St w0 (cs12++((b5,[zr b2 b3 b4])::(b6,[numV b2 b3 b5])::(b1,svT ⟨(numM (d0M xs)).1,⟨none,0,0⟩,⟨none,0,0⟩⟩)::fr)) w13:=st13.pq
 refine s_r o12 st13 fun cs14 w14 o14 st14=>⟨_,rfl,?_⟩
 have hrng:=zZd (numM (d0M xs)).2
 have hnn:(numM (numM (d0M xs)).2).1=(((numM (numM (d0M xs)).2).1.toNat:Nat):Int):=O_
 have h1:=zjc (d0M xs)
 have h2:=zjc (numM (d0M xs)).2
 have h3:(d0M xs).r.rest.length=xs.length:=rfl
 have key:=s_od (R:=R) (w0:=w0) (w:=w14) (fr:=fr) (cs0:=cs14) (b1:=b1) (b2:=b2) (b3:=b3) (b4:=b4) (b5:=b5) (b6:=b6) (mark:=(numM (d0M xs)).1) (n0:=(numM (numM (d0M xs)).2).1.toNat) (L:=xs.length) (d0:=(numM (numM (d0M xs)).2).2)
  O_ O_ (LfD.num (LfD.num fun _=>rfl)) O_ o14 st14 fun cs s eb hc w' o' hs' hv' hl' st'=>by
   have hbl:=z8f (f:=numM) (numM (numM (d0M xs)).2).1.toNat (numM (numM (d0M xs)).2).2
   exact s_Dd o' hs' hv' (by show(repM numM _ _).1.length≤_; omega) (by show(hldM _).1.length≤_; exact Nat.le_trans hl' D_) st' k
 rw [←hnn] at key
 exact key
end
section
variable {w0:Base} {w:World} {fr bd br bs:List zf} {d r:OA} {m:DM}
theorem s_T {R:Int→WP} (st:St w0 (bs++fr) w) (o:DkO d m bs) (k:R m.cap w):C_ec d w R:=by
 apply S_Zb
 obtain⟨b,a,c,ra,rc,rfl,r1,r2,rfl,_⟩:=o
 exact⟨fun h=>(by cases h),fun _=>⟨rfl,_,st.cell 0 rfl rfl,k⟩⟩
theorem s_U {slot:Int} {R:Int→WP} (st:St w0 (bs++fr) w) (o:DkO d m bs) (h:¬ (slot=0∨slot=1)) (k:R 1 w):C_z d slot w R:=by
 apply S_n
 refine s_c st o ?_
 rw [if_neg h]
 exact⟨fun _=>k,fun h=>by simp at h⟩
theorem z1e (m:DM):(rawF m).1.writes≤m.writes+1:=by
 unfold rawF
 by_cases h:m.dead=true∨m.can=0
 ·rw [if_pos h]; show m.writes≤_; omega
 ·rw [if_neg h]; exact Nat.le_refl _
theorem zJf (m:DM) (s:Int) (l:List UInt8):(m.put s l).writes=m.writes:=by unfold DM.put; split <;> rfl
theorem z1d (m:DM) (slot a:Int) (ys:List UInt8):(zVb m slot a ys).1.writes≤m.writes+1:=by
 have:=z1e m
 unfold zVb
 repeat' split
 all_goals first | (show m.writes≤_; omega) | exact this | (show(DM.put _ _ _).writes≤_; rw [zJf]; exact this)
theorem z2d (m:DM) (slot:Int):(zxb m slot).1.writes≤m.writes+1:=by
 have:=z1e m
 unfold zxb
 split
 ·exact this
 ·show(DM.put _ _ _).writes≤_
  rw [zJf]; exact this
end
def genF (xs:List UInt8):Nat:=leV ((xs.drop 4).take 8)
def zCd (xs:List UInt8):Prop:=20≤xs.length∧(1≤genF xs∧genF xs≤4611686018427387904)∧xs.take 20=zwc (genF xs) (xs.drop 20)
open Classical in
noncomputable def zZ (xs:List UInt8):SvM×Nat×Bool:=if zCd xs then((decM (xs.drop 20)).1,genF xs,decide ((decM (xs.drop 20)).2=0)) else(zSv,0,false)
theorem zHc {xs:List UInt8} (h:¬ zCd xs):zZ xs=(zSv,0,false):=by unfold zZ; exact if_neg h
theorem z3d {xs:List UInt8} (h:zCd xs):zZ xs=((decM (xs.drop 20)).1,genF xs,decide ((decM (xs.drop 20)).2=0)):=by unfold zZ; exact if_pos h
theorem ztd (xs:List UInt8):(zZ xs).2.1≤4611686018427387904:=by
 by_cases h:zCd xs
 ·rw [z3d h]; exact h.2.1.2
 ·rw [zHc h]; exact Nat.zero_le _
theorem z4k:∀ {l m:List UInt8},l.map i8=m.map i8→l=m
 | [],[],_=>rfl
 | [],_::_,h=>by simp at h
 | _::_,[],h=>by simp at h
 | a::l,b::m,h=>by
  rw [List.map_cons,List.map_cons] at h
  obtain⟨h1,h2⟩:=List.cons.inj h
  have h3:a.toNat=b.toNat:=Int.ofNat.inj h1
  rw [UInt8.toNat_inj.1 h3,z4k h2]
theorem z7o (l m:List UInt8):(l.map i8==m.map i8)=decide (l=m):=by
 by_cases h:l=m
 ·subst h; rw [beq_self_eq_true,decide_eq_true rfl]
 ·rw [decide_eq_false h,beq_eq_false_iff_ne]
  exact fun e=>h (z4k e)
section
variable {w:World}
theorem z0h (l m:List Value) (h:l.length=m.length):putL 0 l m=l:=by
 have:=zhb [] m [] l h
 simpa using this
theorem s_Ed {b_:Slc} {xs:List UInt8} {R:T_b→Int→Bool→WP} (hs:zh w b_ 1 (xs.map bV)) (hl:xs.length<4294967296) (hcap:b_.len≤b_.cap)
    (k:∀ s' eb hc w',SavO s' (zZ xs).1 eb hc→St ⟨w,[]⟩ (eb++hc) w'→R s' (((zZ xs).2.1:Nat):Int) (zZ xs).2.2 w'):C_yc b_ w R:=by
 apply S_Gc
 unfold F_8e
 have hxl:b_.len=xs.length:=hs.len_eq
 intro b1 w1 hb1 hw1
 have st1:St ⟨w,[]⟩ [(b1,svT ⟨0,⟨none,0,0⟩,⟨none,0,0⟩⟩)] w1:=(St.start w).alloc hb1 hw1
 have zero:∀ {l:List zf} {w':World} {g:Int} {ok:Bool},zZ xs=(zSv,0,false)→g=0→ok=false→St ⟨w,[]⟩ ((b1,svT ⟨0,⟨none,0,0⟩,⟨none,0,0⟩⟩)::l) w' →
     zd w' b1 0 3∧(∀ w2,w2=World.puts b1 0 [Vi 0,Value.slice none 0 0,Value.slice none 0 0] w'→∃(res:T_b),ze w2 b1 0 (svT res)∧R res g ok w2):=fun {l w' g ok} hz hg hok st'=>by
  subst hg hok
  refine⟨st'.writable 0 rfl D_,fun w2 hw2=> ?_⟩
  have st2:St ⟨w,[]⟩ ((b1,svT ⟨0,⟨none,0,0⟩,⟨none,0,0⟩⟩)::l) w2:=st'.put0 hw2
  have kk:=k ⟨0,⟨none,0,0⟩,⟨none,0,0⟩⟩ [] [] w2 (by rw [hz]; exact SavO.zero) (by simpa using st2.weak ((b1,svT ⟨0,⟨none,0,0⟩,⟨none,0,0⟩⟩)::l) (l':=[]) (by simp))
  rw [hz] at kk
  exact⟨_,(st2.get 0 rfl).all,kk⟩
 refine⟨fun h=> ?_,fun h=> ?_⟩
 ·have h:=of_decide_eq_true h
  exact zero (zHc fun hh=>by have:=hh.1; omega) rfl rfl st1
 have h:¬ (((b_.len:Nat):Int)<20):=of_decide_eq_false h
 have h20:20≤xs.length:=O_
 have hpre:=(st1.ext.src hs).pre (k:=20) O_
 rw [Nat.mul_one,←List.map_take] at hpre
 have htl:(xs.take 20).length=20:=by rw [List.length_take]; omega
 obtain⟨ha,hc⟩:IsAt b_.ptr∧ze w1 (pblk b_.ptr) (poff b_.ptr) ((xs.take 20).map bV):=by
  rcases hpre.2 with h0 | h0
  ·have:=congrArg List.length h0
   rw [List.length_map,htl] at this; simp at this
  ·exact h0
 have hl20:((xs.take 20).map i8).length=20:=by rw [List.length_map,htl]
 refine⟨O_,O_,ha,(xs.take 20).map i8,hl20,by rw [zNf]; exact hc,fun b2 w3 hb2 hw3=> ?_⟩
 have st3:=st1.alloc hb2 hw3
 have zl:((List.replicate 20 (0:Int)).map (Value.int .u8)).length=20:=by rw [List.length_map,List.length_replicate]
 refine⟨st3.writable 0 rfl (by rw [zl]; omega),fun w4 hw4=> ?_⟩
 have st4:=st3.put0 hw4
 rw [z0h _ _ (by rw [zl,List.length_map,hl20]),zNf] at st4
 refine⟨fun g i w'=>∃ j:Nat,i=11 - (j:Int)∧j≤8∧g=((leV ((xs.drop (12 - j)).take j):Nat):Int)∧St ⟨w,[]⟩ [(b2,(xs.take 20).map bV),(b1,svT ⟨0,⟨none,0,0⟩,⟨none,0,0⟩⟩)] w',fun _ i _=>(i - 3).toNat,⟨0,rfl,O_,by rw [List.take_zero]; rfl,st4⟩,?_⟩
 clear st4 st3 hw4 hw3
 rintro g i w5 ⟨j,rfl,hj,rfl,st⟩
 unfold F_3d
 refine⟨fun hi=> ?_,fun hi=> ?_⟩
 ·have hi:=of_decide_eq_true hi
  have hj8:j<8:=O_
  have e11:(11 - (j:Int)).toNat=11 - j:=O_
  obtain⟨c,hcx⟩:∃ c,xs[11 - j]? =some c:=⟨_,List.getElem?_eq_getElem O_⟩
  have hcell:w5.cell? ⟨b2,0+(11 - (j:Int)).toNat,none⟩=some (Value.int .u8 (c.toNat:Int)):=st.cell 0 rfl (by
   rw [e11,Nat.zero_add,List.getElem?_map,List.getElem?_take_of_lt O_,hcx]; rfl)
  refine⟨O_,O_,(c.toNat:Int),hcell,?_⟩
  have hb':=c.toNat_lt
  have hd:(xs.drop (11 - j)).take (j+1)=c::(xs.drop (12 - j)).take j:=by
   obtain⟨g1,g2⟩:=List.getElem?_eq_some_iff.1 hcx
   rw [List.drop_eq_getElem_cons g1,g2,List.take_succ_cons,show 11 - j+1=12 - j from by omega]
  have hlt:=zMg ((xs.drop (12 - j)).take j)
  have hlen2:((xs.drop (12 - j)).take j).length≤7:=by rw [List.length_take]; omega
  have h56:(256:Nat) ^ ((xs.drop (12 - j)).take j).length≤256 ^ 7:=Nat.pow_le_pow_right O_ hlen2
  have h567:(256:Nat) ^ 7=72057594037927936:=D_
  have hv:bor .u64 (IntKind.u64.wrap (((leV ((xs.drop (12 - j)).take j):Nat):Int)*2 ^ 8)) (IntKind.u64.wrap (c.toNat:Int))=((leV ((xs.drop (11 - j)).take (j+1)):Nat):Int):=by
   rw [shl_nat,zX _ O_ O_,zX (c.toNat:Int) O_ O_,zOe rfl (by show _<2 ^ 64; omega) (by show _<2 ^ 64; omega),Nat.or_comm,zcj O_,hd,leV]
   congr 1
   omega
  rw [hv,i64_in _ O_ O_]
  exact⟨⟨j+1,O_,O_,by rw [show 12 - (j+1)=11 - j from by omega],st⟩,by show Int.toNat _<Int.toNat _; omega⟩
 have hi:=of_decide_eq_false hi
 obtain rfl:j=8:=O_
 intro w11 hd11
 have st11:=st.drew hd11
 have st11':St ⟨w,[]⟩ [(b1,svT ⟨0,⟨none,0,0⟩,⟨none,0,0⟩⟩),(b2,(xs.take 20).map bV)] w11:=st11.pq
 have hge:leV ((xs.drop (12 - 8)).take 8)=genF xs:=rfl
 rw [hge]
 have bad:¬ zCd xs→∀ {g:Int} {w':World},St ⟨w,[]⟩ [(b1,svT ⟨0,⟨none,0,0⟩,⟨none,0,0⟩⟩),(b2,(xs.take 20).map bV)] w'→F_Zb b_ R b1 g true w':=fun hn {g w'} st'=>by
  unfold F_Zb
  exact⟨fun _=>zero (zHc hn) rfl rfl st',fun h=>(by cases h)⟩
 refine⟨fun h1=> ?_,fun h1=> ?_⟩
 ·simp only [Bool.or_eq_true,decide_eq_true_eq] at h1
  exact bad (fun hh=>by have:=hh.2.1; omega) st11'
 simp only [Bool.or_eq_false_iff,decide_eq_false_iff_not] at h1
 have hcut:∀ {w':World} {s1:Slc},Ext w w'→s1=Slc.cut 1 b_ 20 ((b_.len:Nat):Int) ((b_.cap:Nat):Int)→zh w' s1 1 ((xs.drop 20).map bV)∧s1.len=xs.length - 20:=fun {w' s1} e hs1=>by
  have:=(e.src hs).cut (lo:=20) (hi:=((b_.len:Nat):Int)) (mx:=((b_.cap:Nat):Int)) O_ O_ O_ O_
  subst hs1
  have e2:((xs.map bV).drop ((20:Int).toNat*1)).take ((((b_.len:Nat):Int).toNat - (20:Int).toNat)*1)=(xs.drop 20).map bV:=by
   rw [Nat.mul_one,Nat.mul_one,←List.map_drop,List.take_of_length_le (by rw [List.length_map,List.length_drop,Int.toNat_natCast]; show _≤b_.len - 20; omega)]
   rfl
  rw [e2] at this
  exact⟨this,by have:=this.len_eq; rw [this,List.length_drop]⟩
 refine⟨(xs.take 20).map i8,hl20,by rw [zNf]; exact(st11.get 0 rfl).all,⟨O_,O_,O_,O_⟩,fun s1 hs1=> ?_⟩
 obtain⟨c1,c2⟩:=hcut st11.ext hs1
 refine s_pb (g:=genF xs) c1 O_ (by rw [List.length_drop]; omega) fun w12 e12 _=> ?_
 have st12:=st11.keep e12
 have st12':St ⟨w,[]⟩ [(b1,svT ⟨0,⟨none,0,0⟩,⟨none,0,0⟩⟩),(b2,(xs.take 20).map bV)] w12:=st12.pq
 refine⟨by rw [zNf]; exact(st12.get 0 rfl).all,?_⟩
 rw [z7o]
 by_cases hh:xs.take 20=zwc (genF xs) (xs.drop 20)
 rotate_left
 ·rw [decide_eq_false hh]
  exact bad (fun h=>hh h.2.2) st12'
 rw [decide_eq_true hh]
 have hok:zCd xs:=⟨h20,⟨O_,O_⟩,hh⟩
 have hW:=z3d hok
 unfold F_Zb
 refine⟨fun h=>(by cases h),fun _=>⟨⟨O_,O_,O_,O_⟩,fun s2 hs2=> ?_⟩⟩
 obtain⟨d1,d2⟩:=hcut st12.ext hs2
 refine s_bb st12' d1 O_ fun s' eb hc' w8 o8 st8=> ?_
 have st8:St ⟨w,[]⟩ ((b1,svT ⟨0,⟨none,0,0⟩,⟨none,0,0⟩⟩)::(eb++(hc'++[(b2,(xs.take 20).map bV)]))) w8:=st8.pq
 refine⟨st8.writable 0 rfl D_,fun w9 hw9=> ?_⟩
 have st9:St ⟨w,[]⟩ ((b1,svT s')::(eb++(hc'++[(b2,(xs.take 20).map bV)]))) w9:=st8.put0 hw9
 refine⟨s',(st9.get 0 rfl).all,st9.writable 0 rfl (Nat.le_of_ble_eq_true rfl),fun w10 hw10=> ?_⟩
 have st10:St ⟨w,[]⟩ ((b1,svT s')::(eb++(hc'++[(b2,(xs.take 20).map bV)]))) w10:=st9.put0 hw10
 have kk:=k s' eb hc' w10 (by rw [hW]; exact o8) (st10.wq [(b1,svT s'),(b2,(xs.take 20).map bV)])
 rw [hW] at kk
 have e0:((decM (xs.drop 20)).2==0)=decide ((decM (xs.drop 20)).2=0):=by
  by_cases h:(decM (xs.drop 20)).2=0
  ·rw [h]; rfl
  ·rw [decide_eq_false h,beq_eq_false_iff_ne.2 h]
 rw [e0]
 exact⟨s',(st10.get 0 rfl).all,kk⟩
end
/-- The newest of what is whole. -/
structure NwM where
 sv:SvM
 gen:Nat
 slot:Int
 ok:Bool
def zUb (a:NwM) (i:Int) (x:SvM×Nat×Bool):NwM:=if x.2.2=true∧(a.ok=false∨a.gen<x.2.1) then⟨x.1,x.2.1,i,true⟩ else a
noncomputable def accM (m:DM):Nat→NwM
 | 0=>⟨zSv,0,0,false⟩
 | p+1=>zUb (accM m p) (p:Int) (zZ (m.get (p:Int)))
noncomputable def newM (m:DM):NwM:=accM m 2
theorem zLe (m:DM):∀ p,(accM m p).gen≤4611686018427387904
 | 0=>Nat.zero_le _
 | p+1=>by
  show(zUb _ _ _).gen≤_
  unfold zUb
  split
  ·exact ztd _
  ·exact zLe m p
section
variable {w0:Base} {w:World} {fr bs:List zf} {d:OA} {m:DM}
theorem DM.get_le (h0:m.s0.length≤16777216) (h1:m.s1.length≤16777216) (s:Int):(m.get s).length≤16777216:=by unfold DM.get; split <;> assumption
theorem DkO.lens (o:DkO d m bs) (s:Int):(m.get s).length≤16777216:=by
 obtain⟨b,a,c,ra,rc,_,_,_,_,_,_,_,_,_,h6,h7⟩:=o
 exact DM.get_le h6 h7 s
theorem s_jb {R:T_b→Int→Int→Bool→Int→WP} (st:St w0 (bs++fr) w) (o:DkO d m bs)
    (k:∀ s' eb hc w',SavO s' (newM m).sv eb hc→St w0 (eb++(hc++(bs++fr))) w'→R s' (((newM m).gen:Nat):Int) (newM m).slot (newM m).ok 0 w'):C_Kb d w R:=by
 apply S_Ub
 unfold F_ye
 intro b w1 hb hw1
 have st1:St w0 ((b,svT ⟨0,⟨none,0,0⟩,⟨none,0,0⟩⟩)::(bs++fr)) w1:=st.alloc hb hw1
 refine⟨fun g s ok t w'=>∃(p:Nat) (sv:T_b) (eb hc:List zf),t=(p:Int)∧p≤2∧g=(((accM m p).gen:Nat):Int)∧s=(accM m p).slot∧ok=(accM m p).ok∧SavO sv (accM m p).sv eb hc∧St w0 ((b,svT sv)::(eb++(hc++(bs++fr)))) w',fun _ _ _ t _=>(2 - t).toNat,
  ⟨0,_,[],[],rfl,O_,rfl,rfl,rfl,SavO.zero,st1⟩,?_⟩
 clear st st1 hw1
 rintro g s ok t w2 ⟨p,sv,eb,hc,rfl,hp,rfl,rfl,rfl,oS,st⟩
 unfold F_ed
 refine⟨fun hi=> ?_,fun hi=> ?_⟩
 rotate_left
 ·have hi:=of_decide_eq_false hi
  obtain rfl:p=2:=O_
  refine⟨sv,(st.get 0 rfl).all,st.writable 0 rfl (Nat.le_of_ble_eq_true rfl),fun w10 hw10=> ?_⟩
  have st10:St w0 ((b,svT sv)::(eb++(hc++(bs++fr)))) w10:=st.put0 hw10
  exact⟨sv,(st10.get 0 rfl).all,k sv eb hc w10 oS st10.drop1⟩
 have hi:=of_decide_eq_true hi
 have hp2:(p:Int)=0∨(p:Int)=1:=O_
 have wp:IntKind.i64.wrap ((p:Int)+1)=((p+1:Nat):Int):=by rw [i64_in _ O_ O_]; omega
 have hge:=zLe m p
 have hle:=o.lens (p:Int)
 have st':St w0 (bs++((b,svT sv)::(eb++(hc++fr)))) w2:=st.pq
 refine s_F st' o hp2 fun s1 rb w4 r4 st4 hl4=>⟨fun h=>(by simp at h),fun _=> ?_⟩
 have hgw:=ztd (m.get (p:Int))
 refine s_Ed (xs:=m.get (p:Int)) (r4.src st4) O_ r4.cap_le fun s' eb' hc' w6 o6 st6 b2 w7 hb2 hw7=> ?_
 have st6:=st4.more st6
 have st7:=st6.alloc (cs:=svT ⟨0,⟨none,0,0⟩,⟨none,0,0⟩⟩) hb2 hw7
 refine⟨st7.writable 0 rfl D_,fun w8 hw8=> ?_⟩
 have st8:St w0 ((b2,svT s')::((eb'++hc')++(rb++(bs++((b,svT sv)::(eb++(hc++fr))))))) w8:=st7.put0 hw8
 have st8b:St w0 ((b,svT sv)::(b2,svT s')::((eb'++hc')++(rb++(bs++(eb++(hc++fr)))))) w8:=st8.pq
 have hacc:accM m (p+1)=zUb (accM m p) (p:Int) (zZ (m.get (p:Int))):=rfl
 rw [zX _ O_ O_]
 refine⟨fun hc1=> ?_,fun hc1=> ?_⟩
 ·have hcond:(zZ (m.get (p:Int))).2.2=true∧((accM m p).ok=false∨(accM m p).gen<(zZ (m.get (p:Int))).2.1):=by
    simp only [Bool.and_eq_true,Bool.or_eq_true,Bool.not_eq_true',decide_eq_true_eq] at hc1
    exact⟨hc1.1,hc1.2.imp id fun h=>by omega⟩
  unfold zUb at hacc
  rw [if_pos hcond] at hacc
  refine⟨s',(st8.get 0 rfl).all,st8b.writable 0 rfl (Nat.le_of_ble_eq_true rfl),fun w9 hw9=> ?_⟩
  have st9:St w0 ((b,svT s')::(b2,svT s')::((eb'++hc')++(rb++(bs++(eb++(hc++fr)))))) w9:=st8b.put0 hw9
  unfold F_kc
  rw [wp,i64_in _ O_ O_]
  exact⟨⟨p+1,s',eb',hc',rfl,O_,by rw [hacc],by rw [hacc],by rw [hacc],by rw [hacc]; exact o6,st9.wq ((b2,svT s')::(rb++(eb++hc)))⟩,by show Int.toNat _<Int.toNat _; omega⟩
 ·have hcond:¬ ((zZ (m.get (p:Int))).2.2=true∧((accM m p).ok=false∨(accM m p).gen<(zZ (m.get (p:Int))).2.1)):=fun⟨h1,h2⟩=>by
    have:((zZ (m.get (p:Int))).2.2&&((!(accM m p).ok)||(decide (((((zZ (m.get (p:Int))).2.1:Nat)):Int)>(((accM m p).gen:Nat):Int)))))=true:=by
     rw [h1,Bool.true_and]
     rcases h2 with h2 | h2
     ·rw [h2]; rfl
     ·rw [decide_eq_true O_,Bool.or_true]
    rw [this] at hc1; cases hc1
  unfold zUb at hacc
  rw [if_neg hcond] at hacc
  unfold F_kc
  rw [wp]
  exact⟨⟨p+1,sv,eb,hc,rfl,O_,by rw [hacc],by rw [hacc],by rw [hacc],by rw [hacc]; exact oS,st8b.wq ((b2,svT s')::((eb'++hc')++rb))⟩,by show Int.toNat _<Int.toNat _; omega⟩
end
abbrev RfR:=T_a
abbrev rdV (r:RfR):List Value:=[Vo r.Gone,Vs r.B,Vi r.At,Vi r.Code]
/-- The reader stands so in the bytes xs of B. -/
structure RV (B:Slc) (xs:List UInt8) (r:RfR) (s:RS):Prop where
 gone:r.Gone=false
 row:r.B=B
 code:r.Code=s.code
 place:∃ p:Nat,r.At=(p:Int)∧p≤xs.length∧s.rest=xs.drop p
section
variable {w0:Base} {w:World} {B:Slc} {xs:List UInt8} {r:RfR} {s:RS}
theorem s_l {R:Bool→WP} (o:RV B xs r s) (k:∀ w',Ext w w'→R (s.code != 0) w'):C_e r w R:=by
 apply S_db
 intro b w1 hb hw
 have kb:=Blk.new hb hw
 refine⟨r.Gone,kb.cell rfl,fun h=>(by rw [o.gone] at h; cases h),fun _=>⟨r.Code,kb.cell rfl,?_⟩⟩
 rw [o.code]
 exact k w1 (Ext.new hw)
/-- The answer is put at its place and read there. -/
theorem zkc {α:Type} {b1:Nat} {cs:List Value} {l:List zf} {R:RfR→WP} {r':RfR} (st:St w0 ((b1,cs)::l) w) (hc:cs.length=4) (k:∀ w',St w0 l w'→R r' w') :
    zd w b1 0 4∧(∀ w4,w4=World.puts b1 0 (rdV r') w→(∃ res:RfR,ze w4 b1 0 (rdV res)∧R res w4)):=by
 refine⟨st.writable 0 rfl O_,fun w4 hw4=>⟨r',?_,k w4 (st.put0 hw4).drop1⟩⟩
 have:=(st.put0 hw4).get 0 rfl
 have e:putL 0 (rdV r') cs=rdV r':=by
  have:=zhb [] cs [] (rdV r') (by rw [hc]; rfl)
  simpa using this
 rw [e] at this
 exact this.all
theorem s_i {e:Int} {R:RfR→WP} (k:∀ w',Ext w w'→R { r with Code:=e } w'):C_a r e w R:=by
 apply S_8
 intro b w1 hb hw b1 w2 hb1 hw1
 have st:=((St.start w).alloc hb hw).alloc hb1 hw1
 refine⟨st.writable 1 rfl (by simp),fun w3 hw3=> ?_⟩
 have st:=st.put1 hw3
 refine⟨{ r with Code:=e },(st.get 1 rfl).all,?_⟩
 exact zkc (α:=Unit) st rfl fun w' st=>k w' st.ext
theorem s_Tc {R:Int→WP} (o:RV B xs r s) (hl:B.len=xs.length) (k:∀ w',Ext w w'→R s.end_ w'):C_Jb r w R:=by
 apply S_jb
 intro b w1 hb hw
 have kb:=Blk.new hb hw
 have k:=k w1 (Ext.new hw)
 obtain⟨p,hp,hpl,hr⟩:=o.place
 refine⟨r.Gone,kb.cell rfl,fun h=>(by rw [o.gone] at h; cases h),fun _=>⟨r.Code,kb.cell rfl,fun h=>⟨r.Code,kb.cell rfl,?_⟩,fun h=>⟨r.At,kb.cell rfl,r.B,kb.cell rfl,fun h2=> ?_,fun h2=> ?_⟩⟩⟩
 ·have h:s.code≠0:=by rw [o.code] at h; simpa using h
  unfold RS.end_ at k
  rw [if_neg (fun hh=>h hh.1)] at k
  rw [o.code]; exact k
 ·have h:s.code=0:=by rw [o.code] at h; simpa using h
  have h2:=of_decide_eq_true h2
  rw [o.row,hp] at h2
  unfold RS.end_ at k
  rw [if_pos ⟨h,fun hh=>by rw [hr] at hh; have:=congrArg List.length hh; rw [List.length_drop] at this; simp at this; omega⟩] at k
  exact k
 ·have h:s.code=0:=by rw [o.code] at h; simpa using h
  have h2:=of_decide_eq_false h2
  rw [o.row,hp] at h2
  unfold RS.end_ at k
  rw [if_neg (fun hh=>hh.2 (by rw [hr]; exact List.drop_eq_nil_of_le O_)),h] at k
  exact k
theorem s_u {R:RfR→Int→WP} (o:RV B xs r s) (hs:zh w B 1 (xs.map bV)) (hl:B.len≤140737488351232)
    (k:∀ r' w',RV B xs r' (varR s).1→Ext w w'→R r' ((varR s).2:Int) w'):C_p r w R:=by
 apply S_kb
 intro b w1 hb hw b1 w2 hb1 hw1
 have st:=((St.start w).alloc hb hw).alloc hb1 hw1
 have hbl:=hs.len_eq
 obtain⟨p,hp,hpl,hr⟩:=id o.place
 refine⟨r,(st.get 1 rfl).all,s_l o fun w3 e3=>⟨fun h=>⟨r,((st.keep e3).get 1 rfl).all,?_⟩,fun h=> ?_⟩⟩
 ·have h:s.code≠0:=by simpa using h
  have hv:varR s=(s,0):=by unfold varR; rw [if_pos h]
  rw [hv] at k
  exact zkc (α:=Unit) (R:=fun r' w'=>R r' 0 w') (st.keep e3) rfl fun w' st=>k r w' o st.ext
 have h:s.code=0:=by simpa using h
 have st:=st.keep e3
 have hs0:s=⟨xs.drop p,0⟩:=by rw [←hr,←h]
 subst hs0
 refine⟨fun n f i w'=>∃(j m:Nat),i=(j:Int)∧f=((128 ^ j:Nat):Int)∧n=(m:Int)∧j≤9∧m<128 ^ j∧p+j≤xs.length∧shA j m (xs.drop (p+j))=shF (xs.drop p) ∧
     St ⟨w,[]⟩ ((b1,[Vo false,Value.slice none 0 0,Vi 0,Vi 0])::[(b,rdV r)]) w',fun _ _ i _=>10 - i.toNat,
  ⟨0,0,rfl,rfl,rfl,O_,by simp,O_,rfl,st⟩,?_⟩
 rintro n f i w5 ⟨j,m,rfl,rfl,rfl,hj,hm,hpj,hsh,st⟩
 unfold F_Lb
 have wpj:IntKind.i64.wrap ((p:Int)+(j:Int))=((p+j:Nat):Int):=by rw [i64_in _ O_ O_]; omega
 have cA:∀ {w':World},St ⟨w,[]⟩ ((b1,[Vo false,Value.slice none 0 0,Vi 0,Vi 0])::[(b,rdV r)]) w'→w'.cell? ⟨b,2,none⟩=some (Vi (p:Int)):=fun st=>by rw [←hp]; exact st.cell 1 rfl rfl
 have cB:∀ {w':World},St ⟨w,[]⟩ ((b1,[Vo false,Value.slice none 0 0,Vi 0,Vi 0])::[(b,rdV r)]) w'→w'.cell? ⟨b,1,none⟩=some (Vs B):=fun st=>by rw [←o.row]; exact st.cell 1 rfl rfl
 have bad:∀ {e:Int} (he:e≠0) (hsf:shF (xs.drop p)=(0,0,e)),RV B xs { r with Code:=e } (varR ⟨xs.drop p,0⟩).1∧(varR ⟨xs.drop p,0⟩).2=0:=by
  intro e he hsf
  have hv:varR ⟨xs.drop p,0⟩=(⟨xs.drop p,e⟩,0):=by unfold varR; simp [hsf,he]
  rw [hv]
  exact⟨⟨o.gone,o.row,rfl,p,hp,hpl,rfl⟩,rfl⟩
 refine⟨(p:Int),cA st,B,cB st,fun hge=>⟨r,(st.get 1 rfl).all,?_⟩,fun hlt=>⟨B,cB st,(p:Int),cA st,?_⟩⟩
 ·rw [wpj] at hge
  have hge:=of_decide_eq_true hge
  rw [zPe O_,shA] at hsh
  obtain⟨o',hv⟩:=bad (e:=5) D_ hsh.symm
  refine s_i fun w6 e6=>zkc (α:=Unit) (R:=fun r' w'=>R r' 0 w') (st.keep e6) rfl fun w' st=> ?_
  have:=k _ w' o' st.ext
  rw [hv] at this
  exact this
 rw [wpj] at hlt ⊢
 have hlt:=of_decide_eq_false hlt
 obtain⟨a,c,hc,hcell⟩:=(st.ext.src hs).get (i:=((p+j:Nat):Int)) O_ O_
 rw [Int.toNat_natCast] at hc
 have hb:=c.toNat_lt
 rw [zyd hc,shA] at hsh
 refine⟨a,O_,O_,_,hcell,fun hbad=>⟨r,(st.get 1 rfl).all,?_⟩,fun hbad=> ?_⟩
 ·rw [if_pos (by simp only [Bool.or_eq_true,Bool.and_eq_true,beq_iff_eq,decide_eq_true_eq] at hbad; omega)] at hsh
  obtain⟨o',hv⟩:=bad (e:=4) D_ hsh.symm
  refine s_i fun w6 e6=>zkc (α:=Unit) (R:=fun r' w'=>R r' 0 w') (st.keep e6) rfl fun w' st=> ?_
  have:=k _ w' o' st.ext
  rw [hv] at this
  exact this
 have hne:¬ ((j=9∧c.toNat>1)∨(j>0∧c.toNat=0)):=by
  simp only [Bool.or_eq_false_iff,Bool.and_eq_false_iff,beq_eq_false_iff_ne,decide_eq_false_iff_not] at hbad; omega
 rw [if_neg hne] at hsh
 have hx:c.toNat % 128*128 ^ j<2 ^ 64∧m+c.toNat % 128*128 ^ j<2 ^ 64:=by
  by_cases h9:j=9
  ·subst h9
   have h1:c.toNat % 128=c.toNat:=Nat.mod_eq_of_lt O_
   rw [h1]
   have h2:c.toNat*128 ^ 9≤1*128 ^ 9:=Nat.mul_le_mul_right _ O_
   have h3:(128:Nat) ^ 9=9223372036854775808:=D_
   omega
  ·have h1:c.toNat % 128*128 ^ j≤127*128 ^ j:=Nat.mul_le_mul_right _ O_
   have h3:(128:Nat) ^ j≤128 ^ 8:=Nat.pow_le_pow_right O_ O_
   have h4:(128:Nat) ^ 8=72057594037927936:=D_
   omega
 have wt:IntKind.u64.wrap (Int.tmod (c.toNat:Int) 128)=((c.toNat % 128:Nat):Int):=by
  rw [show Int.tmod (c.toNat:Int) 128=((c.toNat % 128:Nat):Int) from rfl,zX _ O_ O_]
 have wf:IntKind.u64.wrap (((128 ^ j:Nat):Int)*((c.toNat % 128:Nat):Int))=((c.toNat % 128*128 ^ j:Nat):Int):=by
  rw [show((128 ^ j:Nat):Int)*((c.toNat % 128:Nat):Int)=((c.toNat % 128*128 ^ j:Nat):Int) from by rw [Nat.mul_comm]; push_cast; rfl,zX _ O_ O_]
 have wv:IntKind.u64.wrap ((m:Int)+((c.toNat % 128*128 ^ j:Nat):Int))=((m+c.toNat % 128*128 ^ j:Nat):Int):=by
  rw [zX _ O_ O_]; omega
 simp only [wt,wf,wv]
 refine⟨fun hlt128=> ?_,fun hge128=> ?_⟩
 ·have hlt128:=of_decide_eq_true hlt128
  rw [if_pos O_] at hsh
  have wn:IntKind.i64.wrap (((p+j:Nat):Int)+1)=((p+j+1:Nat):Int):=by rw [i64_in _ O_ O_]; omega
  refine⟨(p:Int),cA st,st.writable 1 rfl (by simp),fun w10 hw10=> ?_⟩
  rw [wpj,wn] at hw10
  have st:=st.put1 hw10
  refine⟨{ r with At:=((p+j+1:Nat):Int) },(st.get 1 rfl).all,?_⟩
  refine zkc (α:=Unit) (R:=fun r' w'=>R r' ((m+c.toNat % 128*128 ^ j:Nat):Int) w') st rfl fun w' st=> ?_
  have hv:varR ⟨xs.drop p,0⟩=(⟨xs.drop (p+j+1),0⟩,m+c.toNat % 128*128 ^ j):=by
   unfold varR; simp only [←hsh,List.drop_drop]; rfl
  rw [hv] at k
  exact k _ w' ⟨o.gone,o.row,o.code,p+j+1,rfl,O_,rfl⟩ st.ext
 ·have hge128:=of_decide_eq_false hge128
  rw [if_neg O_] at hsh
  have h9:j≠9:=fun h9=>by omega
  have w128:IntKind.u64.wrap (128*((128 ^ j:Nat):Int))=((128 ^ (j+1):Nat):Int):=by
   have h3:(128:Nat) ^ (j+1)≤128 ^ 9:=Nat.pow_le_pow_right O_ O_
   have h4:(128:Nat) ^ 9=9223372036854775808:=D_
   rw [show 128*((128 ^ j:Nat):Int)=((128 ^ (j+1):Nat):Int) from by rw [Nat.pow_succ,Nat.mul_comm]; push_cast; rfl,zX _ O_ O_]
  have wj:IntKind.i64.wrap ((j:Int)+1)=((j+1:Nat):Int):=by rw [i64_in _ O_ O_]; omega
  rw [w128,wj]
  refine⟨⟨j+1,_,rfl,rfl,rfl,O_,?_,O_,hsh,st⟩,by show 10 - ((j+1:Nat):Int).toNat<10 - ((j:Nat):Int).toNat; rw [Int.toNat_natCast,Int.toNat_natCast]; omega⟩
  have h1:c.toNat % 128*128 ^ j≤127*128 ^ j:=Nat.mul_le_mul_right _ O_
  have h2:128 ^ j*128=128 ^ (j+1):=(Nat.pow_succ ..).symm
  omega
theorem St.sw {x y:zf} {l:List zf} (h:St w0 (x::y::l) w):St w0 (y::x::l) w:=h.perm (List.Perm.swap ..)
abbrev zR:List Value:=[Vo false,Value.slice none 0 0,Vi 0,Vi 0]
theorem s_uc {most:Int} {R:RfR→ByteArray→WP} (o:RV B xs r s) (hs:zh w B 1 (xs.map bV)) (hl:B.len≤140737488351232) (hcap:B.len≤B.cap) (hm0: -9223372036854775808≤most) (hm1:most≤9223372036854775807)
    (k:∀ r' w',RV B xs r' (zV most s).1→Ext w w'→R r' (mkS (zV most s).2) w'):C_Bb r most w R:=by
 apply S_eb
 intro b w1 hb hw b1 w2 hb1 hw1
 have st:=((St.start w).alloc hb hw).alloc hb1 hw1
 have hbl:=hs.len_eq
 obtain⟨p,hp,hpl,hr⟩:=id o.place
 refine⟨r,(st.get 1 rfl).all,s_l o fun w3 e3=>⟨fun h=>⟨r,((st.keep e3).get 1 rfl).all,?_⟩,fun h=> ?_⟩⟩
 ·have h:s.code≠0:=by simpa using h
  have hv:zV most s=(s,[]):=by unfold zV; rw [if_pos h]
  rw [hv] at k
  exact zkc (α:=Unit) (R:=fun r' w'=>R r' ByteArray.empty w') (st.keep e3) rfl fun w' st=>k r w' o st.ext
 have h:s.code=0:=by simpa using h
 have st:=st.keep e3
 have hs0:s=⟨xs.drop p,0⟩:=by rw [←hr,←h]
 subst hs0
 -- an error: the reader stays
 have bad:∀ {e:Int} {l:List zf} {w4:World},zV most ⟨xs.drop p,0⟩=(⟨xs.drop p,e⟩,[])→St ⟨w,[]⟩ ((b1,zR)::l) w4→C_a r e w4 (fun(v:RfR) w5 =>
     zd w5 b1 0 4∧(∀ w6,w6=World.puts b1 0 (rdV v) w5→(∃(res1:RfR),ze w6 b1 0 (rdV res1)∧(R res1 ByteArray.empty w6)))):=by
  intro e l w4 hv st
  refine s_i fun w6 e6=>zkc (α:=Unit) (R:=fun r' w'=>R r' ByteArray.empty w') (st.keep e6) rfl fun w' st=> ?_
  rw [hv] at k
  exact k _ w' ⟨o.gone,o.row,rfl,p,hp,hpl,rfl⟩ st.ext
 obtain⟨hb1',hb2,hb3⟩:=zMf (xs.drop p)
 have hT:zV most ⟨xs.drop p,0⟩=_:=rfl
 conv at hT=>rhs; unfold zV
 simp only at hT
 rw [if_neg (by simp)] at hT
 refine⟨fun hm=>⟨r,(st.get 1 rfl).all,bad ?_ st⟩,fun hm=>⟨r,(st.get 1 rfl).all,s_u o (st.ext.src hs) hl fun r1 w7 o1 e7 b2 w8 hb2' hw8=> ?_⟩⟩
 ·have hm:=of_decide_eq_true hm
  rw [if_pos hm] at hT; exact hT
 have hm:=of_decide_eq_false hm
 rw [if_neg hm] at hT
 have st:=(st.keep e7).alloc hb2' hw8
 refine⟨st.writable 0 rfl (by simp),fun w9 hw9=> ?_⟩
 have st:St ⟨w,[]⟩ ((b2,rdV r1)::(b1,zR)::[(b,rdV r)]) w9:=st.put0 hw9
 refine⟨r1,(st.get 0 rfl).all,s_l o1 fun w10 e10=> ?_⟩
 have st:=st.keep e10
 obtain⟨p1,hp1,hpl1,hr1⟩:=id o1.place
 by_cases he:(shF (xs.drop p)).2.2=0
 ·have hv:varR ⟨xs.drop p,0⟩=(⟨(xs.drop p).drop (shF (xs.drop p)).2.1,0⟩,(shF (xs.drop p)).1):=by unfold varR; simp [he]
  rw [if_neg O_] at hT
  rw [hv] at hr1 ⊢
  have hlen1:=congrArg List.length hr1
  simp only [List.length_drop] at hlen1 hb2
  generalize hsz:(shF (xs.drop p)).2.1=sz at *
  generalize hn:(shF (xs.drop p)).1=n at *
  obtain rfl:p1=p+sz:=O_
  have wm:IntKind.u64.wrap most=most:=zX _ O_ O_
  have wl:IntKind.u64.wrap (IntKind.i64.wrap (((B.len:Nat):Int) - ((p+sz:Nat):Int)))=(((xs.drop p).length - sz:Nat):Int):=by
   rw [i64_in _ O_ O_,zX _ O_ O_,List.length_drop]; omega
  have cB:w10.cell? ⟨b,1,none⟩=some (Vs B):=by rw [←o.row]; exact st.cell 2 rfl rfl
  have cA:w10.cell? ⟨b2,2,none⟩=some (Vi ((p+sz:Nat):Int)):=by rw [←hp1]; exact st.cell 0 rfl rfl
  refine⟨fun hh=>by simp at hh,fun _=>⟨fun hgt=>⟨r,(st.get 2 rfl).all,bad ?_ st.sw⟩,fun hgt=>⟨B,cB,_,cA,fun hgt2=>⟨r,(st.get 2 rfl).all,bad ?_ st.sw⟩,fun hgt2=>⟨B,cB,_,cA,_,cA,?_⟩⟩⟩⟩
  ·rw [wm] at hgt
   have hgt:=of_decide_eq_true hgt
   rw [if_pos hgt] at hT; exact hT
  ·rw [wm] at hgt
   have hgt:=of_decide_eq_false hgt
   rw [if_neg hgt] at hT
   rw [wl] at hgt2
   have hgt2:=of_decide_eq_true hgt2
   rw [if_pos O_] at hT; exact hT
  ·rw [wm] at hgt
   have hgt:=of_decide_eq_false hgt
   rw [if_neg hgt] at hT
   rw [wl] at hgt2
   have hgt2:=of_decide_eq_false hgt2
   rw [if_neg O_] at hT
   rw [List.length_drop] at hgt2
   have wn:IntKind.i64.wrap (((p+sz:Nat):Int)+IntKind.i64.wrap (n:Int))=((p+sz+n:Nat):Int):=by
    rw [i64_in (n:Int) O_ O_,i64_in _ O_ O_]; omega
   simp only [wn]
   refine⟨⟨O_,O_,O_,O_⟩,fun sc hsc=> ?_⟩
   have hcut:=(st.ext.src hs).cut (lo:=((p+sz:Nat):Int)) (hi:=((p+sz+n:Nat):Int)) (mx:=((B.cap:Nat):Int)) O_ O_ O_ O_
   rw [←hsc] at hcut
   simp only [Int.toNat_natCast,Nat.mul_one] at hcut
   rw [show p+sz+n - (p+sz)=n from by omega,←List.map_drop,←List.map_take] at hcut
   refine⟨mkS ((xs.drop (p+sz)).take n),by rw [zNg]; exact hcut,_,cA,st.writable 0 rfl (by simp),fun w17 hw17=> ?_⟩
   rw [wn] at hw17
   have st:=st.put0 hw17
   refine⟨{ r1 with At:=((p+sz+n:Nat):Int) },(st.get 0 rfl).all,?_⟩
   refine zkc (α:=Unit) (R:=fun r' w'=>R r' (mkS ((xs.drop (p+sz)).take n)) w') st.sw rfl fun w' st=> ?_
   have hT2:zV most ⟨xs.drop p,0⟩=(⟨xs.drop (p+sz+n),0⟩,(xs.drop (p+sz)).take n):=by
    rw [hT,List.drop_drop,List.drop_drop,Nat.add_assoc]
   rw [hT2] at k
   have ho1:=o1.code
   rw [hv] at ho1
   exact k _ w' ⟨o1.gone,o1.row,ho1,p+sz+n,rfl,O_,rfl⟩ st.ext
 ·have hv:varR ⟨xs.drop p,0⟩=(⟨xs.drop p,(shF (xs.drop p)).2.2⟩,0):=by unfold varR; simp [he]
  rw [if_pos he] at hT
  have ho1:=o1.code
  rw [hv] at ho1 ⊢
  refine⟨fun _=>⟨r,(st.get 2 rfl).all,r1.Code,st.cell 0 rfl rfl,?_⟩,fun hh=>absurd (by simpa using hh) he⟩
  rw [ho1]
  exact bad hT st.sw
theorem s_e {width:Int} {R:RfR→Int→WP} (o:RV B xs r s) (hs:zh w B 1 (xs.map bV)) (hl:B.len≤140737488351232)
    (k:∀ r' w',RV B xs r' (fixR width s).1→Ext w w'→R r' ((fixR width s).2:Int) w'):C_c r width w R:=by
 apply S_7
 intro b w1 hb hw b1 w2 hb1 hw1
 have st:=((St.start w).alloc hb hw).alloc hb1 hw1
 have hbl:=hs.len_eq
 obtain⟨p,hp,hpl,hr⟩:=id o.place
 refine⟨r,(st.get 1 rfl).all,s_l o fun w3 e3=>⟨fun h=>⟨r,((st.keep e3).get 1 rfl).all,?_⟩,fun h=> ?_⟩⟩
 ·have h:s.code≠0:=by simpa using h
  have hv:fixR width s=(s,0):=by unfold fixR; rw [if_pos h]
  rw [hv] at k
  exact zkc (α:=Unit) (R:=fun r' w'=>R r' 0 w') (st.keep e3) rfl fun w' st=>k r w' o st.ext
 have h:s.code=0:=by simpa using h
 have st:St ⟨w,[]⟩ ((b1,zR)::[(b,rdV r)]) w3:=st.keep e3
 have hs0:s=⟨xs.drop p,0⟩:=by rw [←hr,←h]
 subst hs0
 have bad:∀ {e:Int} {l:List zf} {w4:World},fixR width ⟨xs.drop p,0⟩=(⟨xs.drop p,e⟩,0)→St ⟨w,[]⟩ ((b1,zR)::l) w4→C_a r e w4 (fun(v:RfR) w5 =>
     zd w5 b1 0 4∧(∀ w6,w6=World.puts b1 0 (rdV v) w5→(∃(res1:RfR),ze w6 b1 0 (rdV res1)∧(R res1 0 w6)))):=by
  intro e l w4 hv st
  refine s_i fun w6 e6=>zkc (α:=Unit) (R:=fun r' w'=>R r' 0 w') (st.keep e6) rfl fun w' st=> ?_
  rw [hv] at k
  exact k _ w' ⟨o.gone,o.row,rfl,p,hp,hpl,rfl⟩ st.ext
 have hT:fixR width ⟨xs.drop p,0⟩=_:=rfl
 conv at hT=>rhs; unfold fixR
 simp only at hT
 rw [if_neg (by simp)] at hT
 have cB:∀ {w':World},St ⟨w,[]⟩ ((b1,zR)::[(b,rdV r)]) w'→w'.cell? ⟨b,1,none⟩=some (Vs B):=fun st=>by rw [←o.row]; exact st.cell 1 rfl rfl
 have cA:∀ {w':World},St ⟨w,[]⟩ ((b1,zR)::[(b,rdV r)]) w'→w'.cell? ⟨b,2,none⟩=some (Vi (p:Int)):=fun st=>by rw [←hp]; exact st.cell 1 rfl rfl
 refine⟨fun hb=>⟨r,(st.get 1 rfl).all,bad ?_ st⟩,fun hb=>⟨B,cB st,(p:Int),cA st,fun hg=>⟨r,(st.get 1 rfl).all,bad ?_ st⟩,fun hg=> ?_⟩⟩
 ·simp only [Bool.or_eq_true,decide_eq_true_eq] at hb
  rw [if_pos hb] at hT; exact hT
 ·simp only [Bool.or_eq_false_iff,decide_eq_false_iff_not] at hb
  rw [if_neg O_] at hT
  rw [i64_in _ O_ O_] at hg
  have hg:=of_decide_eq_true hg
  rw [if_pos (by rw [List.length_drop]; omega)] at hT; exact hT
 simp only [Bool.or_eq_false_iff,decide_eq_false_iff_not] at hb
 rw [if_neg O_] at hT
 rw [i64_in _ O_ O_] at hg
 have hg:=of_decide_eq_false hg
 rw [if_neg (by rw [List.length_drop]; omega)] at hT
 obtain⟨W,rfl⟩:=toN (show 0≤width by omega)
 rw [Int.toNat_natCast] at hT
 have w1':IntKind.i64.wrap ((W:Int) - 1)=(W:Int) - 1:=i64_in _ O_ O_
 rw [w1']
 refine⟨fun n i w'=>∃ j:Nat,i=(j:Int) - 1∧j≤W∧n=((leV (((xs.drop p).take W).drop j):Nat):Int)∧St ⟨w,[]⟩ ((b1,zR)::[(b,rdV r)]) w',fun _ i _=>(i+1).toNat,
  ⟨W,rfl,Nat.le_refl _,by rw [List.drop_of_length_le (by rw [List.length_take]; omega)]; rfl,st⟩,?_⟩
 rintro n i w9 ⟨j,rfl,hj,rfl,st⟩
 unfold F_wb
 refine⟨fun hi=> ?_,fun hi=> ?_⟩
 ·have hi:=of_decide_eq_true hi
  obtain⟨j,rfl⟩:=Nat.exists_eq_succ_of_ne_zero (show j≠0 by omega)
  have hji:((j.succ:Nat):Int) - 1=(j:Int):=O_
  rw [hji]
  have wpj:IntKind.i64.wrap ((p:Int)+(j:Int))=((p+j:Nat):Int):=by rw [i64_in _ O_ O_]; omega
  obtain⟨a,c,hc,hcell⟩:=(st.ext.src hs).get (i:=((p+j:Nat):Int)) O_ O_
  rw [Int.toNat_natCast] at hc
  have hb':=c.toNat_lt
  refine⟨B,cB st,(p:Int),cA st,?_⟩
  rw [wpj]
  refine⟨a,O_,O_,_,hcell,?_⟩
  have hd:((xs.drop p).take W).drop j=c::((xs.drop p).take W).drop (j+1):=zyd (by rw [List.getElem?_take,if_pos O_,List.getElem?_drop]; exact hc)
  have hlt:=zMg (((xs.drop p).take W).drop (j+1))
  have hlen2:(((xs.drop p).take W).drop (j+1)).length≤7:=by rw [List.length_drop,List.length_take]; omega
  have h56:(256:Nat) ^ (((xs.drop p).take W).drop (j+1)).length≤256 ^ 7:=Nat.pow_le_pow_right O_ hlen2
  have h567:(256:Nat) ^ 7=72057594037927936:=D_
  have hv:IntKind.u64.wrap (IntKind.u64.wrap (256*((leV (((xs.drop p).take W).drop (j+1)):Nat):Int))+IntKind.u64.wrap (c.toNat:Int))=((leV (((xs.drop p).take W).drop j):Nat):Int):=by
   rw [zX (256*_) O_ O_,zX (c.toNat:Int) O_ O_,zX _ O_ O_,hd,leV]
   omega
  have wj:IntKind.i64.wrap ((j:Int) - 1)=(j:Int) - 1:=i64_in _ O_ O_
  rw [show j.succ=j+1 from rfl,hv,wj]
  exact⟨⟨j,rfl,O_,rfl,st⟩,by show Int.toNat _<Int.toNat _; omega⟩
 ·have hi:=of_decide_eq_false hi
  obtain rfl:j=0:=O_
  rw [List.drop_zero]
  have wpw:IntKind.i64.wrap ((p:Int)+(W:Int))=((p+W:Nat):Int):=by rw [i64_in _ O_ O_]; omega
  refine⟨(p:Int),cA st,st.writable 1 rfl (by simp),fun w10 hw10=> ?_⟩
  rw [wpw] at hw10
  have st:=st.put1 hw10
  refine⟨{ r with At:=((p+W:Nat):Int) },(st.get 1 rfl).all,?_⟩
  refine zkc (α:=Unit) (R:=fun r' w'=>R r' ((leV ((xs.drop p).take W):Nat):Int) w') st rfl fun w' st=> ?_
  rw [hT] at k
  exact k _ w' ⟨o.gone,o.row,o.code,p+W,rfl,O_,by rw [List.drop_drop]⟩ st.ext
end
theorem z1h {d:DS} {q:RS} {is:Bool} {f:Int} (hl:d.left=d.r.rest.length) (he:d.e=0) (h:(∃ c,c≠0∧q=⟨d.r.rest,c⟩)∨(q.code=0∧q.rest.length<d.r.rest.length)) :
    zHb ⟨q,d.e,d.left⟩ is f=⟨q,if q.code≠0 then q.code else if is=true then f else 0,q.rest.length⟩:=by
 unfold zHb
 simp only
 rw [if_neg O_]
 rcases h with ⟨c,hc,rfl⟩ | ⟨h1,h2⟩
 ·rw [if_pos hl.symm]
  have he2:RS.end_ ⟨d.r.rest,c⟩=c:=by
   unfold RS.end_
   rw [if_neg (fun h=>hc h.1)]
  simp only
  rw [he2,if_neg hc,if_pos hc]
 ·rw [if_neg (show ¬ q.rest.length=d.left by omega)]
  by_cases hi:is=true
  ·rw [if_pos hi,if_neg O_]
  ·rw [if_neg hi,if_neg O_]
theorem GdD.of {q:RS} {e:Int} (h:e=0→q.code=0):GdD ⟨q,e,q.rest.length⟩:=fun he=>⟨h he,rfl⟩
theorem zJg {d:DS} (hg:GdD d) (he:d.e=0):(∃ c,c≠0∧(varR d.r).1=⟨d.r.rest,c⟩)∨((varR d.r).1.code=0∧(varR d.r).1.rest.length<d.r.rest.length):=by
 obtain⟨hc,_⟩:=hg he
 obtain⟨⟨l,c⟩,e,lf⟩:=d
 simp only at hc
 subst hc
 rcases zxd l with ⟨c,h,hv⟩ | ⟨n,r,hv,hx,_⟩
 ·exact .inl ⟨c,h,by show(varR ⟨l,0⟩).1=_; rw [hv]⟩
 ·refine .inr ?_
  show(varR ⟨l,0⟩).1.code=0∧(varR ⟨l,0⟩).1.rest.length<l.length
  rw [hv,hx]
  have:=List.length_pos_iff.2 (znj n)
  exact⟨rfl,by show r.length<(varF n++r).length; rw [List.length_append]; omega⟩
theorem z8i {d:DS} (hg:GdD d) (he:d.e=0):(∃ c,c≠0∧(fixR 1 d.r).1=⟨d.r.rest,c⟩)∨((fixR 1 d.r).1.code=0∧(fixR 1 d.r).1.rest.length<d.r.rest.length):=by
 obtain⟨hc,_⟩:=hg he
 obtain⟨⟨l,c⟩,e,lf⟩:=d
 simp only at hc
 subst hc
 rcases zQf l with ⟨h,hv⟩ | ⟨c,r,hv,hx,_⟩
 ·exact .inl ⟨5,D_,by show(fixR 1 ⟨l,0⟩).1=_; rw [hv]⟩
 ·refine .inr ?_
  show(fixR 1 ⟨l,0⟩).1.code=0∧(fixR 1 ⟨l,0⟩).1.rest.length<l.length
  rw [hv,hx]
  exact⟨rfl,by show r.length<(fixB 1 c++r).length; rw [List.length_append,fixB_len]; omega⟩
theorem zIi {d:DS} {most:Int} (h0:0≤most) (hg:GdD d) (he:d.e=0):(∃ c,c≠0∧(zV most d.r).1=⟨d.r.rest,c⟩)∨((zV most d.r).1.code=0∧(zV most d.r).1.rest.length<d.r.rest.length):=by
 obtain⟨hc,_⟩:=hg he
 obtain⟨⟨l,c⟩,e,lf⟩:=d
 simp only at hc
 subst hc
 rcases z6e h0 l with ⟨c,h,hv⟩ | ⟨key,r,hv,hx,_⟩
 ·exact .inl ⟨c,h,by show(zV most ⟨l,0⟩).1=_; rw [hv]⟩
 ·refine .inr ?_
  show(zV most ⟨l,0⟩).1.code=0∧(zV most ⟨l,0⟩).1.rest.length<l.length
  rw [hv,hx]
  have:=List.length_pos_iff.2 (znj key.length)
  exact⟨rfl,by show r.length<(varF key.length++(key++r)).length; rw [List.length_append,List.length_append]; omega⟩
/-- The document's taker, beside the program's reader: with the same fault; while there is none it stands where that one does. -/
abbrev tkV (r:RfR) (code:Int):List Value:=[Vo r.Gone,Vs r.B,Vi r.At,Vi r.Code,Vi code]
def TkA (B:Slc) (xs:List UInt8) (d:DS) (cs:List Value):Prop:=∃ r:RfR,cs=tkV r d.e∧(d.e=0→RV B xs r d.r∧GdD d)
section
variable {w0:Base} {w:World} {fr:List zf} {b:Nat} {B:Slc} {xs:List UInt8} {d:DS} {cs:List Value}
theorem z2h {w1:World} {K:WP} {T:TypeId} {r r':RfR} {e:Int} (st:St w0 ((b,tkV r e)::fr) w1) (k:∀ w5,St w0 ((b,tkV r' r'.Code)::fr) w5→K w5) :
    ∀ b_ w2,b_=w1.heap.size→w2=w1.alloc (Obj.cells ([Vo false,Value.slice none 0 0,Vi 0,Vi 0]).toArray T (0,0))→(zd w2 b_ 0 4∧(∀ w3,w3=World.puts b_ 0 (rdV r') w2→(∃(v19:RfR),ze w3 b_ 0 (rdV v19) ∧
     (IsAt (some ⟨b,0,none⟩:OA)∧(zd w3 (pblk (some ⟨b,0,none⟩)) (poff (some ⟨b,0,none⟩)) 4∧(∀ w4,w4=World.puts (pblk (some ⟨b,0,none⟩)) (poff (some ⟨b,0,none⟩)) (rdV v19) w3→(∃(v24:Int),w4.cell? ⟨b_,3,none⟩=some (Vi v24) ∧
      (IsAt (some ⟨b,0,none⟩:OA)∧(zd w4 (pblk (some ⟨b,0,none⟩)) (poff (some ⟨b,0,none⟩)+4) 1∧(∀ w5,w5=World.puts (pblk (some ⟨b,0,none⟩)) (poff (some ⟨b,0,none⟩)+4) [Vi v24] w4→K w5)))))))))):=by
 intro b_ w2 hb hw
 have st2:=st.alloc hb hw
 refine⟨st2.writable 0 rfl D_,fun w3 hw3=> ?_⟩
 have st3:St w0 ((b_,rdV r')::(b,tkV r e)::fr) w3:=st2.put0 hw3
 have st3b:St w0 ((b,tkV r e)::(b_,rdV r')::fr) w3:=st3.pq
 refine⟨r',⟨st3.cell 0 rfl rfl,st3.cell 0 rfl rfl,st3.cell 0 rfl rfl,st3.cell 0 rfl rfl,trivial⟩,rfl,st3b.writable 0 rfl (Nat.le_of_ble_eq_true rfl),fun w4 hw4=> ?_⟩
 have st4:St w0 ((b,tkV r' e)::(b_,rdV r')::fr) w4:=st3b.put0 hw4
 have st4b:St w0 ((b_,rdV r')::(b,tkV r' e)::fr) w4:=st4.pq
 refine⟨r'.Code,st4b.cell 0 rfl rfl,rfl,st4.writable 0 rfl (Nat.le_of_ble_eq_true rfl),fun w5 hw5=>k w5 ?_⟩
 have st5:St w0 ((b,tkV r' r'.Code)::(b_,rdV r')::fr) w5:=st4.put0 hw5
 exact st5.wq [(b_,rdV r')]
theorem s_pd {R:Int→WP} (st:St w0 ((b,cs)::fr) w) (o:TkA B xs d cs) (hs:zh w B 1 (xs.map bV)) (hl:B.len≤140737488351232)
    (k:∀ v cs' w',TkA B xs (keyD d) cs'→(d.e=0→v=((varR d.r).2:Int))→(d.e≠0→v=0)→St w0 ((b,cs')::fr) w'→R v w'):C_Hb (some ⟨b,0,none⟩) w R:=by
 apply S_lb
 unfold F_nd
 obtain⟨r,rfl,hsync⟩:=o
 refine⟨rfl,d.e,st.cell 0 rfl rfl,fun h=> ?_,fun h=> ?_⟩
 ·have h:d.e≠0:=by simpa using h
  refine k 0 _ w ⟨r,?_,fun h0=> ?_⟩ (fun h0=>absurd h0 h) (fun _=>rfl) st
  ·unfold keyD; rw [if_neg h]
  ·unfold keyD at h0; rw [if_neg h] at h0; exact absurd h0 h
 have h:d.e=0:=by simpa using h
 obtain⟨rv,hg⟩:=hsync h
 have hkey:keyD d=⟨(varR d.r).1,if(varR d.r).1.code≠0 then(varR d.r).1.code else if false=true then 0 else 0,(varR d.r).1.rest.length⟩:=by
  unfold keyD; rw [if_pos h]; exact z1h (hg h).2 h (zJg hg h)
 refine⟨rfl,r,⟨st.cell 0 rfl rfl,st.cell 0 rfl rfl,st.cell 0 rfl rfl,st.cell 0 rfl rfl,trivial⟩,s_u rv hs hl fun r' w1 rv' e1=> ?_⟩
 refine z2h (st.keep e1) fun w5 st5=> ?_
 have hce:r'.Code=(keyD d).e:=by
  rw [hkey,rv'.code]
  show _=if(varR d.r).1.code≠0 then(varR d.r).1.code else if false=true then 0 else 0
  split
  ·rfl
  ·rename_i hz
   have hz:(varR d.r).1.code=0:=by simpa using hz
   rw [hz]; rfl
 rw [hce] at st5
 refine k _ _ w5 ⟨r',rfl,fun h0=> ?_⟩ (fun _=>rfl) (fun hne=>absurd h hne) st5
 have hc0:(varR d.r).1.code=0:=by rw [←rv'.code,hce]; exact h0
 refine⟨by rw [hkey]; exact rv',?_⟩
 rw [hkey]; exact GdD.of fun _=>hc0
theorem s_kb {most:Int} {R:ByteArray→WP} (st:St w0 ((b,cs)::fr) w) (o:TkA B xs d cs) (hs:zh w B 1 (xs.map bV)) (hl:B.len≤140737488351232) (hcap:B.len≤B.cap) (hm0:0≤most) (hm1:most≤9223372036854775807)
    (k:∀ v cs' w',TkA B xs (if d.e≠0 then d else txtD most d) cs'→(d.e=0→v=mkS (zV most d.r).2)→St w0 ((b,cs')::fr) w'→R v w'):C_I (some ⟨b,0,none⟩) most w R:=by
 apply S_mb
 unfold F_od
 obtain⟨r,rfl,hsync⟩:=o
 refine⟨rfl,d.e,st.cell 0 rfl rfl,fun h=> ?_,fun h=> ?_⟩
 ·have h:d.e≠0:=by simpa using h
  rw [if_pos h] at k
  exact k _ _ w ⟨r,rfl,fun h0=>absurd h0 h⟩ (fun h0=>absurd h0 h) st
 have h:d.e=0:=by simpa using h
 rw [if_neg (fun hh=>hh h)] at k
 obtain⟨rv,hg⟩:=hsync h
 have hkey:txtD most d=⟨(zV most d.r).1,if(zV most d.r).1.code≠0 then(zV most d.r).1.code else if false=true then 0 else 0,(zV most d.r).1.rest.length⟩:=z1h (hg h).2 h (zIi hm0 hg h)
 refine⟨rfl,r,⟨st.cell 0 rfl rfl,st.cell 0 rfl rfl,st.cell 0 rfl rfl,st.cell 0 rfl rfl,trivial⟩,s_uc rv hs hl hcap O_ hm1 fun r' w1 rv' e1=> ?_⟩
 refine z2h (st.keep e1) fun w5 st5=> ?_
 have hce:r'.Code=(txtD most d).e:=by
  rw [hkey,rv'.code]
  show _=if(zV most d.r).1.code≠0 then(zV most d.r).1.code else if false=true then 0 else 0
  split
  ·rfl
  ·rename_i hz
   have hz:(zV most d.r).1.code=0:=by simpa using hz
   rw [hz]; rfl
 rw [hce] at st5
 refine k _ _ w5 ⟨r',rfl,fun h0=> ?_⟩ (fun _=>rfl) st5
 have hc0:(zV most d.r).1.code=0:=by rw [←rv'.code,hce]; exact h0
 refine⟨by rw [hkey]; exact rv',?_⟩
 rw [hkey]; exact GdD.of fun _=>hc0
theorem s_g {R:Int→WP} (st:St w0 ((b,cs)::fr) w) (o:TkA B xs d cs) (hs:zh w B 1 (xs.map bV)) (hl:B.len≤140737488351232)
    (k:∀ v cs' w',TkA B xs (numM d).2 cs'→((numM d).2.e=0→v=(numM d).1)→0≤v→v≤65536→St w0 ((b,cs')::fr) w'→R v w'):C_d (some ⟨b,0,none⟩) w R:=by
 apply S_9
 unfold F_2c
 obtain⟨r,rfl,hsync⟩:=o
 refine⟨rfl,d.e,st.cell 0 rfl rfl,fun h=> ?_,fun h=> ?_⟩
 ·have h:d.e≠0:=by simpa using h
  have hn:numM d=(0,d):=by unfold numM; exact if_pos h
  rw [hn] at k
  exact k 0 _ w ⟨r,rfl,fun h0=>absurd h0 h⟩ (fun _=>rfl) D_ D_ st
 have h:d.e=0:=by simpa using h
 obtain⟨rv,hg⟩:=hsync h
 have hkey:numD d=⟨(varR d.r).1,if(varR d.r).1.code≠0 then(varR d.r).1.code else if decide (((varR d.r).2:Int)>65536)=true then 3 else 0,(varR d.r).1.rest.length⟩:=z1h (hg h).2 h (zJg hg h)
 have hn2:(numM d).2=numD d:=by unfold numM; rw [if_neg (fun hh=>hh h)]; split <;> rfl
 have hn1:(numD d).e=0→(numM d).1=((varR d.r).2:Int):=fun h0=>by unfold numM; rw [if_neg (fun hh=>hh h),if_neg (fun hh=>hh h0)]
 rw [hn2] at k
 have hvlt:(varR d.r).2<2 ^ 64:=by
  obtain⟨hc,_⟩:=hg h
  rcases zxd d.r.rest with ⟨c,_,hv⟩ | ⟨n,r,hv,_,hlt⟩
  ·rw [show d.r=⟨d.r.rest,0⟩ from by rw [←hc],hv]; exact Nat.two_pow_pos 64
  ·rw [show d.r=⟨d.r.rest,0⟩ from by rw [←hc],hv]; exact hlt
 have hmod:IntKind.i64.wrap (Int.tmod (((varR d.r).2:Nat):Int) 65537)=(((varR d.r).2 % 65537:Nat):Int):=by
  have e:Int.tmod (((varR d.r).2:Nat):Int) 65537=(((varR d.r).2 % 65537:Nat):Int):=z6d _ 65537
  rw [e,i64_in _ O_ O_]
 refine⟨rfl,r,⟨st.cell 0 rfl rfl,st.cell 0 rfl rfl,st.cell 0 rfl rfl,st.cell 0 rfl rfl,trivial⟩,s_u rv hs hl fun r' w1 rv' e1=> ?_⟩
 refine z2h (st.keep e1) fun w5 st5=> ?_
 refine⟨rfl,r'.Code,st5.cell 0 rfl rfl,fun hc=> ?_,fun hc=> ?_⟩
 ·simp only [Bool.and_eq_true,beq_iff_eq,decide_eq_true_eq] at hc
  refine⟨rfl,st5.writable 0 rfl (Nat.le_of_ble_eq_true rfl),fun w7 hw7=> ?_⟩
  have st7:St w0 ((b,tkV r' 3)::fr) w7:=st5.put0 hw7
  unfold F_j
  rw [hmod]
  have he3:(numD d).e=3:=by
   rw [hkey]
   show(if(varR d.r).1.code≠0 then(varR d.r).1.code else if decide (((varR d.r).2:Int)>65536)=true then 3 else 0)=3
   rw [if_neg (by rw [←rv'.code]; simp [hc.1]),if_pos (by simpa using hc.2)]
  refine k _ _ w7 ⟨r',by rw [he3],fun h0=>by rw [he3] at h0; cases h0⟩ (fun h0=>by rw [he3] at h0; cases h0) O_ O_ st7
 ·have hce:r'.Code=(numD d).e:=by
    rw [hkey]
    show _=if(varR d.r).1.code≠0 then(varR d.r).1.code else if decide (((varR d.r).2:Int)>65536)=true then 3 else 0
    rw [←rv'.code]
    by_cases hz:r'.Code=0
    ·rw [hz] at hc
     have hc:¬ (((varR d.r).2:Int)>65536):=by simpa using hc
     rw [if_neg (fun hh=>hh hz),if_neg (by simpa using hc),hz]
    ·rw [if_pos hz]
  unfold F_j
  rw [hmod]
  rw [hce] at st5
  refine k _ _ w5 ⟨r',rfl,fun h0=> ?_⟩ (fun h0=> ?_) O_ O_ st5
  ·have hc0:(varR d.r).1.code=0:=by rw [←rv'.code,hce]; exact h0
   refine⟨by rw [hkey]; exact rv',?_⟩
   rw [hkey]; exact GdD.of fun _=>hc0
  ·rw [hn1 h0]
   have hc0:r'.Code=0:=by rw [hce]; exact h0
   rw [hc0] at hc
   have hc:¬ (((varR d.r).2:Int)>65536):=by simpa using hc
   omega
theorem s_qd {R:Bool→WP} (st:St w0 ((b,cs)::fr) w) (o:TkA B xs d cs) (hs:zh w B 1 (xs.map bV)) (hl:B.len≤140737488351232)
    (k:∀ v cs' w',TkA B xs (if d.e≠0 then d else verD d) cs'→(d.e=0→v=decide ((fixR 1 d.r).2=1))→(d.e≠0→v=false)→St w0 ((b,cs')::fr) w'→R v w'):C_Ib (some ⟨b,0,none⟩) w R:=by
 apply S_nb
 unfold F_pd
 obtain⟨r,rfl,hsync⟩:=o
 refine⟨rfl,d.e,st.cell 0 rfl rfl,fun h=> ?_,fun h=> ?_⟩
 ·have h:d.e≠0:=by simpa using h
  rw [if_pos h] at k
  exact k _ _ w ⟨r,rfl,fun h0=>absurd h0 h⟩ (fun h0=>absurd h0 h) (fun _=>rfl) st
 have h:d.e=0:=by simpa using h
 rw [if_neg (fun hh=>hh h)] at k
 obtain⟨rv,hg⟩:=hsync h
 have hkey:verD d=⟨(fixR 1 d.r).1,if(fixR 1 d.r).1.code≠0 then(fixR 1 d.r).1.code else if decide (((fixR 1 d.r).2:Int)>1)=true then 4 else 0,(fixR 1 d.r).1.rest.length⟩:=z1h (hg h).2 h (z8i hg h)
 refine⟨rfl,r,⟨st.cell 0 rfl rfl,st.cell 0 rfl rfl,st.cell 0 rfl rfl,st.cell 0 rfl rfl,trivial⟩,s_e rv hs hl fun r' w1 rv' e1=> ?_⟩
 have hv1:((((fixR 1 d.r).2:Nat):Int)==1)=decide ((fixR 1 d.r).2=1):=by
  by_cases h1:(fixR 1 d.r).2=1
  ·rw [h1]; rfl
  ·rw [decide_eq_false h1,beq_eq_false_iff_ne]; omega
 refine z2h (st.keep e1) fun w5 st5=> ?_
 refine⟨rfl,r'.Code,st5.cell 0 rfl rfl,fun hc=> ?_,fun hc=> ?_⟩
 ·simp only [Bool.and_eq_true,beq_iff_eq,decide_eq_true_eq] at hc
  refine⟨rfl,st5.writable 0 rfl (Nat.le_of_ble_eq_true rfl),fun w7 hw7=> ?_⟩
  have st7:St w0 ((b,tkV r' 4)::fr) w7:=st5.put0 hw7
  unfold F_r
  rw [hv1]
  have he3:(verD d).e=4:=by
   rw [hkey]
   show(if(fixR 1 d.r).1.code≠0 then(fixR 1 d.r).1.code else if decide (((fixR 1 d.r).2:Int)>1)=true then 4 else 0)=4
   rw [if_neg (by rw [←rv'.code]; simp [hc.1]),if_pos (by simpa using hc.2)]
  exact k _ _ w7 ⟨r',by rw [he3],fun h0=>by rw [he3] at h0; cases h0⟩ (fun _=>rfl) (fun hne=>absurd h hne) st7
 ·have hce:r'.Code=(verD d).e:=by
    rw [hkey]
    show _=if(fixR 1 d.r).1.code≠0 then(fixR 1 d.r).1.code else if decide (((fixR 1 d.r).2:Int)>1)=true then 4 else 0
    rw [←rv'.code]
    by_cases hz:r'.Code=0
    ·rw [hz] at hc
     have hc:¬ (((fixR 1 d.r).2:Int)>1):=by simpa using hc
     rw [if_neg (fun hh=>hh hz),if_neg (by simpa using hc),hz]
    ·rw [if_pos hz]
  unfold F_r
  rw [hv1]
  rw [hce] at st5
  refine k _ _ w5 ⟨r',rfl,fun h0=> ?_⟩ (fun _=>rfl) (fun hne=>absurd h hne) st5
  have hc0:(fixR 1 d.r).1.code=0:=by rw [←rv'.code,hce]; exact h0
  refine⟨by rw [hkey]; exact rv',?_⟩
  rw [hkey]; exact GdD.of fun _=>hc0
end
theorem s_Uc {v:Ver} {w:World} {R:Bool→WP} (k:∀ w',Ext w w'→R (mayV v) w'):C_vc v w R:=by
 apply S_pc
 unfold F_xe
 intro b w1 hb hw
 have st:St ⟨w,[]⟩ [(b,verV v)] w1:=(St.start w).alloc hb hw
 have k:=k w1 st.ext
 have no:mayV v=false→R false w1:=fun h=>h ▸ k
 refine⟨v.Number,st.cell 0 rfl rfl,fun h1=>⟨v.Number,st.cell 0 rfl rfl,fun h2=>⟨v.Val,st.cell 0 rfl rfl,fun h3=>⟨v.Drop,st.cell 0 rfl rfl,fun h4=> ?_,fun h4=>⟨v.Val,st.cell 0 rfl rfl,?_⟩⟩,fun h3=> ?_⟩,fun h2=> ?_⟩,fun h1=> ?_⟩
 ·have h1:=of_decide_eq_true h1
  have h2:=of_decide_eq_true h2
  have h3:=of_decide_eq_true h3
  have e:mayV v=true:=by
   unfold mayV
   simp only [Bool.and_eq_true,Bool.or_eq_true,decide_eq_true_eq]
   exact⟨⟨⟨O_,O_⟩,O_⟩,.inl h4⟩
  rw [e] at k; exact k
 ·have h1:=of_decide_eq_true h1
  have h2:=of_decide_eq_true h2
  have h3:=of_decide_eq_true h3
  have e:mayV v=(((v.Val.size:Nat):Int)==0):=by
   unfold mayV
   rw [decide_eq_true (show 1≤v.Number by omega),decide_eq_true (show v.Number≤65536 by omega),decide_eq_true (show v.Val.size≤1024 by omega),h4]
   show decide (v.Val.size=0)=_
   by_cases h0:v.Val.size=0
   ·rw [decide_eq_true h0,h0]; rfl
   ·rw [decide_eq_false h0]; symm; simpa using h0
  rw [e] at k; exact k
 ·have h3:=of_decide_eq_false h3
  exact no (by unfold mayV; rw [decide_eq_false (show ¬ v.Val.size≤1024 by omega),Bool.and_false]; rfl)
 ·have h2:=of_decide_eq_false h2
  exact no (by unfold mayV; rw [decide_eq_false (show ¬ v.Number≤65536 by omega),Bool.and_false]; rfl)
 ·have h1:=of_decide_eq_false h1
  exact no (by unfold mayV; rw [decide_eq_false (show ¬ 1≤v.Number by omega)]; rfl)
theorem s_1b {s:Slc} {vs:List Ver} {w:World} {R:Int→WP} (hs:zh w s 3 (vs.flatMap verV)) (hl:s.len≤4398046511104) (k:∀ w',Ext w w'→R (if okC 0 vs=true then 0 else 1) w'):C_T s w R:=by
 apply S_7b
 unfold F_be
 have hsl:=z2c hs
 refine⟨fun i w'=>∃ p:Nat,i=(p:Int)∧p≤s.len∧okC 0 vs=okC (if p=0 then 0 else((vs[p - 1]?).map (·.Number)).getD 0) (vs.drop p)∧Ext w w',fun i _=>s.len - i.toNat,⟨0,rfl,O_,rfl,Ext.refl _⟩,?_⟩
 rintro i w1 ⟨p,rfl,hp,hok,e⟩
 unfold F_Bc
 refine⟨fun hi w3 hd=> ?_,fun hi=> ?_⟩
 ·have hi:=of_decide_eq_true hi
  have e3:Ext w w3:=e.trans (Qt.ext hd)
  obtain⟨a,v,hv,hc⟩:=zDd (e3.src hs) (i:=p) O_
  have hpl:=(List.getElem?_eq_some_iff.1 hv).1
  have hdc:vs.drop p=v::vs.drop (p+1):=by
   rw [List.drop_eq_getElem_cons hpl]
   rw [List.getElem?_eq_getElem hpl] at hv
   rw [Option.some.inj hv]
  rw [hdc,okC] at hok
  have wp:IntKind.i64.wrap ((p:Int)+1)=((p+1:Nat):Int):=by rw [i64_in _ O_ O_]; omega
  obtain⟨prev,hprev⟩:∃ prev,prev=(if p=0 then 0 else((vs[p - 1]?).map (·.Number)).getD 0):=⟨_,rfl⟩
  rw [←hprev] at hok
  refine⟨a,O_,hi,v,by rw [Int.toNat_natCast]; exact hc,s_Uc fun w4 e4=> ?_⟩
  have e4:=e3.trans e4
  have bad:(mayV v&&decide (prev<v.Number))=false→R 1 w4:=fun h=>by
   have:=k w4 e4
   rw [hok,h] at this
   exact this
  have good:(mayV v&&decide (prev<v.Number))=true→∃ q:Nat,((p+1:Nat):Int)=(q:Int)∧q≤s.len∧okC 0 vs=okC (if q=0 then 0 else((vs[q - 1]?).map (·.Number)).getD 0) (vs.drop q)∧Ext w w4:=fun h=>by
   refine⟨p+1,rfl,O_,?_,e4⟩
   rw [hok,h,if_neg O_,Nat.add_sub_cancel,hv]; rfl
  unfold F_V
  rw [wp]
  refine⟨fun h=>⟨fun _=>bad (by simp at h; rw [h]; rfl),fun h=>(by cases h)⟩,fun hm=>⟨fun h0=> ?_,fun h0=>⟨fun h=>(by cases h),fun _=>⟨good ?_,by show _ - _<_ - _; omega⟩⟩⟩⟩
  ·have hm:mayV v=true:=by simpa using hm
   have h0:=of_decide_eq_true h0
   have wm:IntKind.i64.wrap ((p:Int) - 1)=((p - 1:Nat):Int):=by rw [i64_in _ O_ O_]; omega
   obtain⟨a',u,hu,hc'⟩:=zDd (e4.src hs) (i:=p - 1) O_
   obtain⟨a2,v2,hv2,hc2⟩:=zDd (e4.src hs) (i:=p) O_
   obtain rfl:v=v2:=by rw [hv] at hv2; exact Option.some.inj hv2
   have hpu:prev=u.Number:=by rw [hprev,if_neg O_,hu]; rfl
   rw [wm]
   refine⟨a',O_,O_,u.Number,by rw [Int.toNat_natCast]; exact zMi hc',a,O_,hi,v.Number,by rw [Int.toNat_natCast]; exact zMi hc2,fun h=> ?_,fun h=>⟨?_,by show _ - _<_ - _; omega⟩⟩
   ·have h:=of_decide_eq_true h
    exact bad (by rw [decide_eq_false O_,Bool.and_false])
   ·have h:=of_decide_eq_false h
    exact good (by rw [hm,decide_eq_true O_]; rfl)
  ·have hm:mayV v=true:=by simpa using hm
   have h0:=of_decide_eq_false h0
   have hpu:prev=0:=by rw [hprev,if_pos O_]
   have hn1:1≤v.Number:=by
    unfold mayV at hm
    simp only [Bool.and_eq_true,decide_eq_true_eq] at hm
    exact hm.1.1.1
   rw [hm,decide_eq_true O_]; rfl
 ·have hi:=of_decide_eq_false hi
  rw [List.drop_eq_nil_of_le O_,okC] at hok
  have:=k w1 e
  rw [hok] at this; exact this
theorem s_Vc {s:ByteArray} {w:World} {R:Bool→WP} (h:R (decide (((s.size:Nat):Int)≥1)&&decide (((s.size:Nat):Int)≤64)) w):C_uc s w R:=by
 apply S_qc
 exact h
section
variable {w:World}
theorem zud:∀ {l:List Int} {t:Int},z5e t l↔(∀(i:Nat) (n:Int),l[i]? =some n→t<n∧n≤65536)∧∀(i:Nat) (a b:Int),l[i]? =some a→l[i+1]? =some b→a<b
 | [],t=>⟨fun _=>⟨fun i n h=>by simp at h,fun i a b h=>by simp at h⟩,fun _=>trivial⟩
 | x::r,t=>by
  constructor
  ·intro h
   obtain⟨g1,g2⟩:=zKc h
   refine⟨fun i n hi=>g1 n (List.mem_of_getElem? hi),fun i a b ha hb=> ?_⟩
   obtain⟨k1,rfl⟩:=List.getElem?_eq_some_iff.1 ha
   obtain⟨k2,rfl⟩:=List.getElem?_eq_some_iff.1 hb
   exact(List.pairwise_iff_getElem.1 g2) i (i+1) k1 k2 O_
  ·rintro⟨h1,h2⟩
   have hx:=h1 0 x rfl
   refine⟨hx.1,hx.2,zud.2 ⟨fun i n hi=>⟨?_,(h1 (i+1) n hi).2⟩,fun i a b ha hb=>h2 (i+1) a b ha hb⟩⟩
   induction i generalizing n with
   | zero=>exact h2 0 x n rfl hi
   | succ i ih =>
    obtain⟨m,hm⟩:∃ m,r[i]? =some m:=⟨_,List.getElem?_eq_getElem (by have:=(List.getElem?_eq_some_iff.1 hi).1; omega)⟩
    have:=ih m hm
    have:=h2 (i+1) m n hm hi
    omega
theorem s_Wc {mark:Int} {s:Slc} {xs:List Int} {R:Bool→WP} (hs:zh w s 1 (xs.map Vi)) (hl:s.len≤17592186044416) (k1:(0≤mark∧mark≤65536)→z5e (mark+1) xs→∀ w',Ext w w'→R true w') (k0:¬ ((0≤mark∧mark≤65536)∧z5e (mark+1) xs)→∀ w',Ext w w'→R false w'):C_qc mark s w R:=by
 apply S_rc
 unfold F_ue
 have hlen:=hs.len_eq
 refine⟨fun h=> ?_,fun h=> ?_⟩
 ·simp only [Bool.or_eq_true,decide_eq_true_eq] at h
  exact k0 (fun hk=>by omega) w (Ext.refl _)
 simp only [Bool.or_eq_false_iff,decide_eq_false_iff_not] at h
 refine⟨fun i w'=>∃ p:Nat,i=(p:Int)∧p≤s.len∧(∀(i:Nat) (n:Int),i<p→xs[i]? =some n→mark+1<n∧n≤65536)∧(∀(i:Nat) (a b:Int),i+1<p→xs[i]? =some a→xs[i+1]? =some b→a<b)∧Ext w w',fun i _=>s.len - i.toNat,⟨0,rfl,O_,fun i n h=>absurd h (Nat.not_lt_zero i),fun i a b h=>by omega,Ext.refl _⟩,?_⟩
 rintro i w1 ⟨p,rfl,hp,hr,hq,e⟩
 unfold F_9c
 refine⟨fun hi=> ?_,fun hi=> ?_⟩
 rotate_left
 ·have hi:=of_decide_eq_false hi
  refine k1 O_ (zud.2 ⟨fun i n hn=>hr i n (by have:=(List.getElem?_eq_some_iff.1 hn).1; omega) hn,fun i a b ha hb=>hq i a b (by have:=(List.getElem?_eq_some_iff.1 hb).1; omega) ha hb⟩) w1 e
 have hi:=of_decide_eq_true hi
 have wp:IntKind.i64.wrap ((p:Int)+1)=((p+1:Nat):Int):=by rw [i64_in _ O_ O_]; omega
 obtain⟨a,x,hx,hc⟩:=zh.get (i:=(p:Int)) (e.src hs) O_ hi
 rw [Int.toNat_natCast] at hx
 have bad:¬ (mark+1<x∧x≤65536)→∀ w',Ext w1 w'→R false w':=fun hn w' e'=>k0 (fun hk=>hn ((zud.1 hk.2).1 p x hx)) w' (e.trans e')
 rw [i64_in (mark+2) O_ O_]
 unfold F_P
 refine⟨a,O_,hi,x,hc,fun h1 w3 e3=>⟨fun _=>bad (fun hn=>by have h1:=of_decide_eq_true h1; omega) w3 e3,fun h=>(by cases h)⟩,fun h1=>⟨a,O_,hi,x,hc,fun h2 w4 e4=>⟨fun _=>bad (fun hn=>by have h2:=of_decide_eq_true h2; omega) w4 e4,fun h=>(by cases h)⟩,fun h2=>⟨fun h0=> ?_,fun h0 w6 e6=>⟨fun h=>(by cases h),fun _=> ?_⟩⟩⟩⟩
 ·have h1:=of_decide_eq_false h1
  have h2:=of_decide_eq_false h2
  have h0:=of_decide_eq_true h0
  have wm:IntKind.i64.wrap ((p:Int) - 1)=((p - 1:Nat):Int):=by rw [i64_in _ O_ O_]; omega
  obtain⟨a',y,hy,hcy⟩:=zh.get (i:=((p - 1:Nat):Int)) (e.src hs) O_ O_
  rw [Int.toNat_natCast] at hy
  rw [wm]
  refine⟨a',O_,O_,y,hcy,a,O_,hi,x,hc,fun w5 e5=>⟨fun h=> ?_,fun h=> ?_⟩⟩
  ·have h:=of_decide_eq_true h
   refine k0 (fun hk=> ?_) w5 (e.trans e5)
   have:=(zud.1 hk.2).2 (p - 1) y x hy (by rw [show p - 1+1=p from by omega]; exact hx)
   omega
  ·have h:=of_decide_eq_false h
   rw [wp]
   refine⟨⟨p+1,rfl,O_,fun i n hi hn=> ?_,fun i a b hi ha hb=> ?_,e.trans e5⟩,by show _ - _<_ - _; omega⟩
   ·rcases Nat.lt_or_ge i p with h3 | h3
    ·exact hr i n h3 hn
    ·obtain rfl:i=p:=O_
     rw [hx] at hn; obtain rfl:=Option.some.inj hn
     exact⟨O_,O_⟩
   ·rcases Nat.lt_or_ge (i+1) p with h3 | h3
    ·exact hq i a b h3 ha hb
    ·obtain rfl:i=p - 1:=O_
     rw [hy] at ha; obtain rfl:=Option.some.inj ha
     rw [show p - 1+1=p from by omega,hx] at hb; obtain rfl:=Option.some.inj hb
     omega
 ·have h1:=of_decide_eq_false h1
  have h2:=of_decide_eq_false h2
  have h0:=of_decide_eq_false h0
  rw [wp]
  refine⟨⟨p+1,rfl,O_,fun i n hi hn=> ?_,fun i a b hi ha hb=>by omega,e.trans e6⟩,by show _ - _<_ - _; omega⟩
  obtain rfl:i=p:=O_
  rw [hx] at hn; obtain rfl:=Option.some.inj hn
  exact⟨O_,O_⟩
theorem s_Fd {s:Slc} {xs:List Int} {n:Int} {R:Bool→WP} (hs:zh w s 1 (xs.map Vi)) (hl:s.len≤17592186044416) (k:R (decide (n∈xs)) w):C_gc s n w R:=by
 apply S_6b
 unfold F_9d
 have hlen:=hs.len_eq
 refine⟨fun i w'=>∃ p:Nat,i=(p:Int)∧p≤s.len∧(∀(i:Nat) (x:Int),i<p→xs[i]? =some x→x≠n)∧w'=w,fun i _=>s.len - i.toNat,⟨0,rfl,O_,fun i n h=>absurd h (Nat.not_lt_zero i),rfl⟩,?_⟩
 rintro i w1 ⟨p,rfl,hp,hr,rfl⟩
 unfold F_zc
 refine⟨fun hi=> ?_,fun hi=> ?_⟩
 ·have hi:=of_decide_eq_true hi
  have wp:IntKind.i64.wrap ((p:Int)+1)=((p+1:Nat):Int):=by rw [i64_in _ O_ O_]; omega
  obtain⟨a,x,hx,hc⟩:=zh.get (i:=(p:Int)) hs O_ hi
  rw [Int.toNat_natCast] at hx
  refine⟨a,O_,hi,x,hc,fun h=> ?_,fun h=> ?_⟩
  ·obtain rfl:x=n:=by simpa using h
   rw [decide_eq_true (List.mem_of_getElem? hx)] at k; exact k
  ·have h:x≠n:=by simpa using h
   rw [wp]
   refine⟨⟨p+1,rfl,O_,fun i y hi hy=> ?_,rfl⟩,by show _ - _<_ - _; omega⟩
   rcases Nat.lt_or_ge i p with h3 | h3
   ·exact hr i y h3 hy
   ·obtain rfl:i=p:=O_
    rw [hx] at hy; obtain rfl:=Option.some.inj hy; exact h
 ·have hi:=of_decide_eq_false hi
  rw [decide_eq_false (fun hm=>by
   obtain⟨i,hi2⟩:=List.mem_iff_getElem?.1 hm
   exact hr i n (by have:=(List.getElem?_eq_some_iff.1 hi2).1; omega) hi2 rfl)] at k
  exact k
end
/-- A key with its versions is put behind. -/
theorem HdsO.append {sl s2:Slc} {hs:List Hd} {hc rb l:List zf} {h:Hd} {w0:Base} {w:World} {K:Slc→WP} (hh:HdsO sl hs hc) (st:St w0 (hc++(rb++l)) w) (hv:InV h s2 rb) (hl:hs.length≤1099511627776)
    (k:∀ sl' hc' w',HdsO sl' (hs++[h]) hc'→St w0 (hc'++l) w'→K sl' w'):zj 2 40 y_d [Value.string ByteArray.empty,Value.slice none 0 0] sl (hldT (h.1,s2)) 1 w K:=by
 obtain⟨vsl,tb,pb,rfl,rt,ps⟩:=hh
 have hvl:=ps.len
 have htl:sl.len=hs.length:=by
  have:=rt.len
  rw [zme (sz:=2) (fun _=>rfl) hvl] at this
  omega
 have st1:St w0 (tb++(pb++(rb++l))) w:=st.pq
 refine rt.append st1 rfl rfl rfl (by rw [htl]; omega) fun sl' tb' w2 rt' st2 hl2=> ?_
 refine k sl' (tb'++(pb++rb)) w2 ⟨vsl++[s2],tb',pb++rb,rfl,?_,ps.snoc hv⟩ (st2.pq)
 rw [z4h (f:=fun p:Hd×Slc=>hdV p.1.1 p.2) hvl]
 exact rt'
theorem zih {hs:List Hd} {h:Hd} (h1:z5b hs) (hg:zkj h) (hp:∀ q,hs[hs.length - 1]? =some q→zne q h):z5b (hs++[h]):=by
 refine⟨fun x hx=> ?_,List.pairwise_append.2 ⟨h1.2,List.pairwise_singleton ..,fun x hx y hy=> ?_⟩⟩
 ·rcases List.mem_append.1 hx with hx | hx
  ·exact h1.1 x hx
  ·rw [List.mem_singleton.1 hx]; exact hg
 ·rw [List.mem_singleton.1 hy]
  obtain⟨j,hj⟩:=List.mem_iff_getElem?.1 hx
  obtain⟨g1,e1⟩:=List.getElem?_eq_some_iff.1 hj
  obtain⟨q,hq⟩:∃ q,hs[hs.length - 1]? =some q:=⟨_,List.getElem?_eq_getElem O_⟩
  have hl:=hp q hq
  by_cases hjp:j=hs.length - 1
  ·rw [hjp,hq] at hj
   obtain rfl:=Option.some.inj hj
   exact hl
  ·obtain⟨g2,e2⟩:=List.getElem?_eq_some_iff.1 hq
   have:=(List.pairwise_iff_getElem.1 h1.2) j (hs.length - 1) g1 g2 O_
   rw [e1,e2] at this
   exact z4e this hl
instance (k:ByteArray):Decidable (mayK k):=inferInstanceAs (Decidable (1≤k.size∧k.size≤64))
theorem zwk (k:ByteArray):(decide (((k.size:Nat):Int)≥1)&&decide (((k.size:Nat):Int)≤64))=decide (mayK k):=by
 by_cases h:mayK k
 ·have h1:=h.1
  have h2:=h.2
  rw [decide_eq_true h,decide_eq_true O_,decide_eq_true O_]; rfl
 ·rw [decide_eq_false h]
  unfold mayK at h
  by_cases h1:1≤k.size
  ·rw [decide_eq_false (p:=((k.size:Nat):Int)≤64) O_,Bool.and_false]
  ·rw [decide_eq_false (p:=((k.size:Nat):Int)≥1) O_,Bool.false_and]
section
variable {w:World} {s:Slc} {os:List HO}
theorem HdAt.slen (ha:HdAt w s os):s.len=os.length:=by have:=ha.src.1; rw [zq (sz:=2) (fun _=>rfl)] at this; omega
theorem HdAt.at_ (ha:HdAt w s os) {p:Nat} (hp:p<s.len):IsAt s.ptr∧∃ o,os[p]? =some o∧ze w (pblk s.ptr) (poff s.ptr+p*2) (hoT o):=by
 obtain⟨a,o,ho,hc⟩:=zh.getN ha.src (fun _=>rfl) D_ (i:=(p:Int)) O_ O_
 rw [Int.toNat_natCast] at ho hc
 exact⟨a,o,ho,hc⟩
theorem s_Xc {R:Bool→WP} (ha:HdAt w s os) (hl:s.len≤17592186044416) (hv:∀ o∈os,o.2.2.len≤4398046511104) (k1:z5b (os.map hoD)→∀ w',Ext w w'→R true w') (k0:¬ z5b (os.map hoD)→∀ w',Ext w w'→R false w'):C_rc s w R:=by
 apply S_sc
 unfold F_ve
 have hsl:=ha.slen
 refine⟨fun i w'=>∃ p:Nat,i=(p:Int)∧p≤s.len∧z5b ((os.map hoD).take p)∧Ext w w',fun i _=>s.len - i.toNat,⟨0,rfl,O_,⟨fun h hh=>by simp at hh,by simp⟩,Ext.refl _⟩,?_⟩
 rintro i w1 ⟨p,rfl,hp,hok,e⟩
 unfold F_ad
 refine⟨fun hi w3 hd=> ?_,fun hi=> ?_⟩
 rotate_left
 ·have hi:=of_decide_eq_false hi
  rw [List.take_of_length_le (by rw [List.length_map]; omega)] at hok
  exact k1 hok w1 e
 have hi:=of_decide_eq_true hi
 have e3:Ext w w3:=e.trans (Qt.ext hd)
 have wp:IntKind.i64.wrap ((p:Int)+1)=((p+1:Nat):Int):=by rw [i64_in _ O_ O_]; omega
 obtain⟨a,o,ho,hc⟩:=(ha.ext e3).at_ (p:=p) O_
 have hom:=List.mem_of_getElem? ho
 have hod:=zjd ho
 have hodm:=List.mem_of_getElem? hod
 obtain⟨hov,hovl⟩:=ha.ver o hom
 have hvl:=hv o hom
 have hvlen:o.2.2.len=o.2.1.length:=z2c hov
 obtain⟨c0,c1,_⟩:=hc
 have htk:(os.map hoD).take (p+1)=(os.map hoD).take p++[hoD o]:=by rw [List.take_add_one,hod]; rfl
 have bad:¬ z5b (os.map hoD)→∀ {w4:World},Ext w w4→F_a R ((p:Nat):Int) (fun(i':Int) w'=>(∃ p:Nat,i'=(p:Int)∧p≤s.len∧z5b ((os.map hoD).take p)∧Ext w w')∧s.len - i'.toNat<s.len - ((p:Nat):Int).toNat) true w4:=fun hn {w4} e4=>by
  unfold F_a
  exact⟨fun _=>k0 hn w4 e4,fun h=>(by cases h)⟩
 have good:zkj (hoD o)→(0<p→∀ q,(os.map hoD)[p - 1]? =some q→zne q (hoD o))→∀ {w4:World},Ext w w4→F_a R ((p:Nat):Int) (fun(i':Int) w'=>(∃ p:Nat,i'=(p:Int)∧p≤s.len∧z5b ((os.map hoD).take p)∧Ext w w')∧s.len - i'.toNat<s.len - ((p:Nat):Int).toNat) false w4:=fun hg hpo {w4} e4=>by
  unfold F_a
  refine⟨fun h=>(by cases h),fun _=> ?_⟩
  rw [wp]
  refine⟨⟨p+1,rfl,O_,?_,e4⟩,by show _ - _<_ - _; omega⟩
  rw [htk]
  refine zih hok hg fun q hq=> ?_
  have hpl:((os.map hoD).take p).length=p:=by rw [List.length_take,List.length_map]; omega
  rw [hpl] at hq
  have hp0:0<p:=by have:=(List.getElem?_eq_some_iff.1 hq).1; omega
  rw [List.getElem?_take_of_lt O_] at hq
  exact hpo hp0 q hq
 have last:∀ {w4:World},Ext w3 w4→mayK o.1→(0<p→∀ q,(os.map hoD)[p - 1]? =some q→zne q (hoD o))→IsAt s.ptr∧0≤((p:Nat):Int)∧((p:Nat):Int)<((s.len:Nat):Int)∧(∃(v40:Slc),w4.cell? ⟨pblk s.ptr,(poff s.ptr+((p:Nat):Int).toNat*2)+1,none⟩=some (Vs v40)∧(((((v40.len:Nat):Int)==0)=true→F_a R ((p:Nat):Int) (fun(i':Int) w'=>(∃ p:Nat,i'=(p:Int)∧p≤s.len∧z5b ((os.map hoD).take p)∧Ext w w')∧s.len - i'.toNat<s.len - ((p:Nat):Int).toNat) true w4) ∧
     ((((v40.len:Nat):Int)==0)=false→IsAt s.ptr∧0≤((p:Nat):Int)∧((p:Nat):Int)<((s.len:Nat):Int)∧(∃(v49:Slc),w4.cell? ⟨pblk s.ptr,(poff s.ptr+((p:Nat):Int).toNat*2)+1,none⟩=some (Vs v49)∧C_T v49 w4 (fun(v50:Int) w5=>F_a R ((p:Nat):Int) (fun(i':Int) w'=>(∃ p:Nat,i'=(p:Int)∧p≤s.len∧z5b ((os.map hoD).take p)∧Ext w w')∧s.len - i'.toNat<s.len - ((p:Nat):Int).toNat) (v50 != 0) w5))))):=by
  intro w4 e4 hk hpo
  have c1':w4.cell? ⟨pblk s.ptr,(poff s.ptr+((p:Nat):Int).toNat*2)+1,none⟩=some (Vs o.2.2):=by rw [Int.toNat_natCast]; exact e4.cell c1
  refine⟨a,O_,hi,o.2.2,c1',fun h=>bad (fun hL=>(hL.1 _ hodm).2.1 ?_) (e3.trans e4),fun h=>⟨a,O_,hi,o.2.2,c1',s_1b ((e3.trans e4).src hov) hvl fun w5 e5=> ?_⟩⟩
  ·have h:((o.2.2.len:Nat):Int)=0:=by simpa using h
   exact List.eq_nil_of_length_eq_zero (by show o.2.1.length=0; omega)
  ·have h:((o.2.2.len:Nat):Int)≠0:=by simpa using h
   by_cases hC:okC 0 o.2.1=true
   ·rw [if_pos hC]
    refine good ⟨hk,fun e=> ?_,hC⟩ hpo ((e3.trans e4).trans e5)
    have e:o.2.1=[]:=e
    rw [e] at hvlen
    simp at hvlen; omega
   ·rw [if_neg hC]
    exact bad (fun hL=>hC (hL.1 _ hodm).2.2) ((e3.trans e4).trans e5)
 refine⟨a,O_,hi,o.1,by rw [Int.toNat_natCast]; exact c0,s_Vc ?_⟩
 rw [zwk]
 refine⟨fun h=>bad (fun hL=>by have:=(hL.1 _ hodm).1; rw [decide_eq_true this] at h; cases h) e3,fun h=> ?_⟩
 have hk:mayK o.1:=by simpa using h
 refine⟨fun h0=> ?_,fun h0=> ?_⟩
 ·have h0:=of_decide_eq_true h0
  have wm:IntKind.i64.wrap ((p:Int) - 1)=((p - 1:Nat):Int):=by rw [i64_in _ O_ O_]; omega
  obtain⟨a',q,hq,hcq⟩:=(ha.ext e3).at_ (p:=p - 1) O_
  have hqd:=zjd hq
  rw [wm]
  refine⟨a',O_,O_,q.1,by rw [Int.toNat_natCast]; exact hcq.1,a,O_,hi,o.1,by rw [Int.toNat_natCast]; exact c0,fun hb=>bad (fun hL=> ?_) e3,fun hb=> ?_⟩
  ·obtain⟨h1,e1⟩:=List.getElem?_eq_some_iff.1 hqd
   obtain⟨h2,e2⟩:=List.getElem?_eq_some_iff.1 hod
   have:=(List.pairwise_iff_getElem.1 hL.2) (p - 1) p h1 h2 O_
   rw [e1,e2] at this
   have this:Op.bytesLess q.1.toList o.1.toList=true:=this
   rw [this] at hb; cases hb
  ·have hb:Op.bytesLess q.1.toList o.1.toList=true:=by simpa using hb
   refine last (Ext.refl w3) hk fun _ q' hq'=> ?_
   rw [hqd] at hq'
   obtain rfl:=Option.some.inj hq'
   exact hb
 ·have h0:=of_decide_eq_false h0
  exact last (Ext.refl w3) hk fun h=>by omega
/-- May what a checkpoint says be, as the document has it. -/
theorem s_C {sv:T_b} {m:SvM} {R:Int→WP} (ha:SvAt w sv m os) (k:∀ w',Ext w w'→R (ckE m) w'):C_Gb sv w R:=by
 apply S_5b
 unfold F_6d
 intro b w1 hb hw1
 have st1:St ⟨w,[]⟩ [(b,svT sv)] w1:=(St.start w).alloc hb hw1
 have bad:¬ ckOk m→∀ w',Ext w w'→R 1 w':=fun hn w' e=>by have:=k w' e; rw [zPf hn] at this; exact this
 have hmk:=ha.mark
 refine⟨sv.Mark,st1.cell 0 rfl rfl,sv.Beyond,st1.cell 0 rfl rfl,s_Wc (st1.ext.src ha.bey) ha.blen (fun g1 g2 w2 e2=> ?_) (fun hn w2 e2=> ?_)⟩
 rotate_left
 ·unfold F_u
  exact⟨fun _=>⟨fun _=>bad (fun hk=>hn (by rw [hmk]; exact⟨hk.1,hk.2.1⟩)) w2 (st1.ext.trans e2),fun h=>(by cases h)⟩,fun h=>(by cases h)⟩
 refine⟨fun h=>(by cases h),fun _=> ?_⟩
 have st2:=st1.keep e2
 refine⟨sv.Held,st2.cell 0 rfl rfl,s_Xc (ha.held.ext st2.ext) ha.hlen ha.vlen (fun hL w3 e3=> ?_) (fun hn w3 e3=> ?_)⟩
 rotate_left
 ·unfold F_u
  exact⟨fun _=>bad (fun hk=>hn (by rw [ha.hos]; exact hk.2.2.1)) w3 (st2.ext.trans e3),fun h=>(by cases h)⟩
 unfold F_u
 refine⟨fun h=>(by cases h),fun _=> ?_⟩
 have st3:=st2.keep e3
 rw [ha.hos] at hL
 rw [hmk] at g1 g2
 have hsl:=ha.held.slen
 have hhl:=ha.hlen
 refine⟨fun i w'=>∃ p:Nat,i=(p:Int)∧p≤sv.Held.len∧(∀ h∈m.held.take p,okV m h)∧St ⟨w,[]⟩ [(b,svT sv)] w',fun i _=>sv.Held.len - i.toNat,⟨0,rfl,O_,fun h hh=>by simp at hh,st3⟩,?_⟩
 clear st3 st2 st1 e2 e3 hw1
 rintro i w4 ⟨p,rfl,hp,hall,st⟩
 unfold F_xc
 refine⟨sv.Held,st.cell 0 rfl rfl,fun hi=> ?_,fun hi=> ?_⟩
 rotate_left
 ·have hi:=of_decide_eq_false hi
  have hml:m.held.length=os.length:=by rw [←ha.hos,List.length_map]
  have e:m.held.take p=m.held:=List.take_of_length_le O_
  rw [e] at hall
  have:=k w4 st.ext
  rw [zOf ⟨g1,g2,hL,hall⟩] at this
  exact this
 have hi:=of_decide_eq_true hi
 have wp:IntKind.i64.wrap ((p:Int)+1)=((p+1:Nat):Int):=by rw [i64_in _ O_ O_]; omega
 obtain⟨a,o,ho,hc⟩:=(ha.held.ext st.ext).at_ (p:=p) O_
 have hom:=List.mem_of_getElem? ho
 have hod:m.held[p]? =some (hoD o):=by rw [←ha.hos]; exact zjd ho
 have hodm:=List.mem_of_getElem? hod
 obtain⟨hov,hovl⟩:=ha.held.ver o hom
 have hvl:=ha.vlen o hom
 have hvlen:o.2.2.len=o.2.1.length:=z2c hov
 refine⟨sv.Held,st.cell 0 rfl rfl,a,O_,hi,o.2.2,by rw [Int.toNat_natCast]; exact hc.2.1,?_⟩
 refine⟨fun i w'=>∃ q:Nat,i=(q:Int)∧q≤o.2.2.len∧(∀(i:Nat) (v:Ver),i<q→o.2.1[i]? =some v→(v.Number≤m.mark→i=0∧v.Drop=false)∧(m.mark<v.Number→v.Number∈m.bey))∧St ⟨w,[]⟩ [(b,svT sv)] w',fun i _=>o.2.2.len - i.toNat,
  ⟨0,rfl,O_,fun i v h=>absurd h (Nat.not_lt_zero i),st⟩,?_⟩
 clear st
 rintro i w5 ⟨q,rfl,hq,hvs,st⟩
 unfold F_wc
 refine⟨fun hi2=> ?_,fun hi2=> ?_⟩
 rotate_left
 ·have hi2:=of_decide_eq_false hi2
  rw [wp]
  refine⟨⟨p+1,rfl,O_,fun h hh=> ?_,st⟩,by show _ - _<_ - _; omega⟩
  rw [List.take_add_one,hod] at hh
  rcases List.mem_append.1 hh with hh | hh
  ·exact hall h hh
  ·obtain rfl:h=hoD o:=by simpa using hh
   exact fun i v hv=>hvs i v (by have h2:o.2.1[i]? =some v:=hv; have:=(List.getElem?_eq_some_iff.1 h2).1; omega) hv
 have hi2:=of_decide_eq_true hi2
 have wq:IntKind.i64.wrap ((q:Int)+1)=((q+1:Nat):Int):=by rw [i64_in _ O_ O_]; omega
 obtain⟨av,v,hv,hcv⟩:=zDd (st.ext.src hov) (i:=q) O_
 refine⟨av,O_,hi2,v.Number,by rw [Int.toNat_natCast]; exact zMi hcv,sv.Mark,st.cell 0 rfl rfl,fun w6 e6=> ?_⟩
 have st6:=st.keep e6
 have no:¬ ((v.Number≤m.mark→q=0∧v.Drop=false)∧(m.mark<v.Number→v.Number∈m.bey))→∀ w',Ext w w'→R 1 w':=fun hn=>bad fun hk=>hn (hk.2.2.2 _ hodm q v hv)
 have yes:((v.Number≤m.mark→q=0∧v.Drop=false)∧(m.mark<v.Number→v.Number∈m.bey))→∀ {w':World},St ⟨w,[]⟩ [(b,svT sv)] w'→F_T ((q:Nat):Int) (fun(k_':Int) w'=>(∃ q:Nat,k_'=(q:Int)∧q≤o.2.2.len∧(∀(i:Nat) (v:Ver),i<q→o.2.1[i]? =some v→(v.Number≤m.mark→i=0∧v.Drop=false)∧(m.mark<v.Number→v.Number∈m.bey))∧St ⟨w,[]⟩ [(b,svT sv)] w')∧o.2.2.len - k_'.toNat<o.2.2.len - ((q:Nat):Int).toNat) w':=fun hy {w'} st'=>by
  unfold F_T
  rw [wq]
  refine⟨⟨q+1,rfl,O_,fun i u hi hu=> ?_,st'⟩,by show _ - _<_ - _; omega⟩
  rcases Nat.lt_or_ge i q with h | h
  ·exact hvs i u h hu
  ·obtain rfl:i=q:=O_
   rw [hv] at hu
   obtain rfl:=Option.some.inj hu
   exact hy
 refine⟨fun hle=>⟨fun h0=> ?_,fun h0=> ?_⟩,fun hle w8 hd8=> ?_⟩
 ·have hle:=of_decide_eq_true hle
  have h0:=of_decide_eq_true h0
  unfold F_U
  exact⟨fun _=>no (fun hy=>by have:=(hy.1 O_).1; omega) w6 st6.ext,fun h=>(by cases h)⟩
 ·have hle:=of_decide_eq_true hle
  have h0:=of_decide_eq_false h0
  refine⟨av,O_,hi2,v.Drop,by rw [Int.toNat_natCast]; exact(e6.cells hcv).2.2.1,?_⟩
  unfold F_U
  refine⟨fun hd=>no (fun hy=>by have:=(hy.1 O_).2; rw [hd] at this; cases this) w6 st6.ext,fun hd=>yes ⟨fun _=>⟨O_,hd⟩,fun h=>by omega⟩ st6⟩
 ·have hle:=of_decide_eq_false hle
  have e8:Ext w6 w8:=Qt.ext hd8
  have st8:=st6.keep e8
  refine⟨sv.Beyond,st8.cell 0 rfl rfl,av,O_,hi2,v.Number,by rw [Int.toNat_natCast]; exact zMi ((e6.trans e8).cells hcv),s_Fd (st8.ext.src ha.bey) ha.blen ?_⟩
  refine⟨fun h=>no (fun hy=> ?_) w8 st8.ext,fun h=>yes ⟨fun h=>by omega,fun _=>by simpa using h⟩ st8⟩
  have:=hy.2 O_
  rw [decide_eq_true this] at h; cases h
end
theorem z4d {α:Type} {f:DS→α×DS} {n:Nat} {d:DS} (h:d.e≠0∨n=0):repM f n d=([],d):=by
 cases n with
 | zero=>rfl
 | succ n =>
  rcases h with h | h
  ·rw [repM,if_pos h]
  ·cases h
theorem zle {n:Nat} {d:DS} (h:d.e≠0∨n=0):z8 n d=([],d):=by
 cases n with
 | zero=>rfl
 | succ n =>
  rcases h with h | h
  ·rw [z8,if_pos h]
  ·cases h
theorem z8o {α:Type} {f:DS→α×DS} {n:Nat} {d:DS} (h:(repM f n d).2.e=0):d.e=0:=by
 by_cases hd:d.e=0
 ·exact hd
 ·rw [z4d (.inl hd)] at h; exact h
theorem z9o {d:DS} (h:(keyD d).e=0):d.e=0:=by
 by_cases hd:d.e=0
 ·exact hd
 ·unfold keyD at h; rw [if_neg hd] at h; exact h
theorem zap {d:DS} (h:(numM d).2.e=0):d.e=0:=by
 by_cases hd:d.e=0
 ·exact hd
 ·exact absurd h (zgd hd)
abbrev zS:List Value:=svT ⟨0,⟨none,0,0⟩,⟨none,0,0⟩⟩
section
variable {w0:Base} {w:World} {fr eb hc:List zf} {b1 b2 b3 b5:Nat} {B:Slc} {xs:List UInt8} {d:DS} {tc:List Value} {s:T_b} {m:SvM}
/-- All was taken: is it a checkpoint? -/
theorem s_lb {R:T_b→Int→WP} {i1:Int} {again_1:Int→WP} (st:St w0 ((b2,tc)::(b3,svT s)::(b1,zS)::(eb++(hc++fr))) w) (o:TkA B xs d tc) (hBl:B.len=xs.length)
    (hS:d.e=0→SavO s m eb hc∧(∀ x∈m.held,x.2.length≤1048576)∧m.bey.length≤17592186044416∧m.held.length≤17592186044416)
    (k:∀ s' eb' hc' w',SavO s' (finM d m).1 eb' hc'→St w0 (eb'++(hc'++fr)) w'→R s' (finM d m).2 w'):F_i R b1 b2 b3 i1 again_1 false w:=by
 unfold F_i
 refine⟨fun h=>(by cases h),fun _=> ?_⟩
 obtain⟨r,rfl,hsync⟩:=o
 have zero:∀ {l:List zf} {w':World} {c:Int},finM d m=(zSv,c)→St w0 ((b1,zS)::(l++fr)) w'→zd w' b1 0 3∧(∀ w2,w2=World.puts b1 0 zS w'→∃(res:T_b),ze w2 b1 0 (svT res)∧R res c w2):=fun {l w' c} hz st'=>by
  refine⟨st'.writable 0 rfl D_,fun w2 hw2=> ?_⟩
  have st2:St w0 ((b1,zS)::(l++fr)) w2:=st'.put0 hw2
  have kk:=k ⟨0,⟨none,0,0⟩,⟨none,0,0⟩⟩ [] [] w2 (by rw [hz]; exact SavO.zero) (by simpa using st2.weak ((b1,zS)::l) (l':=fr) (by simp))
  rw [hz] at kk
  exact⟨_,(st2.get 0 rfl).all,kk⟩
 refine⟨d.e,st.cell 0 rfl rfl,fun h=> ?_,fun h=> ?_⟩
 ·have h:d.e≠0:=by simpa using h
  intro w37 hd37
  have st37:=st.drew hd37
  have st37b:St w0 ((b1,zS)::((b2,tkV r d.e)::(b3,svT s)::(eb++hc)++fr)) w37:=st37.pq
  obtain⟨z1,z2⟩:=zero (c:=d.e) (by unfold finM; rw [if_pos h]) st37b
  refine⟨d.e,st37.cell 0 rfl rfl,z1,fun w38 hw38=>⟨?_,z2 w38 hw38⟩⟩
  have st38:St w0 ((b1,zS)::((b2,tkV r d.e)::(b3,svT s)::(eb++hc)++fr)) w38:=st37b.put0 hw38
  exact st38.cell 1 rfl rfl
 have h:d.e=0:=by simpa using h
 obtain⟨rv,hg⟩:=hsync h
 obtain⟨hSv,hb,hl1,hl2⟩:=hS h
 have hcode:=(hg h).1
 refine⟨r,⟨st.cell 0 rfl rfl,st.cell 0 rfl rfl,st.cell 0 rfl rfl,st.cell 0 rfl rfl,trivial⟩,s_Tc rv hBl fun w39 e39=> ?_⟩
 have st39:=st.keep e39
 have st39b:St w0 ((b1,zS)::((b2,tkV r d.e)::(b3,svT s)::(eb++hc)++fr)) w39:=st39.pq
 refine⟨fun hne=> ?_,fun heq=> ?_⟩
 ·have hne:d.r.end_≠0:=by simpa using hne
  refine zero (c:=4) ?_ st39b
  have hr:d.r.rest.length>0:=by
   unfold RS.end_ at hne
   by_cases hr:d.r.rest=[]
   ·rw [if_neg (fun hh=>hh.2 hr)] at hne; exact absurd hcode hne
   ·exact List.length_pos_iff.2 hr
  unfold finM; rw [if_neg (fun hh=>hh h),if_pos hr]
 have heq:d.r.end_=0:=by simpa using heq
 have hr:¬ d.r.rest.length>0:=fun hr=>by
  unfold RS.end_ at heq
  rw [if_pos ⟨hcode,List.length_pos_iff.1 hr⟩] at heq; cases heq
 obtain⟨os,hat⟩:=hSv.at_ hb hl1 hl2
 have sv39:SvAt w39 s m os:=hat (fr:=(b2,tkV r d.e)::(b3,svT s)::(b1,zS)::fr) (st39.pq)
 refine⟨s,(st39.get 1 rfl).all,s_C sv39 fun w41 e41=> ?_⟩
 have st41:=st39.keep e41
 have st41b:St w0 ((b1,zS)::((b2,tkV r d.e)::(b3,svT s)::(eb++hc)++fr)) w41:=st41.pq
 by_cases hk:ckOk m
 rotate_left
 ·rw [zPf hk]
  exact⟨fun _=>zero (c:=1) (by unfold finM; rw [if_neg (fun hh=>hh h),if_neg hr,if_neg hk]) st41b,fun hh=>(by simp at hh)⟩
 rw [zOf hk]
 have hfin:finM d m=(m,0):=by unfold finM; rw [if_neg (fun hh=>hh h),if_neg hr,if_pos hk]
 refine⟨fun hh=>(by simp at hh),fun _=>⟨s,(st41.get 1 rfl).all,st41b.writable 0 rfl D_,fun w43 hw43=> ?_⟩⟩
 have st43:St w0 ((b1,svT s)::((b2,tkV r d.e)::(b3,svT s)::(eb++hc)++fr)) w43:=st41b.put0 hw43
 have kk:=k s eb hc w43 (by rw [hfin]; exact hSv) (st43.wq [(b1,svT s),(b2,tkV r d.e),(b3,svT s)])
 rw [hfin] at kk
 exact⟨s,(st43.get 0 rfl).all,kk⟩
/-- A key's versions. -/
theorem s_Yc {i1:Int} {again_1:Int→WP} {n0:Nat} {d0:DS} {v60:Int} {key:ByteArray} {hacc:List Hd} (hsr:∀ l w',St w0 (l++fr) w'→zh w' B 1 (xs.map bV)) (hl:B.len≤140737488351232) (hcap:B.len≤B.cap)
    (hv:0≤v60∧v60≤65536) (hn:d0.e=0→(n0:Int)=v60) (o:TkA B xs d0 tc) (hh:HdsO s.Held hacc hc) (hhl:hacc.length≤1099511627776) (st:St w0 ((b2,tc)::(b5,[Value.string key,Value.slice none 0 0])::(b3,svT s)::(b1,zS)::(eb++(hc++fr))) w)
    (hag:∀ w' sl hc' tc' vl,TkA B xs (repM verM n0 d0).2 tc'→HdsO sl (hacc++[(key,vl)]) hc'→((repM verM n0 d0).2.e=0→vl=(repM verM n0 d0).1)→vl.length≤65536→St w0 ((b2,tc')::(b3,svT ⟨s.Mark,s.Beyond,sl⟩)::(b1,zS)::(eb++(hc'++fr))) w'→again_1 (IntKind.u64.wrap (i1+1)) w') :
    ∃(I:Int→WP) (μ:Int→World→Nat),I 0 w∧∀(k_:Int) w,I k_ w→F_Eb b2 b3 i1 again_1 b5 v60 (fun(k_':Int) w'=>I k_' w'∧μ k_' w'<μ k_ w) k_ w:=by
 refine⟨fun k w'=>∃(n:Nat) (d:DS) (vacc:List Ver) (tc:List Value) (vs:Slc) (vb:List zf),k=(vacc.length:Int)∧(vacc.length:Int)≤v60∧(d.e=0→(vacc.length:Int)+n=v60∧vacc++(repM verM n d).1=(repM verM n0 d0).1)∧(repM verM n d).2=(repM verM n0 d0).2∧TkA B xs d tc ∧
     RowC 3 vs (vacc.flatMap verV) vb∧St w0 ((b2,tc)::(b5,[Value.string key,Vs vs])::(b3,svT s)::(b1,zS)::(vb++(eb++(hc++fr)))) w',fun k _=>(v60 - k).toNat,
  ⟨n0,d0,[],tc,⟨none,0,0⟩,[],rfl,by simpa using hv.1,fun h=>⟨by simpa using hn h,rfl⟩,rfl,o,RowC.nil,by simpa using st⟩,?_⟩
 clear st o
 rintro k w1 ⟨n,d,vacc,tc,vs,vb,rfl,hvl,hA,hD,o,rv,st⟩
 have sr:∀ {l:List zf} {w':World},St w0 (l++(vb++(eb++(hc++fr)))) w'→zh w' B 1 (xs.map bV):=fun {l w'} st'=>hsr (l++(vb++(eb++hc))) w' (st'.pq)
 have ends:(d.e≠0∨n=0)→F_s b2 b3 i1 again_1 b5 ((vacc.length:Nat):Int) (fun(k_':Int) w'=>(∃(n:Nat) (d:DS) (vacc:List Ver) (tc:List Value) (vs:Slc) (vb:List zf),k_'=(vacc.length:Int)∧(vacc.length:Int)≤v60∧(d.e=0→(vacc.length:Int)+n=v60∧vacc++(repM verM n d).1=(repM verM n0 d0).1)∧(repM verM n d).2=(repM verM n0 d0).2∧TkA B xs d tc ∧
     RowC 3 vs (vacc.flatMap verV) vb∧St w0 ((b2,tc)::(b5,[Value.string key,Vs vs])::(b3,svT s)::(b1,zS)::(vb++(eb++(hc++fr)))) w')∧(v60 - k_').toNat<(v60 - ((vacc.length:Nat):Int)).toNat) false w1:=fun hend=>by
  rw [z4d hend] at hD hA
  have hD:d=(repM verM n0 d0).2:=hD
  unfold F_s
  refine⟨fun h=>(by cases h),fun _=> ?_⟩
  have st1:St w0 ((b3,svT s)::(b5,[Value.string key,Vs vs])::(b2,tc)::(b1,zS)::(vb++(eb++(hc++fr)))) w1:=st.pq
  refine⟨s.Held,st1.cell 0 rfl rfl,⟨key,vs⟩,⟨st1.cell 1 rfl rfl,st1.cell 1 rfl rfl,trivial⟩,fun b8 w34 hb8 hw34=>⟨hldT (key,vs),zY hb8 hw34 rfl,?_⟩⟩
  have st2:=st1.alloc (cs:=hldT (key,vs)) hb8 hw34
  have st2:St w0 (hc++(vb++((b3,svT s)::(b2,tc)::(b1,zS)::(eb++fr)))) w34:=st2.weak [(b8,hldT (key,vs)),(b5,[Value.string key,Vs vs])] (zc fun f_=>by simp <;> omega)
  have hin:InV (key,vacc) vs vb:=rv
  refine hh.append (h:=(key,vacc)) st2 hin hhl fun sl hc' w35 hh' st3=> ?_
  have st3:St w0 ((b3,svT s)::(b2,tc)::(b1,zS)::(hc'++(eb++fr))) w35:=st3.pq
  refine⟨st3.writable 0 rfl (Nat.le_of_ble_eq_true rfl),fun w36 hw36=> ?_⟩
  have st4:St w0 ((b3,svT ⟨s.Mark,s.Beyond,sl⟩)::(b2,tc)::(b1,zS)::(hc'++(eb++fr))) w36:=st3.put0 hw36
  refine hag w36 sl hc' tc vacc (by rw [←hD]; exact o) hh' (fun h0=> ?_) O_ (st4.pq)
  rw [←hD] at h0
  have:=(hA h0).2
  rw [List.append_nil] at this; exact this
 unfold F_Eb
 refine⟨fun hi=> ?_,fun hi=> ?_⟩
 rotate_left
 ·have hi:=of_decide_eq_false hi
  refine ends ?_
  by_cases he:d.e=0
  ·exact .inr (by have:=(hA he).1; omega)
  ·exact .inl he
 have hi:=of_decide_eq_true hi
 obtain⟨r,hr⟩:∃ r:RfR,tc=tkV r d.e:=by obtain⟨r,h,_⟩:=o; exact⟨r,h⟩
 refine⟨d.e,by rw [hr] at st; exact st.cell 0 rfl rfl,?_⟩
 by_cases he:d.e=0
 rotate_left
 ·rw [beq_eq_false_iff_ne.2 he]; exact ends (.inl he)
 rw [he,beq_self_eq_true]
 obtain⟨hA1,hA2⟩:=hA he
 obtain⟨n,rfl⟩:∃ n',n=n'+1:=⟨n - 1,O_⟩
 have hrep:repM verM (n+1) d=((verM d).1::(repM verM n (verM d).2).1,(repM verM n (verM d).2).2):=by rw [repM,if_neg (fun hh=>hh he)]
 rw [hrep] at hA2 hD
 have hD:(repM verM n (verM d).2).2=(repM verM n0 d0).2:=hD
 -- what is put behind
 have put:∀ {w28:World} {b6:Nat} {v:Ver} {tc':List Value},TkA B xs (verM d).2 tc'→((verM d).2.e=0→v=(verM d).1)→St w0 ((b6,verV v)::(b2,tc')::(b5,[Value.string key,Vs vs])::(b3,svT s)::(b1,zS)::(vb++(eb++(hc++fr)))) w28 →
     F_O b5 ((vacc.length:Nat):Int) (fun(k_':Int) w'=>(∃(n:Nat) (d:DS) (vacc:List Ver) (tc:List Value) (vs:Slc) (vb:List zf),k_'=(vacc.length:Int)∧(vacc.length:Int)≤v60∧(d.e=0→(vacc.length:Int)+n=v60∧vacc++(repM verM n d).1=(repM verM n0 d0).1)∧(repM verM n d).2=(repM verM n0 d0).2∧TkA B xs d tc ∧
     RowC 3 vs (vacc.flatMap verV) vb∧St w0 ((b2,tc)::(b5,[Value.string key,Vs vs])::(b3,svT s)::(b1,zS)::(vb++(eb++(hc++fr)))) w')∧(v60 - k_').toNat<(v60 - ((vacc.length:Nat):Int)).toNat) b6 w28:=by
  intro w28 b6 v tc' o' hv' st28
  unfold F_O
  refine⟨vs,st28.cell 2 rfl rfl,v,(st28.get 0 rfl).all,fun b7 w29 hb7 hw29=>⟨verV v,zY hb7 hw29 rfl,?_⟩⟩
  have st29:=st28.alloc (cs:=verV v) hb7 hw29
  have st29:St w0 (vb++((b5,[Value.string key,Vs vs])::(b2,tc')::(b3,svT s)::(b1,zS)::(eb++(hc++fr)))) w29:=st29.wq [(b7,verV v),(b6,verV v)]
  have hvsl:vs.len=vacc.length:=by have:=rv.len; rw [zq (sz:=3) (fun _=>rfl)] at this; omega
  refine rv.append st29 rfl rfl rfl (by rw [hvsl]; omega) fun vs' vb' w30 rv' st30 hl30=> ?_
  have st30:St w0 ((b5,[Value.string key,Vs vs])::(b2,tc')::(b3,svT s)::(b1,zS)::(vb'++(eb++(hc++fr)))) w30:=st30.pq
  refine⟨st30.writable 0 rfl (Nat.le_of_ble_eq_true rfl),fun w31 hw31=> ?_⟩
  have st31:St w0 ((b5,[Value.string key,Vs vs'])::(b2,tc')::(b3,svT s)::(b1,zS)::(vb'++(eb++(hc++fr)))) w31:=st30.put0 hw31
  have wk:IntKind.i64.wrap ((vacc.length:Int)+1)=(((vacc++[v]).length:Nat):Int):=by rw [i64_in _ O_ O_,List.length_append]; rfl
  rw [wk]
  have hlen1:(vacc++[v]).length=vacc.length+1:=by rw [List.length_append]; rfl
  refine⟨⟨n,(verM d).2,vacc++[v],tc',vs',vb',rfl,O_,fun h0=>⟨O_,?_⟩,hD,o',by rw [List.flatMap_append,List.flatMap_cons,List.flatMap_nil,List.append_nil]; exact rv',st31.pq⟩,O_⟩
  rw [←hA2,hv' h0,List.append_assoc]; rfl
 unfold F_s
 refine⟨fun _=> ?_,fun h=>(by cases h)⟩
 refine s_g st o (sr (l:=[(b2,tc),(b5,[Value.string key,Vs vs]),(b3,svT s),(b1,zS)]) st) hl fun v74 tcA w23 oA hvA hv0 hv1 st23 b6 w24 hb6 hw24=> ?_
 have st24:=st23.alloc (cs:=verV ⟨0,ByteArray.empty,false⟩) hb6 hw24
 refine⟨st24.writable 0 rfl D_,fun w25 hw25=> ?_⟩
 have st25:St w0 ((b6,verV ⟨v74,ByteArray.empty,false⟩)::(b2,tcA)::(b5,[Value.string key,Vs vs])::(b3,svT s)::(b1,zS)::(vb++(eb++(hc++fr)))) w25:=st24.put0 hw25
 have st25:St w0 ((b2,tcA)::(b6,verV ⟨v74,ByteArray.empty,false⟩)::(b5,[Value.string key,Vs vs])::(b3,svT s)::(b1,zS)::(vb++(eb++(hc++fr)))) w25:=st25.pq
 refine s_qd st25 oA (sr (l:=[(b2,tcA),(b6,verV ⟨v74,ByteArray.empty,false⟩),(b5,[Value.string key,Vs vs]),(b3,svT s),(b1,zS)]) st25) hl fun v77 tcB w26 oB hvB hvB0 st26=> ?_
 have st26:St w0 ((b6,verV ⟨v74,ByteArray.empty,false⟩)::(b2,tcB)::(b5,[Value.string key,Vs vs])::(b3,svT s)::(b1,zS)::(vb++(eb++(hc++fr)))) w26:=st26.pq
 refine⟨st26.writable 0 rfl (Nat.le_of_ble_eq_true rfl),fun w27 hw27=> ?_⟩
 have st27:St w0 ((b6,verV ⟨v74,ByteArray.empty,v77⟩)::(b2,tcB)::(b5,[Value.string key,Vs vs])::(b3,svT s)::(b1,zS)::(vb++(eb++(hc++fr)))) w27:=st26.put0 hw27
 refine⟨v77,st27.cell 0 rfl rfl,fun hv=> ?_,fun hv=> ?_⟩
 ·have hv:v77=false:=by simpa using hv
  have st27b:St w0 ((b2,tcB)::(b6,verV ⟨v74,ByteArray.empty,v77⟩)::(b5,[Value.string key,Vs vs])::(b3,svT s)::(b1,zS)::(vb++(eb++(hc++fr)))) w27:=st27.pq
  refine s_kb st27b oB (sr (l:=[(b2,tcB),(b6,verV ⟨v74,ByteArray.empty,v77⟩),(b5,[Value.string key,Vs vs]),(b3,svT s),(b1,zS)]) st27b) hl hcap D_ D_ fun v83 tcC w32 oC hvC st32=> ?_
  have st32:St w0 ((b6,verV ⟨v74,ByteArray.empty,v77⟩)::(b2,tcC)::(b5,[Value.string key,Vs vs])::(b3,svT s)::(b1,zS)::(vb++(eb++(hc++fr)))) w32:=st32.pq
  refine⟨st32.writable 0 rfl (Nat.le_of_ble_eq_true rfl),fun w33 hw33=> ?_⟩
  have st33:St w0 ((b6,verV ⟨v74,v83,v77⟩)::(b2,tcC)::(b5,[Value.string key,Vs vs])::(b3,svT s)::(b1,zS)::(vb++(eb++(hc++fr)))) w33:=st32.put0 hw33
  have hver:(if(if(numM d).2.e≠0 then(numM d).2 else verD (numM d).2).e≠0 then(if(numM d).2.e≠0 then(numM d).2 else verD (numM d).2) else txtD 1024 (if(numM d).2.e≠0 then(numM d).2 else verD (numM d).2))=(verM d).2∧((verM d).2.e=0→(⟨v74,v83,v77⟩:Ver)=(verM d).1):=by
   by_cases h1:(numM d).2.e≠0
   ·have hm:(verM d).2=(numM d).2:=by unfold verM; rw [if_pos h1]
    rw [if_pos h1,if_pos h1,hm]
    exact⟨rfl,fun h0=>absurd h0 h1⟩
   ·have h1':(numM d).2.e=0:=O_
    rw [if_neg h1]
    rw [if_neg h1] at hvC
    have hfx:¬ (fixR 1 (numM d).2.r).2=1:=fun hf=>by
     have:=hvB h1'
     rw [hv,decide_eq_true hf] at this; cases this
    by_cases h2:(verD (numM d).2).e≠0
    ·have hm:(verM d).2=verD (numM d).2:=by unfold verM; rw [if_neg h1,if_pos (.inl h2)]
     rw [if_pos h2,hm]
     exact⟨rfl,fun h0=>absurd h0 h2⟩
    ·have hm:verM d=(⟨(numM d).1,mkS (zV 1024 (verD (numM d).2).r).2,false⟩,txtD 1024 (verD (numM d).2)):=by
       unfold verM; rw [if_neg h1,if_neg (fun hh=>hh.elim h2 hfx)]
     rw [if_neg h2,hm]
     refine⟨rfl,fun _=> ?_⟩
     rw [hvA h1',hvC O_,hv]
  exact put (by rw [←hver.1]; exact oC) hver.2 st33
 ·have hv:v77=true:=by simpa using hv
  have h1':(numM d).2.e=0:=by
   by_cases h1:(numM d).2.e=0
   ·exact h1
   ·have:=hvB0 h1; rw [hv] at this; cases this
  have hfx:(fixR 1 (numM d).2.r).2=1:=by
   have:=hvB h1'
   rw [hv] at this; exact of_decide_eq_true this.symm
  have hm:verM d=(⟨(numM d).1,ByteArray.empty,true⟩,verD (numM d).2):=by
   unfold verM; rw [if_neg (fun hh=>hh h1'),if_pos (.inr hfx),decide_eq_true hfx]
  rw [if_neg (fun hh=>hh h1')] at oB
  refine put (by rw [hm]; exact oB) (fun _=> ?_) st27
  rw [hm,hvA h1',hv]
/-- The keys. -/
theorem s_1 {R:T_b→Int→WP} {n0 L:Nat} {d0:DS} {v43 mark:Int} {bey:List Int} {Be:Slc} (hsr:∀ l w',St w0 (l++fr) w'→zh w' B 1 (xs.map bV)) (hl:B.len≤140737488351232) (hcap:B.len≤B.cap) (hBl:B.len=xs.length) (hL:L≤549755813888)
    (hv:0≤v43∧v43<18446744073709551616) (hn:d0.e=0→(n0:Int)=v43) (hr0:d0.e=0→d0.r.rest.length≤L) (o:TkA B xs d0 tc) (re:RowC 1 Be (bey.map Vi) eb) (hbl:bey.length≤17592186044416) (st:St w0 ((b2,tc)::(b3,svT ⟨mark,Be,⟨none,0,0⟩⟩)::(b1,zS)::(eb++fr)) w)
    (k:∀ s' eb' hc' w',SavO s' (finM (z8 n0 d0).2 ⟨mark,bey,(z8 n0 d0).1⟩).1 eb' hc'→St w0 (eb'++(hc'++fr)) w'→R s' (finM (z8 n0 d0).2 ⟨mark,bey,(z8 n0 d0).1⟩).2 w') :
    ∃(I:Int→WP) (μ:Int→World→Nat),I 0 w∧∀(i1:Int) w,I i1 w→F_Fb R b1 b2 b3 v43 (fun(i1':Int) w'=>I i1' w'∧μ i1' w'<μ i1 w) i1 w:=by
 refine⟨fun i w'=>∃(n:Nat) (d:DS) (hacc:List Hd) (tc:List Value) (sl:Slc) (hc:List zf),0≤i∧i≤v43∧(d.e=0→i+n=v43∧hacc++(z8 n d).1=(z8 n0 d0).1∧hacc.length+d.r.rest.length≤L)∧hacc.length≤L+1∧(∀ x∈hacc,x.2.length≤65536)∧(z8 n d).2=(z8 n0 d0).2∧TkA B xs d tc ∧
     HdsO sl hacc hc∧St w0 ((b2,tc)::(b3,svT ⟨mark,Be,sl⟩)::(b1,zS)::(eb++(hc++fr))) w',fun i _=>(v43 - i).toNat,
  ⟨n0,d0,[],tc,⟨none,0,0⟩,[],O_,O_,fun h=>⟨by simpa using hn h,rfl,by simpa using hr0 h⟩,by simp,fun x hx=>(by cases hx),rfl,o,HdsO.nil,by simpa using st⟩,?_⟩
 clear st o
 rintro i w1 ⟨n,d,hacc,tc,sl,hc,h0,hiv,hA,hhl,hsm,hD,o,hh,st⟩
 have ends:(d.e≠0∨n=0)→∀ ag:Int→WP,F_i R b1 b2 b3 i ag false w1:=fun hend ag=>by
  rw [zle hend] at hD hA
  have hD:d=(z8 n0 d0).2:=hD
  rw [←hD] at k
  by_cases he:d.e=0
  ·have:=(hA he).2.1
   rw [List.append_nil] at this
   rw [←this] at k
   exact s_lb (m:=⟨mark,bey,hacc⟩) st o hBl (fun _=>⟨⟨rfl,re,hh⟩,fun x hx=>by have:=hsm x hx; omega,hbl,by show hacc.length≤_; omega⟩) k
  ·exact s_lb st o hBl (fun h=>absurd h he) k
 unfold F_Fb
 refine⟨fun hi=> ?_,fun hi=> ?_⟩
 rotate_left
 ·have hi:=of_decide_eq_false hi
  refine ends ?_ _
  by_cases he:d.e=0
  ·exact .inr (by have:=(hA he).1; omega)
  ·exact .inl he
 have hi:=of_decide_eq_true hi
 obtain⟨r,hr⟩:∃ r:RfR,tc=tkV r d.e:=by obtain⟨r,h,_⟩:=o; exact⟨r,h⟩
 refine⟨d.e,by rw [hr] at st; exact st.cell 0 rfl rfl,?_⟩
 by_cases he:d.e=0
 rotate_left
 ·rw [beq_eq_false_iff_ne.2 he]; exact ends (.inl he) _
 rw [he,beq_self_eq_true]
 obtain⟨hA1,hA2,hA3⟩:=hA he
 obtain⟨n,rfl⟩:∃ n',n=n'+1:=⟨n - 1,O_⟩
 have hg:GdD d:=by obtain⟨r,_,h⟩:=o; exact(h he).2
 unfold F_i
 refine⟨fun _=> ?_,fun h=>(by cases h)⟩
 have sr:∀ {l:List zf} {w':World},St w0 (l++(eb++(hc++fr))) w'→zh w' B 1 (xs.map bV):=fun {l w'} st'=>hsr (l++(eb++hc)) w' (st'.pq)
 refine s_kb st o (sr (l:=[(b2,tc),(b3,svT ⟨mark,Be,sl⟩),(b1,zS)]) st) hl hcap D_ D_ fun key tcA w17 oA hkey st17 b5 w18 hb5 hw18=> ?_
 rw [if_neg (fun hh=>hh he)] at oA
 have st18:=st17.alloc (cs:=[Value.string ByteArray.empty,Value.slice none 0 0]) hb5 hw18
 refine⟨st18.writable 0 rfl D_,fun w19 hw19=> ?_⟩
 have st19:St w0 ((b5,[Value.string key,Value.slice none 0 0])::(b2,tcA)::(b3,svT ⟨mark,Be,sl⟩)::(b1,zS)::(eb++(hc++fr))) w19:=st18.put0 hw19
 have st19:St w0 ((b2,tcA)::(b5,[Value.string key,Value.slice none 0 0])::(b3,svT ⟨mark,Be,sl⟩)::(b1,zS)::(eb++(hc++fr))) w19:=st19.pq
 refine s_g st19 oA (sr (l:=[(b2,tcA),(b5,[Value.string key,Value.slice none 0 0]),(b3,svT ⟨mark,Be,sl⟩),(b1,zS)]) st19) hl fun v60 tcB w20 oB hv60 hv0 hv1 st20=> ?_
 have hnum:=zZd (txtD 64 d)
 refine s_Yc (d0:=(numM (txtD 64 d)).2) (n0:=(numM (txtD 64 d)).1.toNat) (s:=⟨mark,Be,sl⟩) hsr hl hcap ⟨hv0,hv1⟩ (fun h0=>by rw [hv60 h0]; omega) oB hh O_ st20 fun w36 sl' hc' tc' vl oC hh' hvl hvl2 st36=> ?_
 have wi:IntKind.u64.wrap (i+1)=i+1:=zX _ O_ O_
 rw [wi]
 have hlen1:(hacc++[((key,vl):Hd)]).length=hacc.length+1:=by rw [List.length_append]; rfl
 have hsm':∀ x∈hacc++[((key,vl):Hd)],x.2.length≤65536:=fun x hx=>by
  rcases List.mem_append.1 hx with hx | hx
  ·exact hsm x hx
  ·rw [List.mem_singleton.1 hx]; exact hvl2
 have hle1:=zjc (txtD 64 d)
 have hle2:=zZe (f:=verM) zYe (numM (txtD 64 d)).1.toNat (numM (txtD 64 d)).2
 -- the step of the model
 by_cases ht:(txtD 64 d).e≠0
 ·have hk1:z8 (n+1) d=([],txtD 64 d):=by rw [z8,if_neg (fun hh=>hh he),if_pos ht]
  have hst:(repM verM (numM (txtD 64 d)).1.toNat (numM (txtD 64 d)).2).2=txtD 64 d:=by
   have h1:numM (txtD 64 d)=(0,txtD 64 d):=by unfold numM; exact if_pos ht
   rw [h1,z4d (.inl ht)]
  rw [hst] at oC
  rw [hk1] at hD
  refine⟨⟨0,txtD 64 d,_,tc',sl',hc',O_,O_,fun h=>absurd h ht,O_,hsm',?_,oC,hh',st36⟩,by show Int.toNat _<Int.toNat _; omega⟩
  exact hD
 ·have ht:(txtD 64 d).e=0:=O_
  have hk1:z8 (n+1) d=((mkS (zV 64 d.r).2,(repM verM (numM (txtD 64 d)).1.toNat (numM (txtD 64 d)).2).1)::(z8 n (repM verM (numM (txtD 64 d)).1.toNat (numM (txtD 64 d)).2).2).1,(z8 n (repM verM (numM (txtD 64 d)).1.toNat (numM (txtD 64 d)).2).2).2):=by
   rw [z8,if_neg (fun hh=>hh he),if_neg (fun hh=>hh ht)]
  rw [hk1] at hD hA2
  have hD:(z8 n (repM verM (numM (txtD 64 d)).1.toNat (numM (txtD 64 d)).2).2).2=(z8 n0 d0).2:=hD
  have htr:(txtD 64 d).r.rest.length<d.r.rest.length:=(zgh hg he D_ O_ ht).2.2
  refine⟨⟨n,_,_,tc',sl',hc',O_,O_,fun h=>⟨O_,?_,O_⟩,O_,hsm',hD,oC,hh',st36⟩,by show Int.toNat _<Int.toNat _; omega⟩
  rw [←hA2,hvl h,hkey he,List.append_assoc]; rfl
end
/-- What bytes say, as the document has it. -/
theorem s_Eb {w0:Base} {w:World} {fr:List zf} {B:Slc} {xs:List UInt8} {R:T_b→Int→WP} (st:St w0 fr w) (hsr:∀ l w',St w0 (l++fr) w'→zh w' B 1 (xs.map bV)) (hl:B.len≤549755813888) (hcap:B.len≤B.cap)
    (k:∀ s' eb' hc' w',SavO s' (decM xs).1 eb' hc'→St w0 (eb'++(hc'++fr)) w'→R s' (decM xs).2 w'):C_dc B w R:=by
 apply S_Wb
 unfold F_Ud
 have hBl:B.len=xs.length:=(hsr [] w st).len_eq
 intro b1 w1 hb1 hw1 b2 w2 hb2 hw2
 have st1:St w0 ((b1,zS)::fr) w1:=st.alloc hb1 hw1
 have st2:St w0 ((b2,tkV ⟨false,B,0,0⟩ 0)::(b1,zS)::fr) w2:=st1.alloc hb2 hw2
 have o2:TkA B xs (d0M xs) (tkV ⟨false,B,0,0⟩ 0):=⟨⟨false,B,0,0⟩,rfl,fun _=>⟨⟨rfl,rfl,rfl,0,rfl,Nat.zero_le _,rfl⟩,fun _=>⟨rfl,rfl⟩⟩⟩
 have sr:∀(l:List zf) {w':World},St w0 (l++fr) w'→zh w' B 1 (xs.map bV):=fun l {w'} st'=>hsr l w' st'
 refine s_g st2 o2 (sr [(b2,tkV ⟨false,B,0,0⟩ 0),(b1,zS)] st2) O_ fun v19 tc3 w3 o3 hv19 _ _ st3 b3 w4 hb3 hw4=> ?_
 have st4:=st3.alloc (cs:=zS) hb3 hw4
 refine⟨st4.writable 0 rfl D_,fun w5 hw5=> ?_⟩
 have st5:St w0 ((b3,svT ⟨v19,⟨none,0,0⟩,⟨none,0,0⟩⟩)::(b2,tc3)::(b1,zS)::fr) w5:=st4.put0 hw5
 have st5:St w0 ((b2,tc3)::(b3,svT ⟨v19,⟨none,0,0⟩,⟨none,0,0⟩⟩)::(b1,zS)::fr) w5:=st5.pq
 refine s_g st5 o3 (sr [(b2,tc3),(b3,svT ⟨v19,⟨none,0,0⟩,⟨none,0,0⟩⟩),(b1,zS)] st5) O_ fun v22 tc6 w6 o6 hv22 h220 h221 st6=> ?_
 have hnum:=zZd (numM (d0M xs)).2
 obtain⟨d1,hd1⟩:∃ d1,d1=(numM (d0M xs)).2:=⟨_,rfl⟩
 rw [←hd1] at o6 hv22 hnum
 have hbeg:begM d1=repM numM (numM d1).1.toNat (numM d1).2:=rfl
 refine⟨fun i w'=>∃(n:Nat) (d:DS) (acc:List Int) (tc:List Value) (Be:Slc) (eb:List zf),i=(acc.length:Int)∧(acc.length:Int)≤v22∧(d.e=0→(acc.length:Int)+n=v22∧acc++(repM numM n d).1=(begM d1).1)∧(repM numM n d).2=(begM d1).2∧TkA B xs d tc ∧
     RowC 1 Be (acc.map Vi) eb∧St w0 ((b2,tc)::(b3,svT ⟨v19,Be,⟨none,0,0⟩⟩)::(b1,zS)::(eb++fr)) w',fun i _=>(v22 - i).toNat,
  ⟨(numM d1).1.toNat,(numM d1).2,[],tc6,⟨none,0,0⟩,[],rfl,by simpa using h220,fun h=>⟨by rw [hv22 h]; simp; omega,rfl⟩,rfl,o6,RowC.nil,by simpa using st6⟩,?_⟩
 clear st6 st5 st4 st3 st2 st1 o6 hw1 hw2 hw4 hw5
 rintro i w7 ⟨n,d,acc,tc,Be,eb,rfl,hal,hA,hD,o,re,st⟩
 have sr7:∀(l:List zf) {w':World},St w0 (l++(eb++fr)) w'→zh w' B 1 (xs.map bV):=fun l {w'} st'=>hsr (l++eb) w' (st'.pq)
 have ends:(d.e≠0∨n=0)→∀ ag:Int→WP,F_t R b1 b2 b3 ((acc.length:Nat):Int) ag false w7:=fun hend ag=>by
  rw [z4d hend] at hD hA
  have hD:d=(begM d1).2:=hD
  unfold F_t
  refine⟨fun h=>(by cases h),fun _=> ?_⟩
  refine s_pd st o (sr7 [(b2,tc),(b3,svT ⟨v19,Be,⟨none,0,0⟩⟩),(b1,zS)] st) O_ fun v43 tc14 w14 o14 hk1 hk0 st14=> ?_
  have hvlt:(varR d.r).2<2 ^ 64∨d.e≠0:=by
   by_cases he:d.e=0
   ·refine .inl ?_
    obtain⟨r,_,hs⟩:=o
    obtain⟨hc,_⟩:=(hs he).2 he
    rcases zxd d.r.rest with ⟨c,_,hv⟩ | ⟨n,r,hv,_,hlt⟩
    ·rw [show d.r=⟨d.r.rest,0⟩ from by rw [←hc],hv]; exact Nat.two_pow_pos 64
    ·rw [show d.r=⟨d.r.rest,0⟩ from by rw [←hc],hv]; exact hlt
   ·exact .inr he
  have hall:allD xs=(⟨(numM (d0M xs)).1,(begM d1).1,(hldM d).1⟩,(hldM d).2):=by rw [hD,hd1]; rfl
  have hdec:decM xs=finM (hldM d).2 ⟨(numM (d0M xs)).1,(begM d1).1,(hldM d).1⟩:=by
   show finM (allD xs).2 (allD xs).1=_
   rw [hall]
  rw [hdec] at k
  have hlk:∀ e:DS,e.r.rest.length≤d.r.rest.length→e.r.rest.length≤d.r.rest.length:=fun _ h=>h
  by_cases he:(keyD d).e=0
  ·have hde:=z9o he
   have h1e:d1.e=0:=by
    have:(begM d1).2.e=0:=by rw [←hD]; exact hde
    rw [hbeg] at this
    exact zap (z8o this)
   have hacc:acc=(begM d1).1:=by have:=(hA hde).2; rw [List.append_nil] at this; exact this
   have hv19':v19=(numM (d0M xs)).1:=hv19 (by rw [←hd1]; exact h1e)
   have hrest:d.r.rest.length≤xs.length:=by
    obtain⟨r,_,hs⟩:=o
    obtain⟨p,_,_,hp⟩:=(hs hde).1.place
    rw [hp,List.length_drop]; omega
   have hkr:(keyD d).r.rest.length≤xs.length:=by
    have h1:(keyD d).r=(varR d.r).1:=by unfold keyD; rw [if_pos hde]; rfl
    have:=zke d.r
    rw [h1]; omega
   rw [←hacc,←hv19'] at k
   refine s_1 (n0:=(varR d.r).2) (L:=xs.length) hsr O_ hcap hBl O_ ⟨by rw [hk1 hde]; omega,?_⟩ (fun _=>(hk1 hde).symm) (fun _=>hkr) o14 re O_ st14 k
   rw [hk1 hde]
   rcases hvlt with h | h
   ·omega
   ·exact absurd hde h
  ·have hst:(hldM d).2=keyD d:=by unfold hldM; rw [zle (.inl he)]
   rw [hst] at k
   have hzf:∀ m:SvM,finM (keyD d) m=(zSv,(keyD d).e):=fun m=>by unfold finM; rw [if_pos he]
   rw [hzf] at k
   refine s_1 (n0:=0) (L:=xs.length) (d0:=keyD d) (bey:=acc) (mark:=v19) hsr O_ hcap hBl O_ ⟨?_,?_⟩ (fun h=>absurd h he) (fun h=>absurd h he) o14 re O_ st14 ?_
   ·by_cases hde:d.e=0
    ·rw [hk1 hde]; omega
    ·rw [hk0 hde]; decide
   ·by_cases hde:d.e=0
    ·rw [hk1 hde]
     rcases hvlt with h | h
     ·omega
     ·exact absurd hde h
    ·rw [hk0 hde]; decide
   ·rw [zle (.inl he)]
    show ∀ s' eb' hc' w',SavO s' (finM (keyD d) _).1 eb' hc'→_→R s' (finM (keyD d) _).2 w'
    rw [hzf]; exact k
 unfold F_jc
 refine⟨fun hi=> ?_,fun hi=> ?_⟩
 rotate_left
 ·have hi:=of_decide_eq_false hi
  refine ends ?_ _
  by_cases he:d.e=0
  ·exact .inr (by have:=(hA he).1; omega)
  ·exact .inl he
 have hi:=of_decide_eq_true hi
 obtain⟨r,hr⟩:∃ r:RfR,tc=tkV r d.e:=by obtain⟨r,h,_⟩:=o; exact⟨r,h⟩
 refine⟨d.e,by rw [hr] at st; exact st.cell 0 rfl rfl,?_⟩
 by_cases he:d.e=0
 rotate_left
 ·rw [beq_eq_false_iff_ne.2 he]; exact ends (.inl he) _
 rw [he,beq_self_eq_true]
 obtain⟨hA1,hA2⟩:=hA he
 obtain⟨n,rfl⟩:∃ n',n=n'+1:=⟨n - 1,O_⟩
 have hrep:repM numM (n+1) d=((numM d).1::(repM numM n (numM d).2).1,(repM numM n (numM d).2).2):=by rw [repM,if_neg (fun hh=>hh he)]
 rw [hrep] at hA2 hD
 have hD:(repM numM n (numM d).2).2=(begM d1).2:=hD
 unfold F_t
 refine⟨fun _ w9 hd9=> ?_,fun h=>(by cases h)⟩
 have st9:=st.drew hd9
 refine⟨Be,st9.cell 1 rfl rfl,s_g st9 o (sr7 [(b2,tc),(b3,svT ⟨v19,Be,⟨none,0,0⟩⟩),(b1,zS)] st9) O_ fun v38 tc10 w10 o10 hv38 _ _ st10=>⟨st10.cell 1 rfl rfl,fun b4 w11 hb4 hw11=> ?_⟩⟩
 have st11:=st10.alloc (cs:=[Vi v38]) hb4 hw11
 refine⟨st11.cell 2 rfl rfl,[Vi v38],zY hb4 hw11 rfl,?_⟩
 have st11:St w0 (eb++((b3,svT ⟨v19,Be,⟨none,0,0⟩⟩)::(b2,tc10)::(b1,zS)::fr)) w11:=st11.weak [(b4,[Vi v38])] (zc fun f_=>by simp <;> omega)
 have hbl:Be.len=acc.length:=by have:=re.len; rw [List.length_map,Nat.mul_one] at this; omega
 refine re.append st11 rfl rfl rfl (by rw [hbl]; omega) fun Be' eb' w12 re' st12 hl12=> ?_
 have st12:St w0 ((b3,svT ⟨v19,Be,⟨none,0,0⟩⟩)::(b2,tc10)::(b1,zS)::(eb'++fr)) w12:=st12.pq
 refine⟨st12.writable 0 rfl (Nat.le_of_ble_eq_true rfl),fun w13 hw13=> ?_⟩
 have st13:St w0 ((b3,svT ⟨v19,Be',⟨none,0,0⟩⟩)::(b2,tc10)::(b1,zS)::(eb'++fr)) w13:=st12.put0 hw13
 have wk:IntKind.i64.wrap ((acc.length:Int)+1)=(((acc++[v38]).length:Nat):Int):=by rw [i64_in _ O_ O_,List.length_append]; rfl
 rw [wk]
 have hlen1:(acc++[v38]).length=acc.length+1:=by rw [List.length_append]; rfl
 refine⟨⟨n,(numM d).2,acc++[v38],tc10,Be',eb',rfl,O_,fun h0=>⟨O_,?_⟩,hD,o10,by rw [List.map_append]; exact re',st13.pq⟩,by show Int.toNat _<Int.toNat _; omega⟩
 rw [←hA2,hv38 h0,List.append_assoc]; rfl
theorem s_d {c:BitVec 32} {s:Slc} {w:World} {R:Int→WP} {l:List UInt8} (hs:zh w s 1 (l.map bV)) (hl:s.len≤4611686018427387904)
    (h:R (U (~~~ crcF (~~~ c) l)) w):C_7 (U c) s w R:=by
 apply S_ic
 unfold F_ie
 have hlen:=hs.len_eq
 refine⟨fun n i w'=>w'=w∧0≤i∧i≤s.len∧∃ d,n=U d∧crcF d (l.drop i.toNat)=crcF (~~~ c) l,fun n i w'=>s.len - i.toNat,⟨rfl,O_,O_,~~~c,zdp c,by simp⟩,?_⟩
 rintro _ i _ ⟨rfl,h0,h1,d,rfl,hb⟩
 unfold F_Qc
 refine⟨fun hi=> ?_,fun hi=> ?_⟩
 ·have hi:=of_decide_eq_true hi
  obtain⟨ha,x,hx,hc⟩:=hs.get h0 hi
  rw [zyd hx,crcF] at hb
  have hxl:=x.toNat_lt
  refine⟨ha,h0,hi,(x.toNat:Int),hc,fun c1 k w'=>w'=_∧0≤k∧k≤8∧∃ e,c1=U e∧z1c (8 - k.toNat) e=z1c 8 (d ^^^ BitVec.ofNat 32 x.toNat),fun c1 k w'=>8 - k.toNat,⟨rfl,O_,O_,d ^^^ BitVec.ofNat 32 x.toNat,?_,rfl⟩,?_⟩
  ·rw [zRf _ O_ O_]
   rw [show((x.toNat:Nat):Int)=U (BitVec.ofNat 32 x.toNat) from by
    unfold U; rw [BitVec.toNat_ofNat,Nat.mod_eq_of_lt O_],U_xor]
  ·rintro _ k _ ⟨rfl,k0,k1,e,rfl,he⟩
   unfold F_Pc
   have hwi:=zkd h0 hi hl
   refine⟨fun hk=> ?_,fun hk=> ?_⟩
   ·have hk:=of_decide_eq_true hk
    have hw:IntKind.i64.wrap (k+1)=k+1:=i64_in _ O_ O_
    rw [zLf (n:=0) k0 hk] at he
    refine⟨fun ho=> ?_,fun ho=> ?_⟩
    ·unfold F_jb
     exact⟨⟨rfl,O_,O_,step e,zBk ho,by rw [hw]; exact he⟩,by simp only [hw]; omega⟩
    ·unfold F_jb
     exact⟨⟨rfl,O_,O_,step e,zbj ho,by rw [hw]; exact he⟩,by simp only [hw]; omega⟩
   ·have hk:=of_decide_eq_false hk
    rw [show 8 - k.toNat=0 from by omega] at he
    have he:e=_:=he
    refine⟨⟨rfl,O_,O_,e,rfl,?_⟩,by simp only [hwi]; omega⟩
    rw [hwi,zMc h0,he]; exact hb
 ·have hi:=of_decide_eq_false hi
  rw [zPe O_,crcF] at hb
  rw [←hb] at h
  rw [zdp]; exact h
theorem s_j {s:Slc} {w:World} {R:Int→WP} {l:List UInt8} (hs:zh w s 1 (l.map bV)) (hl:s.len≤4611686018427387904)
    (h:R (U (~~~ crcF (~~~ 0#32) l)) w):C_7b s w R:=by
 apply S_tc
 unfold F_te
 exact s_d (c:=0#32) hs hl h
theorem zJi {s:ByteArray} {i:Int} (h0:0≤i) (h1:i<((s.size:Nat):Int)):∃ x,s.data.toList[i.toNat]? =some x∧zhf s i=(x.toNat:Int):=by
 have hl:i.toNat<s.data.toList.length:=by have:s.data.toList.length=s.size:=by simp
                                          omega
 refine⟨s.data.toList[i.toNat],List.getElem?_eq_getElem hl,?_⟩
 unfold zhf
 rw [List.getD_eq_getElem?_getD,List.getElem?_eq_getElem hl]
 rfl
section
variable {w0:Base} {w:World} {fr wb:List zf} {s:Slc} {xs:List UInt8}
theorem zMe {x:UInt8} {v:Value} {T:TypeId} {w1:World} {b2:Nat} {K:Slc→WP} (r:RowC 1 s (xs.map bV) wb) (st:St w0 (wb++fr) w) (hl:xs.length+1≤140737488351232) (hv:v=bV x)
    (hb:b2=w.heap.size) (hw:w1=w.alloc (Obj.cells [v].toArray T (0,0))) (k:∀ s' wb' w',RowC 1 s' ((xs++[x]).map bV) wb'→St w0 (wb'++fr) w'→K s' w') :
    ∃ src,zh w1 (Slc.mk (some ⟨b2,0,none⟩) 1 1) 1 src∧zj 1 1 T [Value.int .u8 0] s src 1 w1 K:=by
 subst hv
 have hsl:=r.len
 rw [List.length_map] at hsl
 exact⟨_,z7d hb hw rfl,r.append (st.alloc hb hw).drop1 rfl rfl rfl O_ fun s' wb' w' r' st' _=>k s' wb' w' (by simpa using r') st'⟩
theorem s_b {n:Nat} {R:Slc→WP} (r:RowC 1 s (xs.map bV) wb) (st:St w0 (wb++fr) w) (hn:n<2 ^ 64) (hl:xs.length+20≤140737488351232)
    (k:∀ s' wb' w',RowC 1 s' ((xs++varF n).map bV) wb'→St w0 (wb'++fr) w'→R s' w'):C_g s (n:Int) w R:=by
 apply S_oc
 refine⟨fun s n1 w'=>∃(m f:Nat) (pre:List UInt8) (wb:List zf),n1=(m:Int)∧pre.length+f=9∧m<128 ^ (f+1)∧m<2 ^ 64∧pre++varB (f+1) m=varF n∧RowC 1 s ((xs++pre).map bV) wb∧St w0 (wb++fr) w',fun _ n1 _=>n1.toNat,
  ⟨n,9,[],wb,rfl,rfl,by have:(2:Nat) ^ 64≤128 ^ (9+1):=D_
                        omega,hn,rfl,by simpa using r,st⟩,?_⟩
 rintro s1 n1 w1 ⟨m,f,pre,wb,rfl,hpf,hm,hm64,hpre,r,st⟩
 unfold F_7c
 refine⟨fun h=> ?_,fun h=> ?_⟩
 ·have h:=of_decide_eq_true h
  have hm128:128≤m:=O_
  have ht:Int.tmod (m:Int) 128=((m % 128:Nat):Int):=z6d m 128
  have hd:Int.tdiv (m:Int) 128=((m / 128:Nat):Int):=tdiv_nat m 128
  refine fun b2 w2 hb hw=>zMe (x:=UInt8.ofNat (m % 128+128)) r st (by simp; omega) ?_ hb hw fun s' wb' w' r' st'=> ?_
  ·rw [z0c O_,ht,zX _ O_ O_,zKd]
   congr 1; omega
  ·rw [hd,zX _ O_ O_]
   have hf0:f≠0:=fun e=>by subst e; simp at hm; omega
   obtain⟨f,rfl⟩:=Nat.exists_eq_succ_of_ne_zero hf0
   refine⟨⟨m / 128,f,pre++[UInt8.ofNat (m % 128+128)],wb',rfl,by simp; omega,?_,O_,?_,by simpa using r',st'⟩,by show m / 128<m; omega⟩
   ·rw [Nat.div_lt_iff_lt_mul D_,←Nat.pow_succ]; exact hm
   ·rw [←hpre]
    conv=>rhs; rw [varB,if_neg O_]
    simp
 ·have h:=of_decide_eq_false h
  refine fun b2 w2 hb hw=>zMe (x:=UInt8.ofNat m) r st (by simp; omega) ?_ hb hw fun s' wb' w' r' st'=>k s' wb' w' ?_ st'
  ·rw [z0c O_,zKd]
   congr 1; omega
  ·rw [varB,if_pos O_] at hpre
   rw [List.append_assoc,hpre] at r'
   exact r'
theorem s_D {t:ByteArray} {R:Slc→WP} (r:RowC 1 s (xs.map bV) wb) (st:St w0 (wb++fr) w) (hl:xs.length+t.size+40≤140737488351232)
    (k:∀ s' wb' w',RowC 1 s' ((xs++(varF t.size++t.data.toList)).map bV) wb'→St w0 (wb'++fr) w'→R s' w'):C_Xb s t w R:=by
 apply S_hc
 unfold F_he
 rw [show IntKind.u64.wrap ((t.size:Nat):Int)=((t.size:Nat):Int) from zX _ O_ O_]
 have hv:=zwd 10 t.size
 refine s_b r st O_ O_ fun s1 wb1 w1 r1 st1=> ?_
 have htl:t.data.toList.length=t.size:=by simp
 refine⟨fun s i w'=>∃(p:Nat) (wb:List zf),i=(p:Int)∧p≤t.size∧RowC 1 s ((xs++(varF t.size++t.data.toList.take p)).map bV) wb∧St w0 (wb++fr) w',fun _ i _=>t.size - i.toNat,⟨0,wb1,rfl,O_,by simpa using r1,st1⟩,?_⟩
 rintro s2 i w2 ⟨p,wb2,rfl,hp,r2,st2⟩
 unfold F_Oc
 refine⟨fun h=> ?_,fun h=> ?_⟩
 ·have h:=of_decide_eq_true h
  obtain⟨x,hx,hbx⟩:=zJi (s:=t) (i:=(p:Int)) O_ h
  rw [Int.toNat_natCast] at hx
  refine⟨O_,h,fun b2 w3 hb hw=>zMe (x:=x) r2 st2 ?_ (by rw [hbx]) hb hw fun s' wb' w' r' st'=> ?_⟩
  ·simp only [List.length_append,List.length_take]; unfold varF; omega
  ·have wp:IntKind.i64.wrap ((p:Int)+1)=((p+1:Nat):Int):=by rw [i64_in _ O_ O_]; omega
   rw [wp]
   refine⟨⟨p+1,wb',rfl,O_,?_,st'⟩,by show _ - _<_ - _; omega⟩
   rw [List.take_add_one,hx]
   simpa using r'
 ·have h:=of_decide_eq_false h
  rw [List.take_of_length_le O_] at r2
  exact k s2 wb2 w2 r2 st2
end
section
variable {w0:Base} {w:World} {fr wb:List zf} {s:Slc} {xs:List UInt8}
theorem s_Gd {n:Nat} {R:Int→WP} (hn:n<64) (k:R ((2 ^ n:Nat):Int) w):C_hc (n:Int) w R:=by
 apply S_4b
 refine⟨fun p i w'=>∃ j:Nat,i=(j:Int)∧j≤n∧p=((2 ^ j:Nat):Int)∧w'=w,fun _ i _=>n - i.toNat,⟨0,rfl,O_,rfl,rfl⟩,?_⟩
 rintro p i w1 ⟨j,rfl,hj,rfl,rfl⟩
 unfold F_Ac
 refine⟨fun h=> ?_,fun h=> ?_⟩
 ·have h:=of_decide_eq_true h
  have hp:2 ^ (j+1)≤2 ^ 63:=Nat.pow_le_pow_right O_ O_
  have e:2*2 ^ j=2 ^ (j+1):=by rw [Nat.pow_succ]; omega
  have wi:IntKind.i64.wrap ((j:Int)+1)=((j+1:Nat):Int):=by rw [i64_in _ O_ O_]; omega
  have wp:IntKind.u64.wrap (2*((2 ^ j:Nat):Int))=((2 ^ (j+1):Nat):Int):=by
   have:(2:Int)*((2 ^ j:Nat):Int)=((2 ^ (j+1):Nat):Int):=O_
   rw [this,zX _ O_ O_]
  rw [wi,wp]
  exact⟨⟨j+1,rfl,O_,rfl,rfl⟩,by show _ - _<_ - _; omega⟩
 ·have h:=of_decide_eq_false h
  obtain rfl:j=n:=O_
  exact k
theorem z5d {n W:Nat} {R:Slc→Int→WP} (r:RowC 1 s (xs.map bV) wb) (st:St w0 (wb++fr) w) (hn:n<2 ^ 64) (hW:W≤8) (hl:xs.length+20≤140737488351232)
    (k:∀ s' wb' w',RowC 1 s' ((xs++fixB W n).map bV) wb'→St w0 (wb'++fr) w'→R s' 0 w'):F_v s (n:Int) (W:Int) R false w:=by
 unfold F_v
 refine⟨fun h=>(by cases h),fun _=>⟨fun s n1 t w'=>∃(m j:Nat) (pre:List UInt8) (wb:List zf),n1=(m:Int)∧t=((W - j:Nat):Int)∧j≤W∧m<2 ^ 64∧pre.length+j=W∧pre++fixB j m=fixB W n∧RowC 1 s ((xs++pre).map bV) wb∧St w0 (wb++fr) w',fun _ _ t _=>W - t.toNat,
  ⟨n,W,[],wb,rfl,by simp,Nat.le_refl _,hn,by simp,rfl,by simpa using r,st⟩,?_⟩⟩
 rintro s1 n1 t w1 ⟨m,j,pre,wb,rfl,rfl,hj,hm,hpj,hpre,r,st⟩
 unfold F_yc
 refine⟨fun h=> ?_,fun h=> ?_⟩
 ·have h:=of_decide_eq_true h
  have hj0:j≠0:=fun e=>by subst e; omega
  obtain⟨j,rfl⟩:=Nat.exists_eq_succ_of_ne_zero hj0
  have ht:Int.tmod (m:Int) 256=((m % 256:Nat):Int):=z6d m 256
  have hd:Int.tdiv (m:Int) 256=((m / 256:Nat):Int):=tdiv_nat m 256
  refine fun b2 w3 hb hw=>zMe (x:=UInt8.ofNat (m % 256)) r st (by simp; omega) ?_ hb hw fun s' wb' w' r' st'=> ?_
  ·rw [z0c O_,ht,zKd]
   congr 1; omega
  ·have wt:IntKind.i64.wrap (((W - (j+1):Nat):Int)+1)=((W - j:Nat):Int):=by rw [i64_in _ O_ O_]; omega
   rw [hd,zX _ O_ O_,wt]
   refine⟨⟨m / 256,j,pre++[UInt8.ofNat (m % 256)],wb',rfl,rfl,O_,O_,by simp; omega,?_,by simpa using r',st'⟩,by show _ - _<_ - _; omega⟩
   rw [←hpre]
   conv=>rhs; rw [fixB]
   simp
 ·have h:=of_decide_eq_false h
  obtain rfl:j=0:=O_
  rw [fixB,List.append_nil] at hpre
  rw [hpre] at r
  exact k _ _ _ r st
theorem s_h {n:Nat} {width:Int} {R:Slc→Int→WP} (r:RowC 1 s (xs.map bV) wb) (st:St w0 (wb++fr) w) (hn:n<2 ^ 64) (hl:xs.length+20≤140737488351232)
    (k1:(width<1∨width>8)→R s 1 w) (k3:1≤width→width≤8→256 ^ width.toNat≤n→R s 3 w)
    (k0:1≤width→width≤8→n<256 ^ width.toNat→∀ s' wb' w',RowC 1 s' ((xs++fixB width.toNat n).map bV) wb'→St w0 (wb'++fr) w'→R s' 0 w'):C_x s (n:Int) width w R:=by
 apply S_3b
 unfold F_7d
 refine⟨fun h=>k1 (by simpa using h),fun h=> ?_⟩
 simp only [Bool.or_eq_false_iff,decide_eq_false_iff_not] at h
 obtain⟨W,rfl⟩:=toN (show 0≤width by omega)
 rw [Int.toNat_natCast] at k3 k0
 have hp:(2:Nat) ^ (8*W)=256 ^ W:=by rw [Nat.pow_mul]
 refine⟨fun h8=> ?_,fun h8=> ?_⟩
 ·have h8:=of_decide_eq_true h8
  have w8:IntKind.i64.wrap (8*(W:Int))=((8*W:Nat):Int):=by rw [i64_in _ O_ O_]; omega
  rw [w8]
  refine s_Gd O_ ?_
  rw [hp]
  by_cases hge:256 ^ W≤n
  ·rw [decide_eq_true (show(n:Int)≥((256 ^ W:Nat):Int) by omega)]
   unfold F_v
   exact⟨fun _=>k3 O_ O_ hge,fun h=>(by cases h)⟩
  ·rw [decide_eq_false (show ¬ (n:Int)≥((256 ^ W:Nat):Int) by omega)]
   exact z5d r st hn O_ hl (k0 O_ O_ O_)
 ·have h8:=of_decide_eq_false h8
  obtain rfl:W=8:=O_
  refine z5d r st hn O_ hl (k0 O_ O_ ?_)
  have:(256:Nat) ^ 8=2 ^ 64:=D_
  omega
end
def z4b (m:DM) (a b:Slc):List Value:=[Vi m.cap,Vs a,Vs b,Vi m.can,Vo m.dead,Vi (m.writes:Int)]
structure RkX (m:DM) (a c:Slc) (ra rc:List zf):Prop where
 r1:RowC 1 a (m.s0.map bV) ra
 r2:RowC 1 c (m.s1.map bV) rc
 h1:0≤m.cap
 h2:m.cap≤16777216
 h3: -1≤m.can
 h4:m.can≤9223372036854775807
 h5:m.writes≤4611686018427387904
 h6:m.s0.length≤16777216
 h7:m.s1.length≤16777216
abbrev rkC (m:DM) (b:Nat) (a c:Slc) (ra rc:List zf):List zf:=(b,z4b m a c)::(ra++rc)
def RkO (r:OA) (m:DM) (bs:List zf):Prop:=∃(b:Nat) (a c:Slc) (ra rc:List zf),r=some ⟨b,0,none⟩∧bs=rkC m b a c ra rc∧RkX m a c ra rc
section
variable {w0:Base} {w:World} {fr bs:List zf} {r:OA} {m:DM}
theorem s_mb {c:Int} {R:OA→Int→WP} (st:St w0 fr w) (k0:c<0∨c>16777216→R none 1 w)
    (k1:0≤c→c≤16777216→∀ d bs w',RkO d ⟨c,[],[],-1,false,0⟩ bs→St w0 (bs++fr) w'→R d 0 w'):C_oc c w R:=by
 apply S_kc
 refine⟨fun h=>k0 (by simpa using h),fun h=>fun b w1 hb hw=> ?_⟩
 simp only [Bool.or_eq_false_iff,decide_eq_false_iff_not] at h
 exact k1 O_ O_ _ _ _ ⟨b,⟨none,0,0⟩,⟨none,0,0⟩,[],[],rfl,rfl,⟨RowC.nil,RowC.nil,by simp only; omega,by simp only; omega,by show(-1:Int)≤-1; decide,by show(-1:Int)≤_; decide,by simp,by simp,by simp⟩⟩ (st.alloc hb hw)
theorem zXl {a c:Slc} {ra rc:List zf} (x:RkX m a c ra rc) (hwr:m.writes<4611686018427387904):RkX (rawF m).1 a c ra rc:=by
 unfold rawF
 obtain⟨r1,r2,h1,h2,h3,h4,h5,h6,h7⟩:=x
 by_cases h:m.dead=true∨m.can=0
 ·rw [if_pos h]; exact⟨r1,r2,h1,h2,h3,h4,h5,h6,h7⟩
 ·rw [if_neg h]
  refine⟨r1,r2,h1,h2,?_,?_,by simp only; omega,h6,h7⟩
  ·simp only; split <;> omega
  ·simp only; split <;> omega
theorem s_nb {b:Nat} {a c:Slc} {ra rc:List zf} {R:Int→WP} (st:St w0 (rkC m b a c ra rc++fr) w) (x:RkX m a c ra rc) (hwr:m.writes<4611686018427387904)
    (k:∀ w',RkX (rawF m).1 a c ra rc→St w0 (rkC (rawF m).1 b a c ra rc++fr) w'→R (rawF m).2 w'):C_5 (some ⟨b,0,none⟩) w R:=by
 apply S_Ob
 unfold F_Hd
 have k:=fun w'=>k w' (zXl x hwr)
 have bad:(m.dead=true∨m.can=0)→F_k (some ⟨b,0,none⟩) R true w:=fun hb=>by
  unfold F_k
  unfold rawF at k
  rw [if_pos hb] at k
  exact⟨fun _=>⟨rfl,st.writable 0 rfl (by simp [z4b,poff]),fun w2 hw2=>k _ (st.put0 (o:=4) hw2)⟩,fun h=>(by cases h)⟩
 refine⟨rfl,m.dead,st.cell 0 rfl rfl,fun h=>bad (.inl h),fun h=>⟨rfl,m.can,st.cell 0 rfl rfl,?_⟩⟩
 by_cases hc:m.can=0
 ·rw [show(m.can==0)=true from by simpa using hc]
  exact bad (.inr hc)
 rw [show(m.can==0)=false from by simpa using hc]
 unfold F_k
 unfold rawF at k
 rw [if_neg (by rw [h]; simp [hc])] at k
 have e2:IntKind.i64.wrap ((m.writes:Int)+1)=((m.writes+1:Nat):Int):=by rw [i64_in _ O_ O_]; omega
 have h3:=x.h3
 have h4:=x.h4
 refine⟨fun h=>(by cases h),fun _=>⟨rfl,m.can,st.cell 0 rfl rfl,fun hp=>⟨rfl,m.can,st.cell 0 rfl rfl,rfl,st.writable 0 rfl (by simp [z4b,poff]),fun w5 hw5=> ?_⟩,fun hp=> ?_⟩⟩
 ·have hp:=of_decide_eq_true hp
  rw [i64_in _ O_ O_] at hw5
  have st3:=st.put0 (o:=3) hw5
  unfold F_w
  refine⟨rfl,(m.writes:Int),st3.cell 0 rfl rfl,rfl,st3.writable 0 rfl (by simp [z4b,poff,putL]),fun w4 hw4=> ?_⟩
  rw [e2] at hw4
  rw [if_neg O_] at k
  exact k _ (st3.put0 (o:=5) hw4)
 ·have hp:=of_decide_eq_false hp
  unfold F_w
  refine⟨rfl,(m.writes:Int),st.cell 0 rfl rfl,rfl,st.writable 0 rfl (by simp [z4b,poff]),fun w4 hw4=> ?_⟩
  rw [e2] at hw4
  rw [if_pos O_,show(-1:Int)=m.can from by omega] at k
  exact k _ (st.put0 (o:=5) hw4)
theorem z9i (l:List UInt8):zQ (l.map bV)=true:=by
 unfold zQ
 rw [List.all_map]
 exact List.all_eq_true.2 fun _ _=>rfl
/-- What a write makes of a slot's bytes, as a new row. -/
theorem zbp {old b_:Slc} {xs ys:List UInt8} {ro:List zf} {A:Nat} {T:TypeId} {K:Slc→WP} (r:RowC 1 old (xs.map bV) ro) (st:St w0 (ro++fr) w) (hxl:xs.length≤16777216) (hs:∀ l' w',St w0 (l'++(ro++fr)) w'→zh w' b_ 1 (ys.map bV)) (hyl:ys.length≤64) (hA:A≤xs.length)
    (k:∀ l' rl w',RowC 1 l' ((zFe xs A ys).map bV) rl→St w0 (rl++(ro++fr)) w'→K l' w') :
    ∃ src,zh w (Slc.mk old.ptr ((A:Int)).toNat old.cap) 1 src∧zj 1 1 T [Value.int .u8 0] (Slc.mk none 0 0) src ((A:Int)).toNat w (fun l_ w2=>∃ src,zh w2 b_ 1 src∧zj 1 1 T [Value.int .u8 0] l_ src b_.len w2 (fun l_1 w3 =>
     (decide (IntKind.i64.wrap ((A:Int)+((b_.len:Nat):Int))<((old.len:Nat):Int))=true→((0≤IntKind.i64.wrap ((A:Int)+((b_.len:Nat):Int))∧IntKind.i64.wrap ((A:Int)+((b_.len:Nat):Int))≤((old.len:Nat):Int)∧((old.len:Nat):Int)≤((old.cap:Nat):Int)∧((old.cap:Nat):Int)≤((old.cap:Nat):Int)) ∧
      (∀ s,s=Slc.cut 1 old (IntKind.i64.wrap ((A:Int)+((b_.len:Nat):Int))) ((old.len:Nat):Int) ((old.cap:Nat):Int)→(∃ src,zh w3 s 1 src∧zj 1 1 T [Value.int .u8 0] l_1 src s.len w3 (fun l_3 w6=>K l_3 w6))))) ∧
     (decide (IntKind.i64.wrap ((A:Int)+((b_.len:Nat):Int))<((old.len:Nat):Int))=false→K l_1 w3))):=by
 have hol:old.len=xs.length:=by have:=r.len; simp at this; omega
 have hcl:=r.cap_le
 have hbl:=(hs [] w st).len_eq
 rw [Int.toNat_natCast]
 have hp:=(r.src st).pre (k:=A) O_
 rw [Nat.mul_one,←List.map_take] at hp
 refine⟨_,hp,?_⟩
 refine RowC.nil.append (l:=ro++fr) st (by simp; omega) (z9i _) rfl (by show(0+A)*1≤_; omega) fun l1 rl1 w2 r1 st1 hl1=> ?_
 have hl1:l1.len=A:=by rw [hl1]; simp
 refine⟨_,hs rl1 w2 st1,r1.append st1 (by simp; omega) (z9i _) rfl O_ fun l2 rl2 w3 r2 st2 hl2=> ?_⟩
 have wi:IntKind.i64.wrap ((A:Int)+((b_.len:Nat):Int))=((A+b_.len:Nat):Int):=by rw [i64_in _ O_ O_]; omega
 rw [wi]
 refine⟨fun h=>⟨⟨O_,by have:=of_decide_eq_true h; omega,O_,O_⟩,fun s hs3=> ?_⟩,fun h=> ?_⟩
 ·have h:=of_decide_eq_true h
  have hsl:s.len=xs.length - (A+b_.len):=by rw [hs3]; unfold Slc.cut; simp; omega
  have hc:=((r.src (st2.swap)).cut (lo:=((A+b_.len:Nat):Int)) (hi:=((old.len:Nat):Int)) (mx:=((old.cap:Nat):Int)) O_ O_ O_ O_)
  rw [←hs3] at hc
  have e1:(((xs.map bV).drop ((((A+b_.len:Nat):Int)).toNat*1)).take (((((old.len:Nat):Int)).toNat - (((A+b_.len:Nat):Int)).toNat)*1))=(xs.drop (A+b_.len)).map bV:=by
   rw [Int.toNat_natCast,Int.toNat_natCast,Nat.mul_one,Nat.mul_one,←List.map_drop,←List.map_take,List.take_of_length_le (by rw [List.length_drop]; omega)]
  rw [e1] at hc
  refine⟨_,hc,r2.append st2 (by simp; omega) (z9i _) rfl O_ fun l3 rl3 w6 r3 st3 _=>k l3 rl3 w6 ?_ st3⟩
  unfold zFe
  rw [←hbl]
  simpa using r3
 ·have h:=of_decide_eq_false h
  refine k l2 rl2 w3 ?_ st2
  unfold zFe
  rw [←hbl,List.drop_eq_nil_of_le O_]
  simpa using r2
theorem s_K {slot at_:Int} {b_:Slc} {ys:List UInt8} {R:Int→WP} (st:St w0 (bs++fr) w) (o:RkO r m bs) (hwr:m.writes<4611686018427387904) (hs:∀ l' w',St w0 (l'++fr) w'→zh w' b_ 1 (ys.map bV))
    (k:∀ bs' w',RkO r (zVb m slot at_ ys).1 bs'→St w0 (bs'++fr) w'→R (zVb m slot at_ ys).2 w'):C_i r slot at_ b_ w R:=by
 apply S_d
 unfold F_jd
 have hyl:=(hs _ _ st).len_eq
 have o':=o
 obtain⟨b,a,c,ra,rc,rfl,rfl,x⟩:=o
 obtain⟨r1,r2,h1,h2,h3,h4,h5,h6,h7⟩:=id x
 unfold zVb at k
 have hgl:∀ s,(m.get s).length≤16777216:=fun s=>by unfold DM.get; split <;> assumption
 refine⟨fun h=>(by cases h),fun _=>⟨fun h=> ?_,fun h=> ?_⟩⟩
 ·simp only [Bool.or_eq_true,Bool.and_eq_true,bne_iff_ne,ne_eq,decide_eq_true_eq] at h
  by_cases hn:¬ (slot=0∨slot=1)
  ·rw [if_pos hn] at k; exact k _ _ o' st
  ·rw [if_neg hn,if_pos O_] at k; exact k _ _ o' st
 simp only [Bool.or_eq_false_iff,Bool.and_eq_false_iff,bne_eq_false_iff_eq,decide_eq_false_iff_not] at h
 have hsl:slot=0∨slot=1:=h.1.1
 rw [if_neg (fun hh=>hh hsl),if_neg O_] at k
 obtain⟨A,rfl⟩:=toN (show 0≤at_ by omega)
 rw [Int.toNat_natCast] at k
 -- the slot's row
 have key:∀(old:Slc),(old=if slot=0 then a else c)→∃ ro rest,RowC 1 old ((m.get slot).map bV) ro∧(z4b m a c)[1+slot.toNat]? =some (Vs old)∧(∀ {m':DM} {w':World},St w0 (rkC m' b a c ra rc++fr) w'→St w0 (ro++((b,z4b m' a c)::(rest++fr))) w') ∧
     ∀(t':Slc) (rt':List zf) (zs:List UInt8) (w':World) (m':DM),m'.s0=m.s0→m'.s1=m.s1→RkX m' a c ra rc→RowC 1 t' (zs.map bV) rt'→zs.length≤16777216→St w0 ((b,putL (1+slot.toNat) [Vs t'] (z4b m' a c))::(rt'++(rest++fr))) w' →
      ∃ bs',RkO (some ⟨b,0,none⟩) (m'.put slot zs) bs'∧St w0 (bs'++fr) w':=by
  intro old ho
  rcases hsl with rfl | rfl
  ·rw [if_pos rfl] at ho; subst ho
   refine⟨ra,rc,r1,rfl,fun st=> ?_,fun t' rt' zs w' m' e0 e1 x' r' hz st'=>⟨_,⟨b,t',c,rt',rc,rfl,rfl,⟨r',x'.r2,x'.h1,x'.h2,x'.h3,x'.h4,x'.h5,hz,x'.h7⟩⟩,?_⟩⟩
   ·rw [List.cons_append,List.append_assoc] at st; exact St.mid st
   ·rw [←List.append_assoc] at st'; exact st'
  ·rw [if_neg D_] at ho; subst ho
   refine⟨rc,ra,r2,rfl,fun st=> ?_,fun t' rt' zs w' m' e0 e1 x' r' hz st'=>⟨_,⟨b,a,t',ra,rt',rfl,rfl,⟨x'.r1,r',x'.h1,x'.h2,x'.h3,x'.h4,x'.h5,x'.h6,hz⟩⟩,?_⟩⟩
   ·rw [List.cons_append,List.append_assoc] at st
    exact st.perm ((List.Perm.cons _ (List.perm_append_comm_assoc ra rc fr)).trans List.perm_middle.symm)
   ·have st2:St w0 ((b,z4b (m'.put 1 zs) a t')::(rt'++(ra++fr))) w':=st'
    exact st2.perm (List.Perm.cons _ (by show List.Perm _ ((ra++rt')++fr); rw [List.append_assoc]; exact(List.perm_append_comm_assoc ra rt' fr).symm))
 obtain⟨old,hold⟩:∃ old,old=if slot=0 then a else c:=⟨_,rfl⟩
 obtain⟨ro,rest,rr,hcell,hfront,back⟩:=key old hold
 have hol:old.len=(m.get slot).length:=by have:=rr.len; simp at this; omega
 have hg:=hgl slot
 have ocell:∀ {m':DM} {w':World},m'=m→St w0 (rkC m' b a c ra rc++fr) w'→w'.cell? ⟨b,0+1+slot.toNat,none⟩=some (Vs old):=fun e st=>st.cell 0 rfl (by rw [Nat.zero_add,e]; exact hcell)
 refine⟨rfl,O_,O_,old,ocell rfl st,fun h=> ?_,fun h=> ?_⟩
 ·have h:=of_decide_eq_true h
  rw [if_pos O_] at k; exact k _ _ o' st
 have h:=of_decide_eq_false h
 rw [if_neg O_] at k
 refine⟨rfl,m.cap,st.cell 0 rfl rfl,fun h=> ?_,fun h=> ?_⟩
 ·have h:=of_decide_eq_true h
  rw [i64_in _ O_ O_] at h
  rw [if_pos O_] at k; exact k _ _ o' st
 have h:=of_decide_eq_false h
 rw [i64_in _ O_ O_] at h
 rw [if_neg O_] at k
 refine s_nb st x hwr fun w1 x1 st1=>⟨fun h=> ?_,fun h=> ?_⟩
 ·have h:(rawF m).2≠0:=by simpa using h
  rw [if_pos h] at k; exact k _ _ ⟨b,a,c,ra,rc,rfl,rfl,x1⟩ st1
 have h:(rawF m).2=0:=by simpa using h
 rw [if_neg O_] at k
 have hcl:=rr.cap_le
 refine⟨O_,O_,?_⟩
 refine zbp (ys:=ys) rr (hfront st1) hg (fun l' w' st=> ?_) O_ O_ fun l' rl w' r' st'=> ?_
 ·refine hs [] w' ?_
  refine(st.sub ?_:St w0 ([]++fr) w')
  refine(List.Sublist.trans ?_ (List.sublist_append_right l' _))
  refine(List.Sublist.trans ?_ (List.sublist_append_right ro _))
  refine List.Sublist.cons _ (List.sublist_append_right rest fr)
 ·unfold F_L
  have st2:St w0 ((b,z4b (rawF m).1 a c)::(rl++(rest++fr))) w':=by
   have h3:St w0 (ro++(rl++((b,z4b (rawF m).1 a c)::(rest++fr)))) w':=st'.swap
   exact St.unmid h3.drop
  refine⟨rfl,O_,O_,st2.writable 0 rfl (by show 0+1+slot.toNat+1≤6; omega),fun w5 hw5=> ?_⟩
  have e0:poff (some ⟨b,0,none⟩:OA)+1+slot.toNat=1+slot.toNat:=by show 0+1+_=_; omega
  rw [e0] at hw5
  have st3:=st2.put0 hw5
  have hov:(zFe (m.get slot) A ys).length≤16777216:=by rw [zKg O_]; omega
  obtain⟨bs',o2,st4⟩:=back l' rl _ w5 (rawF m).1 (zbg m 0) (zbg m 1) x1 r' hov st3
  exact k bs' w5 o2 st4
theorem s_Zc {slot:Int} {R:Slc→Int→WP} (st:St w0 (bs++fr) w) (o:RkO r m bs) (k1:¬ (slot=0∨slot=1)→R ⟨none,0,0⟩ 1 w)
    (k:slot=0∨slot=1→∀ s,(∀ w',St w0 (bs++fr) w'→zh w' s 1 ((m.get slot).map bV))→R s 0 w):C_b r slot w R:=by
 apply S_a
 unfold F_dc
 obtain⟨b,a,c,ra,rc,rfl,rfl,x⟩:=o
 refine⟨fun h=>(by cases h),fun _=>⟨fun h=>k1 (by simp at h; omega),fun h=> ?_⟩⟩
 simp only [Bool.and_eq_false_iff,bne_eq_false_iff_eq] at h
 refine⟨rfl,O_,O_,?_⟩
 rcases h with rfl | rfl
 ·refine⟨a,st.cell 0 rfl rfl,k (.inl rfl) a fun w' st=> ?_⟩
  have h:St w0 (ra++(rc++fr)) w':=by
   have h2:St w0 ((ra++rc)++fr) w':=st.drop1
   rwa [List.append_assoc] at h2
  exact x.r1.src h
 ·refine⟨c,st.cell 0 rfl rfl,k (.inr rfl) c fun w' st=> ?_⟩
  have h:St w0 (ra++(rc++fr)) w':=by
   have h2:St w0 ((ra++rc)++fr) w':=st.drop1
   rwa [List.append_assoc] at h2
  exact x.r2.src h.drop
theorem s_2b {R:Int→WP} (st:St w0 (bs++fr) w) (o:RkO r m bs) (k:R (m.writes:Int) w):C_l r w R:=by
 apply S_b
 obtain⟨b,a,c,ra,rc,rfl,rfl,x⟩:=o
 exact⟨fun h=>(by cases h),fun _=>⟨rfl,_,st.cell 0 rfl rfl,k⟩⟩
theorem s_cb {R:Int→WP} (st:St w0 (bs++fr) w) (o:RkO r m bs) (k:R m.cap w):C_kb r w R:=by
 apply S_U
 obtain⟨b,a,c,ra,rc,rfl,rfl,x⟩:=o
 exact⟨fun h=>(by cases h),fun _=>⟨rfl,_,st.cell 0 rfl rfl,k⟩⟩
theorem s_0c {R:Bool→WP} (st:St w0 (bs++fr) w) (o:RkO r m bs) (k:R m.dead w):C_u r w R:=by
 apply S_i
 obtain⟨b,a,c,ra,rc,rfl,rfl,x⟩:=o
 exact⟨fun _=>⟨rfl,_,st.cell 0 rfl rfl,k⟩,fun h=>(by cases h)⟩
theorem s_1c {R:Int→WP} (st:St w0 (bs++fr) w) (o:RkO r m bs) (k:∀ bs' w',RkO r { m with dead:=false,can:= -1 } bs'→St w0 (bs'++fr) w'→R 0 w'):C_t r w R:=by
 apply S_h
 obtain⟨b,a,c,ra,rc,rfl,rfl,⟨r1,r2,h1,h2,h3,h4,h5,h6,h7⟩⟩:=o
 refine⟨fun h=>(by cases h),fun _=>⟨rfl,st.writable 0 rfl (by simp [z4b,poff]),fun w2 hw2=> ?_⟩⟩
 have st2:=st.put0 (o:=4) hw2
 exact⟨rfl,st2.writable 0 rfl (by simp [z4b,poff,putL]),fun w3 hw3=>k _ _ ⟨b,a,c,ra,rc,rfl,rfl,⟨r1,r2,h1,h2,by simp,by simp,h5,h6,h7⟩⟩ (st2.put0 (o:=3) hw3)⟩
theorem s_rd {n:Int} {R:Int→WP} (st:St w0 (bs++fr) w) (o:RkO r m bs) (hn:n≤9223372036854775807) (k0:m.dead=true→R 11 w)
    (k:m.dead=false→∀ bs' w',RkO r { m with can:=if n< -1 then -1 else n } bs'→St w0 (bs'++fr) w'→R 0 w'):C_y r n w R:=by
 apply S_m
 obtain⟨b,a,c,ra,rc,rfl,rfl,⟨r1,r2,h1,h2,h3,h4,h5,h6,h7⟩⟩:=o
 refine⟨fun h=>(by cases h),fun _=>⟨rfl,m.dead,st.cell 0 rfl rfl,fun h=>k0 h,fun h=>⟨rfl,st.writable 0 rfl (by simp [z4b,poff]),fun w2 hw2=> ?_⟩⟩⟩
 have st2:=st.put0 (o:=3) hw2
 have fin:∀(v:Int) w',v=(if n< -1 then -1 else n)→St w0 (rkC { m with can:=v } b a c ra rc++fr) w'→R 0 w':=fun v w' hv st'=>by
  subst hv
  refine k h _ w' ⟨b,a,c,ra,rc,rfl,rfl,⟨r1,r2,h1,h2,?_,?_,h5,h6,h7⟩⟩ st'
  ·simp only; split <;> omega
  ·simp only; split <;> omega
 unfold F_6
 refine⟨fun hneg=>⟨rfl,st2.writable 0 rfl (by simp [z4b,poff,putL]),fun w3 hw3=> ?_⟩,fun hneg=> ?_⟩
 ·have hneg:=of_decide_eq_true hneg
  refine fin (-1) w3 ?_ (st2.put0 (o:=3) hw3)
  split <;> omega
 ·have hneg:=of_decide_eq_false hneg
  exact fin n w2 (by rw [if_neg O_]) st2
theorem s_L {slot:Int} {R:Int→WP} (st:St w0 (bs++fr) w) (o:RkO r m bs) (hwr:m.writes<4611686018427387904) (k1:¬ (slot=0∨slot=1)→R 1 w)
    (k:slot=0∨slot=1→∀ bs' w',RkO r (zxb m slot).1 bs'→St w0 (bs'++fr) w'→R (zxb m slot).2 w'):C_j r slot w R:=by
 apply S_e
 unfold F_kd F_M
 obtain⟨b,a,c,ra,rc,rfl,rfl,x⟩:=o
 refine⟨fun h=>(by cases h),fun _=>⟨fun h=>k1 (by simp at h; omega),fun h=> ?_⟩⟩
 simp only [Bool.and_eq_false_iff,bne_eq_false_iff_eq] at h
 have k:=k h
 unfold zxb at k
 refine s_nb st x hwr fun w1 x1 st1=>⟨fun h0=> ?_,fun h0=> ?_⟩
 ·have h0:(rawF m).2=0:=by simpa using h0
  rw [if_neg O_] at k
  rw [h0]
  refine⟨rfl,O_,O_,st1.writable 0 rfl (by show 0+1+slot.toNat+1≤6; omega),fun w3 hw3=> ?_⟩
  have st3:=st1.put0 hw3
  rcases h with rfl | rfl
  ·have st4:St w0 ((b,z4b ((rawF m).1.put 0 []) ⟨none,0,0⟩ c)::((ra++rc)++fr)) w3:=st3
   refine k (rkC _ b ⟨none,0,0⟩ c [] rc) w3 ⟨b,⟨none,0,0⟩,c,[],rc,rfl,rfl,⟨RowC.nil,x1.r2,x1.h1,x1.h2,x1.h3,x1.h4,x1.h5,by simp [DM.put],x1.h7⟩⟩ (st4.sub (List.Sublist.cons_cons _ ?_))
   rw [List.append_assoc]
   exact List.sublist_append_right ra _
  ·have st4:St w0 ((b,z4b ((rawF m).1.put 1 []) a ⟨none,0,0⟩)::((ra++rc)++fr)) w3:=st3
   refine k (rkC _ b a ⟨none,0,0⟩ ra []) w3 ⟨b,a,⟨none,0,0⟩,ra,[],rfl,rfl,⟨x1.r1,RowC.nil,x1.h1,x1.h2,x1.h3,x1.h4,x1.h5,x1.h6,by simp [DM.put]⟩⟩ (st4.sub (List.Sublist.cons_cons _ ?_))
   rw [List.append_assoc,List.append_nil]
   exact List.Sublist.append (List.Sublist.refl ra) (List.sublist_append_right rc fr)
 ·have h0:(rawF m).2≠0:=by simpa using h0
  rw [if_pos h0] at k; exact k _ _ ⟨b,a,c,ra,rc,rfl,rfl,x1⟩ st1
end
theorem zJd {W:Nat} {l:List UInt8} (h1:1≤W) (h8:W≤8) (hl:W≤l.length):fixR (W:Int) ⟨l,0⟩=(⟨l.drop W,0⟩,leV (l.take W)):=by
 unfold fixR
 rw [if_neg (by simp),if_neg O_,if_neg (by show ¬ ((W:Int)>(l.length:Int)); omega),Int.toNat_natCast]
theorem zvd {W:Nat} {l:List UInt8} (h1:1≤W) (h8:W≤8) (hl:l.length<W):fixR (W:Int) ⟨l,0⟩=(⟨l,5⟩,0):=by
 unfold fixR
 rw [if_neg (by simp),if_neg O_,if_pos (by show(W:Int)>(l.length:Int); omega)]
theorem zxk {W:Int} {s:RS} (h:s.code≠0):fixR W s=(s,0):=by unfold fixR; exact if_pos h
/-- The four numbers of a head. -/
def rd4 (xs:List UInt8):RS×Nat:=fixR 4 ⟨xs,0⟩
def rd8 (xs:List UInt8):RS×Nat:=fixR 8 (rd4 xs).1
def rdL (xs:List UInt8):RS×Nat:=fixR 4 (rd8 xs).1
def rdS (xs:List UInt8):RS×Nat:=fixR 4 (rdL xs).1
theorem zRt {xs:List UInt8} (h:20≤xs.length):rd4 xs=(⟨xs.drop 4,0⟩,leV (xs.take 4))∧rd8 xs=(⟨xs.drop 12,0⟩,genF xs)∧rdL xs=(⟨xs.drop 16,0⟩,leV ((xs.drop 12).take 4))∧rdS xs=(⟨xs.drop 20,0⟩,leV ((xs.drop 16).take 4)):=by
 have h1:rd4 xs=(⟨xs.drop 4,0⟩,leV (xs.take 4)):=zJd (W:=4) O_ O_ O_
 have h2:rd8 xs=(⟨xs.drop 12,0⟩,genF xs):=by
  unfold rd8
  rw [h1]
  have:=zJd (W:=8) (l:=xs.drop 4) O_ O_ (by rw [List.length_drop]; omega)
  rw [List.drop_drop] at this
  exact this
 have h3:rdL xs=(⟨xs.drop 16,0⟩,leV ((xs.drop 12).take 4)):=by
  unfold rdL
  rw [h2]
  have:=zJd (W:=4) (l:=xs.drop 12) O_ O_ (by rw [List.length_drop]; omega)
  rw [List.drop_drop] at this
  exact this
 refine⟨h1,h2,h3,?_⟩
 unfold rdS
 rw [h3]
 have:=zJd (W:=4) (l:=xs.drop 16) O_ O_ (by rw [List.length_drop]; omega)
 rw [List.drop_drop] at this
 exact this
theorem zyk {xs:List UInt8} (h:xs.length<20):(rdS xs).1.code≠0:=by
 have keep:∀ {W:Int} {s:RS},s.code≠0→(fixR W s).1.code≠0:=fun {W s} hs=>by rw [zxk hs]; exact hs
 by_cases a4:4≤xs.length
 rotate_left
 ·have h1:rd4 xs=(⟨xs,5⟩,0):=zvd (W:=4) O_ O_ O_
  have:(rd4 xs).1.code≠0:=by rw [h1]; show(5:Int)≠0; decide
  exact keep (keep (keep this))
 have h1:rd4 xs=(⟨xs.drop 4,0⟩,leV (xs.take 4)):=zJd (W:=4) O_ O_ O_
 by_cases a12:12≤xs.length
 rotate_left
 ·have h2:rd8 xs=(⟨xs.drop 4,5⟩,0):=by
    unfold rd8; rw [h1]; exact zvd (W:=8) O_ O_ (by rw [List.length_drop]; omega)
  have:(rd8 xs).1.code≠0:=by rw [h2]; show(5:Int)≠0; decide
  exact keep (keep this)
 have h2:rd8 xs=(⟨xs.drop 12,0⟩,genF xs):=by
  unfold rd8
  rw [h1]
  have:=zJd (W:=8) (l:=xs.drop 4) O_ O_ (by rw [List.length_drop]; omega)
  rw [List.drop_drop] at this
  exact this
 by_cases a16:16≤xs.length
 rotate_left
 ·have h3:rdL xs=(⟨xs.drop 12,5⟩,0):=by
    unfold rdL; rw [h2]; exact zvd (W:=4) O_ O_ (by rw [List.length_drop]; omega)
  have:(rdL xs).1.code≠0:=by rw [h3]; show(5:Int)≠0; decide
  exact keep this
 have h3:rdL xs=(⟨xs.drop 16,0⟩,leV ((xs.drop 12).take 4)):=by
  unfold rdL
  rw [h2]
  have:=zJd (W:=4) (l:=xs.drop 12) O_ O_ (by rw [List.length_drop]; omega)
  rw [List.drop_drop] at this
  exact this
 have h4:rdS xs=(⟨xs.drop 16,5⟩,0):=by
  unfold rdS; rw [h3]; exact zvd (W:=4) O_ O_ (by rw [List.length_drop]; omega)
 rw [h4]; show(5:Int)≠0; decide
theorem zNe {xs:List UInt8} {a k:Nat} (h:a+k≤xs.length):fixB k (leV ((xs.drop a).take k))=(xs.drop a).take k:=by
 have e:((xs.drop a).take k).length=k:=by rw [List.length_take,List.length_drop]; omega
 have:∀(l:List UInt8),fixB l.length (leV l)=l:=fun l=>by
  induction l with
  | nil=>rfl
  | cons c r ih =>
   have hb:=c.toNat_lt
   rw [List.length_cons,fixB,leV,show(c.toNat+256*leV r) / 256=leV r from by omega,ih]
   congr 1
   rw [show(c.toNat+256*leV r) % 256=c.toNat from by omega]
   simp
 have:=this ((xs.drop a).take k)
 rw [e] at this; exact this
theorem z9f {k n m:Nat} (hn:n<256 ^ k) (hm:m<256 ^ k) (h:fixB k n=fixB k m):n=m:=by
 rw [←zqh k n hn,h,zqh k m hm]
theorem z5k (xs:List UInt8) (h:20≤xs.length):xs.take 20=xs.take 4++(((xs.drop 4).take 8++(xs.drop 12).take 4)++(xs.drop 16).take 4):=by
 have e1:xs.take 20=xs.take 4++(xs.drop 4).take 16:=by
  rw [show(20:Nat)=4+16 from rfl,List.take_add]
 have e2:(xs.drop 4).take 16=(xs.drop 4).take 8++(xs.drop 12).take 8:=by
  rw [show(16:Nat)=8+8 from rfl,List.take_add,List.drop_drop]
 have e3:(xs.drop 12).take 8=(xs.drop 12).take 4++(xs.drop 16).take 4:=by
  rw [show(8:Nat)=4+4 from rfl,List.take_add,List.drop_drop]
 rw [e1,e2,e3,List.append_assoc]
theorem zYl (xs:List UInt8) (h:20≤xs.length):(xs.drop 4).take 12=(xs.drop 4).take 8++(xs.drop 12).take 4:=by
 rw [show(12:Nat)=8+4 from rfl,List.take_add,List.drop_drop]
/-- The document's tests of a head are the program's. -/
theorem zzk {xs:List UInt8} (h:20≤xs.length) (hl:xs.length<4294967296):zCd xs↔(leV (xs.take 4)=1464880980∧(1≤genF xs∧genF xs≤4611686018427387904)∧leV ((xs.drop 12).take 4)=xs.length - 20 ∧
    leV ((xs.drop 16).take 4)=(~~~ crcF (~~~ (~~~ crcF (~~~ 0#32) ((xs.drop 4).take 12))) (xs.drop 20)).toNat):=by
 have f4:=zNe (xs:=xs) (a:=0) (k:=4) O_
 rw [List.drop_zero] at f4
 have f8:=zNe (xs:=xs) (a:=4) (k:=8) O_
 have fL:=zNe (xs:=xs) (a:=12) (k:=4) O_
 have fS:=zNe (xs:=xs) (a:=16) (k:=4) O_
 have hdl:(xs.drop 20).length=xs.length - 20:=List.length_drop ..
 have l4:(xs.take 4).length=4:=by rw [List.length_take]; omega
 have l8:((xs.drop 4).take 8).length=8:=by rw [List.length_take,List.length_drop]; omega
 have lL:((xs.drop 12).take 4).length=4:=by rw [List.length_take,List.length_drop]; omega
 have lS:((xs.drop 16).take 4).length=4:=by rw [List.length_take,List.length_drop]; omega
 have lt:∀ l:List UInt8,l.length=4→leV l<256 ^ 4:=fun l e=>by have:=zMg l; rw [e] at this; exact this
 have p4:(256:Nat) ^ 4=4294967296:=D_
 constructor
 ·rintro⟨_,hg,he⟩
  rw [z5k xs h] at he
  unfold zwc midF at he
  obtain⟨e1,e2⟩:=List.append_inj he (by rw [l4,fixB_len])
  obtain⟨e3,e4⟩:=List.append_inj e2 (by simp only [List.length_append,fixB_len,l8,lL])
  obtain⟨e5,e6⟩:=List.append_inj e3 (by rw [l8,fixB_len])
  have a1:leV (xs.take 4)=1464880980:=z9f (k:=4) (lt _ l4) D_ (f4.trans e1)
  have a3:leV ((xs.drop 12).take 4)=xs.length - 20:=z9f (k:=4) (lt _ lL) (by rw [p4]; omega) (fL.trans (by rw [←hdl]; exact e6))
  refine⟨a1,hg,a3,?_⟩
  have hmid:(xs.drop 4).take 12=midF (genF xs) (xs.drop 20).length:=by rw [zYl xs h]; exact e3
  have:=z9f (k:=4) (lt _ lS) (by rw [p4]; exact(hcF (genF xs) (xs.drop 20)).isLt) (fS.trans e4)
  rw [this,hmid]; rfl
 ·rintro⟨a1,hg,a3,a4⟩
  refine⟨h,hg,?_⟩
  have hmid:(xs.drop 4).take 12=midF (genF xs) (xs.drop 20).length:=by
   rw [zYl xs h,hdl]
   unfold midF
   rw [←a3,fL]
   show _=fixB 8 (leV ((xs.drop 4).take 8))++_
   rw [f8]
  rw [hmid] at a4
  have a4:leV ((xs.drop 16).take 4)=(hcF (genF xs) (xs.drop 20)).toNat:=a4
  unfold zwc
  rw [z5k xs h,←hmid,←a4,fS,←a1,f4,zYl xs h]
section
variable {w0:Base} {w:World} {fr:List zf}
theorem s_Hd {B:Slc} {xs:List UInt8} {r:RfR} {s:RS} {R:Int→WP} (o:RV B xs r s) (hl:B.len=xs.length) (hb:B.len≤140737488351232) (k:∀ w',Ext w w'→R (s.rest.length:Int) w'):C_C r w R:=by
 apply S_cb
 intro b w1 hb1 hw
 have kb:=Blk.new hb1 hw
 obtain⟨p,hp,hpl,hr⟩:=o.place
 refine⟨r.Gone,kb.cell rfl,fun h=>(by rw [o.gone] at h; cases h),fun _=>⟨r.B,kb.cell rfl,r.At,kb.cell rfl,?_⟩⟩
 have:IntKind.i64.wrap (((r.B.len:Nat):Int) - r.At)=(s.rest.length:Int):=by
  rw [o.row,hp,hr,List.length_drop,i64_in _ O_ O_]; omega
 rw [this]
 exact k w1 (Ext.new hw)
theorem s_E {b_:Slc} {xs:List UInt8} {R:T_b→Int→Bool→WP} (hs:zh w b_ 1 (xs.map bV)) (hl:xs.length<4294967296) (hcap:b_.len≤b_.cap)
    (k:∀ s' eb hc w',SavO s' (zZ xs).1 eb hc→St ⟨w,[]⟩ (eb++hc) w'→R s' (((zZ xs).2.1:Nat):Int) (zZ xs).2.2 w'):C_Db b_ w R:=by
 apply S_9b
 unfold F_4d
 have hxl:b_.len=xs.length:=hs.len_eq
 intro b1 w1 hb1 hw1 b2 w2 hb2 hw2
 have st1:St ⟨w,[]⟩ [(b1,zS)] w1:=(St.start w).alloc hb1 hw1
 have st2:St ⟨w,[]⟩ [(b2,rdV ⟨false,⟨none,0,0⟩,0,0⟩),(b1,zS)] w2:=st1.alloc hb2 hw2
 refine⟨st2.writable 0 rfl D_,fun w3 hw3=> ?_⟩
 have st3:St ⟨w,[]⟩ [(b2,rdV ⟨false,b_,0,0⟩),(b1,zS)] w3:=st2.put0 hw3
 have rv0:RV b_ xs ⟨false,b_,0,0⟩ ⟨xs,0⟩:=⟨rfl,rfl,rfl,0,rfl,Nat.zero_le _,rfl⟩
 refine⟨⟨false,b_,0,0⟩,(st3.get 0 rfl).all,s_e (width:=4) rv0 (st3.ext.src hs) O_ fun r1 w4 rv1 e4=> ?_⟩
 have st4:=st3.keep e4
 refine⟨st4.writable 0 rfl (Nat.le_of_ble_eq_true rfl),fun w5 hw5=> ?_⟩
 have st5:St ⟨w,[]⟩ [(b2,rdV r1),(b1,zS)] w5:=st4.put0 hw5
 have rv1:RV b_ xs r1 (rd4 xs).1:=rv1
 refine⟨r1,(st5.get 0 rfl).all,s_e (width:=8) rv1 (st5.ext.src hs) O_ fun r2 w6 rv2 e6=> ?_⟩
 have st6:=st5.keep e6
 refine⟨st6.writable 0 rfl (Nat.le_of_ble_eq_true rfl),fun w7 hw7=> ?_⟩
 have st7:St ⟨w,[]⟩ [(b2,rdV r2),(b1,zS)] w7:=st6.put0 hw7
 have rv2:RV b_ xs r2 (rd8 xs).1:=rv2
 refine⟨r2,(st7.get 0 rfl).all,s_e (width:=4) rv2 (st7.ext.src hs) O_ fun r3 w8 rv3 e8=> ?_⟩
 have st8:=st7.keep e8
 refine⟨st8.writable 0 rfl (Nat.le_of_ble_eq_true rfl),fun w9 hw9=> ?_⟩
 have st9:St ⟨w,[]⟩ [(b2,rdV r3),(b1,zS)] w9:=st8.put0 hw9
 have rv3:RV b_ xs r3 (rdL xs).1:=rv3
 refine⟨r3,(st9.get 0 rfl).all,s_e (width:=4) rv3 (st9.ext.src hs) O_ fun r4 w10 rv4 e10=> ?_⟩
 have st10:=st9.keep e10
 refine⟨st10.writable 0 rfl (Nat.le_of_ble_eq_true rfl),fun w11 hw11=> ?_⟩
 have st11:St ⟨w,[]⟩ [(b2,rdV r4),(b1,zS)] w11:=st10.put0 hw11
 have rv4:RV b_ xs r4 (rdS xs).1:=rv4
 have st11b:St ⟨w,[]⟩ [(b1,zS),(b2,rdV r4)] w11:=st11.pq
 have zero:∀ {l:List zf} {w':World} {g:Int} {ok:Bool},zZ xs=(zSv,0,false)→g=0→ok=false→St ⟨w,[]⟩ ((b1,zS)::l) w' →
     zd w' b1 0 3∧(∀ w2,w2=World.puts b1 0 zS w'→∃(res:T_b),ze w2 b1 0 (svT res)∧R res g ok w2):=fun {l w' g ok} hz hg hok st'=>by
  subst hg hok
  refine⟨st'.writable 0 rfl D_,fun w2 hw2=> ?_⟩
  have st2:St ⟨w,[]⟩ ((b1,zS)::l) w2:=st'.put0 hw2
  have kk:=k ⟨0,⟨none,0,0⟩,⟨none,0,0⟩⟩ [] [] w2 (by rw [hz]; exact SavO.zero) (by simpa using st2.weak ((b1,zS)::l) (l':=[]) (by simp))
  rw [hz] at kk
  exact⟨_,(st2.get 0 rfl).all,kk⟩
 have bad:¬ zCd xs→∀ {g s:Int} {w':World},St ⟨w,[]⟩ [(b1,zS),(b2,rdV r4)] w'→F_g b_ R b1 g s true w':=fun hn {g s w'} st'=>by
  unfold F_g
  exact⟨fun _=>zero (zHc hn) rfl rfl st',fun h=>(by cases h)⟩
 refine⟨r4.Code,st11.cell 0 rfl rfl,?_⟩
 rw [rv4.code]
 change (((((((rdS xs).1.code != 0)||(((rd4 xs).2:Int) != 1464880980))||(decide (((rd8 xs).2:Int)<1)))||(decide (((rd8 xs).2:Int)>4611686018427387904)))=true→F_g b_ R b1 ((rd8 xs).2:Int) ((rdS xs).2:Int) true w11) ∧
  ((((((rdS xs).1.code != 0)||(((rd4 xs).2:Int) != 1464880980))||(decide (((rd8 xs).2:Int)<1)))||(decide (((rd8 xs).2:Int)>4611686018427387904)))=false→∃(v52:RfR),ze w11 b2 0 (rdV v52)∧C_C v52 w11 (fun(v53:Int) w21=>F_g b_ R b1 ((rd8 xs).2:Int) ((rdS xs).2:Int) (((rdL xs).2:Int) != IntKind.u64.wrap v53) w21)))
 by_cases h20:20≤xs.length
 rotate_left
 ·have hc:=zyk (xs:=xs) O_
  have hb:((((((rdS xs).1.code != 0)||(((rd4 xs).2:Int) != 1464880980))||(decide (((rd8 xs).2:Int)<1)))||(decide (((rd8 xs).2:Int)>4611686018427387904))))=true:=by
   rw [show((rdS xs).1.code != 0)=true from by simpa using hc]; rfl
  rw [hb]
  exact⟨fun _=>bad (fun hh=>h20 hh.1) st11b,fun h=>(by cases h)⟩
 obtain⟨q1,q2,q3,q4⟩:=zRt h20
 rw [q4] at rv4
 rw [q1,q2,q3,q4]
 have hiff:=zzk h20 hl
 refine⟨fun hb=>bad (fun hh=> ?_) st11b,fun hb=> ?_⟩
 ·obtain⟨a1,a2,_⟩:=hiff.1 hh
  simp only [Bool.or_eq_true,bne_iff_ne,ne_eq,decide_eq_true_eq] at hb
  rcases hb with ((hb | hb) | hb) | hb
  ·exact hb trivial
  ·exact hb (by show((leV (xs.take 4):Nat):Int)=1464880980; rw [a1]; rfl)
  ·have hb:((genF xs:Nat):Int)<1:=hb
   omega
  ·have hb:((genF xs:Nat):Int)>4611686018427387904:=hb
   omega
 simp only [Bool.or_eq_false_iff,bne_eq_false_iff_eq,decide_eq_false_iff_not] at hb
 obtain⟨⟨⟨_,hb1⟩,hb2⟩,hb3⟩:=hb
 have hb1:((leV (xs.take 4):Nat):Int)=1464880980:=hb1
 have hb2:¬ (((genF xs:Nat):Int)<1):=hb2
 have hb3:¬ (((genF xs:Nat):Int)>4611686018427387904):=hb3
 refine⟨r4,(st11.get 0 rfl).all,s_Hd rv4 hxl O_ fun w21 e21=> ?_⟩
 have st21:=st11b.keep e21
 have hdl:(xs.drop 20).length=xs.length - 20:=List.length_drop ..
 have hu:IntKind.u64.wrap (((⟨xs.drop 20,0⟩:RS).rest.length:Nat):Int)=((xs.length - 20:Nat):Int):=by
  show IntKind.u64.wrap (((xs.drop 20).length:Nat):Int)=_
  rw [hdl,zX _ O_ O_]
 rw [hu]
 by_cases hL:leV ((xs.drop 12).take 4)=xs.length - 20
 rotate_left
 ·have:((((leV ((xs.drop 12).take 4):Nat):Int)) != ((xs.length - 20:Nat):Int))=true:=by rw [bne_iff_ne]; omega
  rw [this]
  exact bad (fun hh=>hL (hiff.1 hh).2.2.1) st21
 have:((((leV ((xs.drop 12).take 4):Nat):Int)) != ((xs.length - 20:Nat):Int))=false:=by rw [bne_eq_false_iff_eq]; omega
 rw [this]
 unfold F_g
 refine⟨fun h=>(by cases h),fun _=>⟨⟨O_,O_,O_,O_⟩,fun s hs1=>⟨⟨O_,O_,O_,O_⟩,fun s2 hs2=> ?_⟩⟩⟩
 have hcut:∀ {w':World},Ext w w'→zh w' s 1 ((xs.drop 20).map bV)∧zh w' s2 1 (((xs.drop 4).take 12).map bV):=fun {w'} e=>by
  have c1:=(e.src hs).cut (lo:=20) (hi:=((b_.len:Nat):Int)) (mx:=((b_.cap:Nat):Int)) O_ O_ O_ O_
  have c2:=(e.src hs).cut (lo:=4) (hi:=16) (mx:=((b_.cap:Nat):Int)) O_ O_ O_ O_
  have e1:((xs.map bV).drop ((20:Int).toNat*1)).take ((((b_.len:Nat):Int).toNat - (20:Int).toNat)*1)=(xs.drop 20).map bV:=by
   rw [Nat.mul_one,Nat.mul_one,←List.map_drop,List.take_of_length_le (by rw [List.length_map,List.length_drop,Int.toNat_natCast]; show _≤b_.len - 20; omega)]
   rfl
  have e2:((xs.map bV).drop ((4:Int).toNat*1)).take (((16:Int).toNat - (4:Int).toNat)*1)=((xs.drop 4).take 12).map bV:=by
   rw [←List.map_drop,←List.map_take]; rfl
  rw [e1,←hs1] at c1
  rw [e2,←hs2] at c2
  exact⟨c1,c2⟩
 obtain⟨d1,d2⟩:=hcut st21.ext
 have hsl:s.len=xs.length - 20:=by rw [d1.len_eq,hdl]
 have hs2l:s2.len=12:=by rw [d2.len_eq,List.length_take,List.length_drop]; omega
 refine s_j d2 O_ (s_d d1 O_ ?_)
 have hlt:(~~~ crcF (~~~ (~~~ crcF (~~~ 0#32) ((xs.drop 4).take 12))) (xs.drop 20)).toNat<4294967296:=(~~~ crcF (~~~ (~~~ crcF (~~~ 0#32) ((xs.drop 4).take 12))) (xs.drop 20)).isLt
 have hu2:IntKind.u64.wrap (U (~~~ crcF (~~~ (~~~ crcF (~~~ 0#32) ((xs.drop 4).take 12))) (xs.drop 20)))=(((~~~ crcF (~~~ (~~~ crcF (~~~ 0#32) ((xs.drop 4).take 12))) (xs.drop 20)).toNat:Nat):Int):=zX (((~~~ crcF (~~~ (~~~ crcF (~~~ 0#32) ((xs.drop 4).take 12))) (xs.drop 20)).toNat:Nat):Int) O_ O_
 rw [hu2]
 refine⟨fun hne=> ?_,fun heq=> ?_⟩
 ·refine zero (zHc fun hh=> ?_) rfl rfl st21
  have:=(hiff.1 hh).2.2.2
  rw [this] at hne; simp at hne
 have heq:leV ((xs.drop 16).take 4)=(~~~ crcF (~~~ (~~~ crcF (~~~ 0#32) ((xs.drop 4).take 12))) (xs.drop 20)).toNat:=by
  exact Int.ofNat_inj.1 (bne_eq_false_iff_eq.1 heq)
 have hok:zCd xs:=hiff.2 ⟨O_,⟨O_,O_⟩,hL,heq⟩
 have hW:=z3d hok
 have hsc:s.len≤s.cap:=by
  rw [hs1]; unfold Slc.cut; simp only [Int.toNat_natCast]; omega
 refine s_Eb st21 (fun l w' st'=>(hcut st'.ext).1) O_ hsc fun s' eb hc w17 o17 st17 b3 w18 hb3 hw18=> ?_
 have st18:=st17.alloc (cs:=zS) hb3 hw18
 refine⟨st18.writable 0 rfl D_,fun w19 hw19=> ?_⟩
 have st19:St ⟨w,[]⟩ ((b3,svT s')::(eb++(hc++[(b1,zS),(b2,rdV r4)]))) w19:=st18.put0 hw19
 have st19b:St ⟨w,[]⟩ ((b1,zS)::(b3,svT s')::(eb++(hc++[(b2,rdV r4)]))) w19:=st19.pq
 refine⟨s',(st19.get 0 rfl).all,st19b.writable 0 rfl D_,fun w20 hw20=> ?_⟩
 have st20:St ⟨w,[]⟩ ((b1,svT s')::(b3,svT s')::(eb++(hc++[(b2,rdV r4)]))) w20:=st19b.put0 hw20
 have kk:=k s' eb hc w20 (by rw [hW]; exact o17) (st20.wq [(b1,svT s'),(b3,svT s'),(b2,rdV r4)])
 rw [hW] at kk
 have e0:((decM (xs.drop 20)).2==0)=decide ((decM (xs.drop 20)).2=0):=by
  by_cases h:(decM (xs.drop 20)).2=0
  ·rw [h]; rfl
  ·rw [decide_eq_false h,beq_eq_false_iff_ne.2 h]
 rw [e0]
 exact⟨s',(st20.get 0 rfl).all,kk⟩
/-- A head and its bytes. -/
theorem s_3b {g:Nat} {x:Slc} {xs:List UInt8} {R:Slc→WP} (hs:zh w x 1 (xs.map bV)) (hg:g<2 ^ 64) (hl:xs.length<4294967296)
    (k:∀ s rb w',RowC 1 s ((zwc g xs++xs).map bV) rb→St ⟨w,[]⟩ rb w'→R s w'):C_fc (g:Int) x w R:=by
 apply S_8b
 unfold F_1d
 have hxl:x.len=xs.length:=hs.len_eq
 have p4:(256:Nat) ^ 4=4294967296:=D_
 have p8:(256:Nat) ^ 8=2 ^ 64:=D_
 refine s_h (n:=1464880980) (width:=4) (xs:=[]) (wb:=[]) (fr:=[]) RowC.nil (St.start w) D_ (by simp) (fun h=>by omega) (fun _ _ h=>absurd h (by show ¬ (256 ^ 4≤1464880980); decide)) fun _ _ _ s1 rb1 w1 r1 st1=> ?_
 refine s_h (n:=g) (width:=8) (xs:=[]) (wb:=[]) (fr:=rb1) RowC.nil (by simpa using st1) hg (by simp) (fun h=>by omega) (fun _ _ h=>absurd h (by show ¬ (256 ^ 8≤g); omega)) fun _ _ _ s2 rb2 w2 r2 st2=> ?_
 rw [List.nil_append] at r1 r2
 have st2:St ⟨w,[]⟩ (rb2++rb1) w2:=st2.pq
 have hu:IntKind.u64.wrap ((x.len:Nat):Int)=((xs.length:Nat):Int):=by rw [hxl,zX _ O_ O_]
 rw [hu]
 refine s_h (n:=xs.length) (width:=4) (fr:=rb1) r2 st2 O_ (by rw [fixB_len]; decide) (fun h=>by omega) (fun _ _ h=>absurd h (by show ¬ (256 ^ 4≤xs.length); omega)) fun _ _ _ s3 rb3 w3 r3 st3=> ?_
 have r3:RowC 1 s3 ((midF g xs.length).map bV) rb3:=r3
 have hml:(midF g xs.length).length=12:=by unfold midF; rw [List.length_append,fixB_len,fixB_len]
 have hs3:s3.len=12:=by have:=r3.len; rw [List.length_map,Nat.mul_one,hml] at this; omega
 refine s_j (r3.src st3) O_ (s_d (st3.ext.src hs) O_ ?_)
 have hlt:(hcF g xs).toNat<4294967296:=(hcF g xs).isLt
 have hu2:IntKind.u64.wrap (U (~~~ crcF (~~~ (~~~ crcF (~~~ 0#32) (midF g xs.length))) xs))=(((hcF g xs).toNat:Nat):Int):=zX (((hcF g xs).toNat:Nat):Int) O_ O_
 have one8:∀ l:List UInt8,zQ (l.map bV)=true:=fun l=>by
  induction l with
  | nil=>rfl
  | cons a l ih=>rw [List.map_cons]; exact ih
 have hs1:s1.len=4:=by have:=r1.len; rw [List.length_map,Nat.mul_one,fixB_len] at this; exact this.symm
 refine⟨_,r3.src st3,?_⟩
 have st3b:St ⟨w,[]⟩ (rb1++rb3) w3:=st3.pq
 refine r1.append st3b (by rw [List.length_map,hml,hs3]) (one8 _) rfl (by rw [hs1,hs3]; decide) fun s4 rb4 w4 r4 st4 hl4=> ?_
 rw [←List.map_append] at r4
 rw [hu2]
 refine s_h (n:=(hcF g xs).toNat) (width:=4) r4 st4 O_ (by rw [List.length_append,fixB_len,hml]; decide) (fun h=>by omega) (fun _ _ h=>absurd h (by show ¬ (256 ^ 4≤(hcF g xs).toNat); omega)) fun _ _ _ s5 rb5 w5 r5 st5=> ?_
 refine⟨_,st5.ext.src hs,?_⟩
 have hs5:s5.len=20:=by have:=r5.len; rw [List.length_map,Nat.mul_one,List.length_append,List.length_append,fixB_len,hml,fixB_len] at this; exact this.symm
 refine r5.append st5 (by rw [List.length_map,Nat.mul_one,hxl]) (one8 _) rfl (by rw [hs5]; omega) fun s6 rb6 w6 r6 st6 hl6=> ?_
 refine k s6 rb6 w6 ?_ (st6.wq rb3)
 have e:(zwc g xs++xs).map bV=(fixB 4 1464880980++midF g xs.length++fixB 4 (hcF g xs).toNat).map bV++xs.map bV:=by
  unfold zwc
  rw [List.map_append,List.append_assoc]
 rw [e]; exact r6
end
end Go.Proofs.YtjlfdepkphibgaaGreatDoor
