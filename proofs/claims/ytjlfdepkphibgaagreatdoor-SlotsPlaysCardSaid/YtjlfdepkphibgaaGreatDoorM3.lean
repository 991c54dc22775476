/- What the law of chapter 19 on scripts says: the program's disk with savers, and the document's, answer alike. -/
import Derived.Test.YtjlfdepkphibgaaGreatDoorM2
import Derived.Test.YtjlfdepkphibgaaGreatDoorGtowpathlaw01
import Derived.Test.YtjlfdepkphibgaaGreatDoorGtowpathlaw19
import Derived.Lib.LaidTab
import Derived.Lib.ItoaLen
import Derived.Shelf.Strconv.Itoa3
import Derived.Ground.NamesProg
import Derived.Test.YtjlfdepkphibgaaGreatDoorGSlotsPlays
namespace Go.Proofs.YtjlfdepkphibgaaGreatDoor
open Go
set_option linter.unusedVariables false
set_option linter.unusedSimpArgs false

/-- A saver: its slot, all its bytes, how many raw writes are done. -/
structure SvrM where
 slot:Int
 all:List UInt8
 done:Nat
def SvrM.at_ (s:SvrM):Nat:=min (64*(s.done - 1)) s.all.length
def SvrM.left (s:SvrM):Nat:=1+(s.all.length+63) / 64 - s.done
def zkk (s:SvrM):Prop:=s.done≤1+(s.all.length+63) / 64∧(s.slot=0∨s.slot=1)∧s.all.length≤16777216
abbrev svrC (d:OA) (s:SvrM) (rs:Slc):List Value:=[Value.func (.func 19) #[Vp d] #[],Value.func (.func 21) #[Vp d] #[],Vi s.slot,Vs rs,Vi (s.at_:Int),Vo (decide (s.done≠0))]
def SvrO (d t:OA) (s:SvrM) (cs:List zf):Prop:=∃(b:Nat) (rs:Slc) (rb:List zf),t=some ⟨b,0,none⟩∧cs=(b,svrC d s rs)::rb∧RowC 1 rs ((s.all.drop s.at_).map bV) rb∧zkk s
theorem zlk {d:OA} {slot at_:Int} {b:Slc} {w:World} {R:Int→WP} (h:C_U d slot at_ b w R) :
    zU (P:=Tryz.prog) (Value.func (.func 19) #[Vp d] #[]) #[Vi slot,Vi at_,Vs b] w (fun e w'=>∃(v:Int),e=Ending.returned (Vi v)∧R v w') :=
 zU.mk (all:=#[Vp d,Vi slot,Vi at_,Vs b]) K_ rfl h
theorem zmk {d:OA} {slot:Int} {w:World} {R:Int→WP} (h:C_z d slot w R) :
    zU (P:=Tryz.prog) (Value.func (.func 21) #[Vp d] #[]) #[Vi slot] w (fun e w'=>∃(v:Int),e=Ending.returned (Vi v)∧R v w') :=
 zU.mk (all:=#[Vp d,Vi slot]) K_ rfl h
theorem fnV_func {f:Fn} {a c:Array Value}:FnV (Value.func f a c):= .inr ⟨f,a,c,rfl⟩
noncomputable def zbd (m:DM) (s:SvrM):(DM×SvrM)×Int :=
 if s.done=0 then(((zxb m s.slot).1,if(zxb m s.slot).2=0 then { s with done:=1 } else s),(zxb m s.slot).2)
 else if s.left=0 then((m,s),9)
 else(((zVb m s.slot (s.at_:Int) ((s.all.drop s.at_).take 64)).1,if(zVb m s.slot (s.at_:Int) ((s.all.drop s.at_).take 64)).2=0 then { s with done:=s.done+1 } else s),(zVb m s.slot (s.at_:Int) ((s.all.drop s.at_).take 64)).2)
theorem zCf {m:DM} {s:SvrM} (h:s.done=0):zbd m s=(((zxb m s.slot).1,if(zxb m s.slot).2=0 then { s with done:=1 } else s),(zxb m s.slot).2):=by unfold zbd; exact if_pos h
theorem zDf {m:DM} {s:SvrM} (h:s.done≠0) (h2:s.left=0):zbd m s=((m,s),9):=by unfold zbd; rw [if_neg h]; exact if_pos h2
theorem zVe {m:DM} {s:SvrM} (h:s.done≠0) (h2:s.left≠0):zbd m s=(((zVb m s.slot (s.at_:Int) ((s.all.drop s.at_).take 64)).1,if(zVb m s.slot (s.at_:Int) ((s.all.drop s.at_).take 64)).2=0 then { s with done:=s.done+1 } else s),(zVb m s.slot (s.at_:Int) ((s.all.drop s.at_).take 64)).2):=by unfold zbd; rw [if_neg h,if_neg h2]
theorem SvrM.left_eq {s:SvrM} (h:zkk s):s.left=(s.all.length - s.at_+63) / 64+(if s.done=0 then 1 else 0):=by
 obtain⟨h1,_,_⟩:=h
 unfold SvrM.left SvrM.at_
 by_cases h0:s.done=0
 ·rw [if_pos h0,h0]; simp only [Nat.zero_sub,Nat.mul_zero,Nat.zero_min]; omega
 ·rw [if_neg h0]; omega
theorem SvrM.at_lt {s:SvrM} (h:zkk s) (h0:s.done≠0) (hl:s.left≠0):s.at_=64*(s.done - 1)∧s.at_<s.all.length:=by
 obtain⟨h1,_,_⟩:=h
 unfold SvrM.left at hl
 unfold SvrM.at_
 omega
section
variable {w0:Base} {w:World} {fr bs cs:List zf} {d t:OA} {m:DM} {s:SvrM}
theorem s_qb {R:Int→WP} (k:R 0 w):C_s none w R:=by
 apply S_k
 unfold F_Sc
 refine⟨fun _=> ?_,fun h=>(by cases h)⟩
 unfold F_K
 exact⟨fun _=>k,fun h=>(by cases h)⟩
theorem s_rb {R:Int→WP} (k:R 2 w):C_r none w R:=by
 apply S_j
 unfold F_Rc
 refine⟨fun _=> ?_,fun h=>(by cases h)⟩
 unfold F_J
 exact⟨fun _=>k,fun h=>(by cases h)⟩
abbrev zSvr:List Value:=[Value.nilFunc,Value.nilFunc,Vi 0,Value.slice none 0 0,Vi 0,Vo false]
theorem s_cc {b:Nat} {R:Int→WP} (st:St w0 ((b,zSvr)::fr) w) (k:R 0 w):C_s (some ⟨b,0,none⟩) w R:=by
 apply S_k
 unfold F_Sc
 refine⟨fun h=>(by cases h),fun _=>⟨rfl,Value.nilFunc,st.cell 0 rfl rfl,.inl rfl,?_⟩⟩
 unfold F_K
 exact⟨fun _=>k,fun h=>(by cases h)⟩
theorem s_dc {b:Nat} {R:Int→WP} (st:St w0 ((b,zSvr)::fr) w) (k:R 2 w):C_r (some ⟨b,0,none⟩) w R:=by
 apply S_j
 unfold F_Rc
 refine⟨fun h=>(by cases h),fun _=>⟨rfl,Value.nilFunc,st.cell 0 rfl rfl,.inl rfl,?_⟩⟩
 unfold F_J
 exact⟨fun _=>k,fun h=>(by cases h)⟩
theorem s_Gc {R:Int→WP} (st:St w0 (cs++fr) w) (o:SvrO d t s cs) (k:R ((s.left:Nat):Int) w):C_s t w R:=by
 apply S_k
 unfold F_Sc
 obtain⟨b,rs,rb,rfl,rfl,r,hok⟩:=o
 have hle:=SvrM.left_eq hok
 have h3:=hok.2.2
 have hrl:=r.len
 rw [List.length_map,List.length_drop,Nat.mul_one] at hrl
 refine⟨fun h=>(by cases h),fun _=>⟨rfl,_,st.cell 0 rfl rfl,fnV_func,?_⟩⟩
 unfold F_K
 refine⟨fun h=>(by cases h),fun _=>⟨rfl,rs,st.cell 0 rfl rfl,rfl,decide (s.done≠0),st.cell 0 rfl rfl,?_⟩⟩
 unfold F_4b
 have e1:IntKind.i64.wrap (Int.tdiv (IntKind.i64.wrap (IntKind.i64.wrap (((rs.len:Nat):Int)+64) - 1)) 64)=(((rs.len+63) / 64:Nat):Int):=by
  rw [i64_in (((rs.len:Nat):Int)+64) O_ O_,show((rs.len:Nat):Int)+64 - 1=((rs.len+63:Nat):Int) from by omega,i64_in ((rs.len+63:Nat):Int) O_ O_]
  have e:Int.tdiv ((rs.len+63:Nat):Int) 64=(((rs.len+63) / 64:Nat):Int):=tdiv_nat (rs.len+63) 64
  rw [e,i64_in _ O_ O_]
 rw [e1]
 by_cases h0:s.done=0
 ·rw [if_pos h0] at hle
  rw [decide_eq_false O_]
  refine⟨fun _=> ?_,fun h=>(by cases h)⟩
  rw [i64_in _ O_ O_]
  have:(((rs.len+63) / 64:Nat):Int)+1=((s.left:Nat):Int):=O_
  rw [this]; exact k
 ·rw [if_neg h0] at hle
  rw [decide_eq_true h0]
  refine⟨fun h=>(by cases h),fun _=> ?_⟩
  have:(((rs.len+63) / 64:Nat):Int)=((s.left:Nat):Int):=O_
  rw [this]; exact k
theorem s_Hc {R:Int→WP} (st:St w0 (bs++(cs++fr)) w) (od:DkO d m bs) (o:SvrO d t s cs) (hwr:m.writes<4611686018427387904)
    (k:∀ bs' cs' w',DkO d (zbd m s).1.1 bs'→SvrO d t (zbd m s).1.2 cs'→St w0 (bs'++(cs'++fr)) w'→R (zbd m s).2 w'):C_r t w R:=by
 apply S_j
 unfold F_Rc
 obtain⟨b,rs,rb,rfl,rfl,r,hok⟩:=o
 have hle:=SvrM.left_eq hok
 have h3:=hok.2.2
 have hrl:=r.len
 rw [List.length_map,List.length_drop,Nat.mul_one] at hrl
 have st1:St w0 ((b,svrC d s rs)::(bs++(rb++fr))) w:=st.pq
 refine⟨fun h=>(by cases h),fun _=>⟨rfl,_,st1.cell 0 rfl rfl,fnV_func,?_⟩⟩
 unfold F_J
 refine⟨fun h=>(by cases h),fun _=>⟨rfl,decide (s.done≠0),st1.cell 0 rfl rfl,fun h0=> ?_,fun h0=> ?_⟩⟩
 ·have h0:s.done=0:=by simpa using h0
  rw [zCf h0] at k
  intro w2 hd2
  have st2:=st.drew hd2
  have st2c:=st1.drew hd2
  refine⟨rfl,_,st2c.cell 0 rfl rfl,rfl,s.slot,st2c.cell 0 rfl rfl,zmk ?_⟩
  refine s_y st2 od hok.2.1 hwr fun bs' w3 od' st3=> ?_
  have st3:St w0 ((b,svrC d s rs)::(bs'++(rb++fr))) w3:=st3.pq
  refine⟨rfl,st3.writable 0 rfl (Nat.le_of_ble_eq_true rfl),fun w4 hw4=> ?_⟩
  have st4:=st3.put0 hw4
  rw [ztb] at st4
  by_cases hc:(zxb m s.slot).2=0
  ·rw [if_pos hc] at k
   rw [hc] at st4
   refine k bs' _ w4 od' ⟨b,rs,rb,rfl,rfl,?_,⟨by show 1≤_; omega,hok.2⟩⟩ ?_
   ·have e:({ s with done:=1 }:SvrM).at_=s.at_:=by unfold SvrM.at_; simp [h0]
    show RowC 1 rs ((s.all.drop ({ s with done:=1 }:SvrM).at_).map bV) rb
    rw [e]; exact r
   ·have e:(svrC d s rs).set (poff (some ⟨b,0,none⟩:OA)+5) (Vo ((0:Int)==0))=svrC d { s with done:=1 } rs:=by
      have e:({ s with done:=1 }:SvrM).at_=s.at_:=by unfold SvrM.at_; simp [h0]
      unfold svrC
      rw [e]; rfl
    have st4:St w0 ((b,(svrC d s rs).set (poff (some ⟨b,0,none⟩:OA)+5) (Vo ((0:Int)==0)))::(bs'++(rb++fr))) w4:=st4
    rw [e] at st4
    exact st4.pq
  ·rw [if_neg hc] at k
   refine k bs' _ w4 od' ⟨b,rs,rb,rfl,rfl,r,hok⟩ ?_
   have e:(svrC d s rs).set (poff (some ⟨b,0,none⟩:OA)+5) (Vo ((zxb m s.slot).2==0))=svrC d s rs:=by
    unfold svrC
    rw [beq_eq_false_iff_ne.2 hc,decide_eq_false (by omega:¬ s.done≠0)]; rfl
   have st4:St w0 ((b,(svrC d s rs).set (poff (some ⟨b,0,none⟩:OA)+5) (Vo ((zxb m s.slot).2==0)))::(bs'++(rb++fr))) w4:=st4
   rw [e] at st4
   exact st4.pq
 have h0:s.done≠0:=by simpa using h0
 rw [if_neg h0] at hle
 refine⟨rfl,rs,st1.cell 0 rfl rfl,fun hz=> ?_,fun hz=> ?_⟩
 ·have hz:((rs.len:Nat):Int)=0:=by simpa using hz
  rw [zDf h0 O_] at k
  exact k bs _ w od ⟨b,rs,rb,rfl,rfl,r,hok⟩ st
 have hz:((rs.len:Nat):Int)≠0:=by simpa using hz
 have hlf:s.left≠0:=O_
 obtain⟨ha1,ha2⟩:=SvrM.at_lt hok h0 hlf
 rw [zVe h0 hlf] at k
 have hcp:=r.cap_le
 have hmin:(if(64:Int)<((rs.len:Nat):Int) then(64:Int) else((rs.len:Nat):Int))=((min rs.len 64:Nat):Int):=by split <;> omega
 refine⟨rfl,rs,st1.cell 0 rfl rfl,rfl,rs,st1.cell 0 rfl rfl,?_⟩
 rw [hmin,Int.toNat_natCast]
 refine⟨O_,O_,fun w5 e5 w6 hd6=> ?_⟩
 have st6:=(st.keep e5).drew hd6
 have st6c:=(st1.keep e5).drew hd6
 refine⟨rfl,_,st6c.cell 0 rfl rfl,rfl,s.slot,st6c.cell 0 rfl rfl,rfl,(s.at_:Int),st6c.cell 0 rfl rfl,?_⟩
 have hys:((s.all.drop s.at_).take 64).length=min rs.len 64:=by rw [List.length_take,List.length_drop]; omega
 refine zlk (b:=⟨rs.ptr,min rs.len 64,rs.cap⟩) (s_x st6 od hwr (ys:=(s.all.drop s.at_).take 64) (fun l' w' st'=> ?_) fun bs' w7 od' st7=> ?_)
 ·have stp:St w0 (rb++(l'++((b,svrC d s rs)::fr))) w':=st'.pq
  have:=(r.src stp).pre (k:=min rs.len 64) O_
  rw [Nat.mul_one,←List.map_take] at this
  have e:(s.all.drop s.at_).take (min rs.len 64)=(s.all.drop s.at_).take 64:=by
   by_cases h64:rs.len≤64
   ·rw [Nat.min_eq_left h64,List.take_of_length_le (by rw [List.length_drop]; omega),List.take_of_length_le (by rw [List.length_drop]; omega)]
   ·rw [Nat.min_eq_right O_]
  rw [e] at this; exact this
 refine⟨fun hne=> ?_,fun hne=> ?_⟩
 ·have hne:(zVb m s.slot (s.at_:Int) ((s.all.drop s.at_).take 64)).2≠0:=by simpa using hne
  rw [if_neg hne] at k
  exact k bs' _ w7 od' ⟨b,rs,rb,rfl,rfl,r,hok⟩ st7
 have hne:(zVb m s.slot (s.at_:Int) ((s.all.drop s.at_).take 64)).2=0:=by simpa using hne
 rw [if_pos hne] at k
 rw [hne] at k
 have st7c:St w0 ((b,svrC d s rs)::(bs'++(rb++fr))) w7:=st7.pq
 refine⟨rfl,rs,st7c.cell 0 rfl rfl,⟨O_,O_,O_,O_⟩,fun s1 hs1=> ?_⟩
 have r1:=r.cut (lo:=((min rs.len 64:Nat):Int)) (hi:=((rs.len:Nat):Int)) (mx:=((rs.cap:Nat):Int)) O_ O_ O_ O_ O_
 rw [←hs1] at r1
 have hat:({ s with done:=s.done+1 }:SvrM).at_=s.at_+min rs.len 64:=by
  show min (64*(s.done+1 - 1)) s.all.length=_
  omega
 have e1:(((s.all.drop s.at_).map bV).drop (((min rs.len 64:Nat):Int).toNat*1)).take ((((rs.len:Nat):Int).toNat - ((min rs.len 64:Nat):Int).toNat)*1)=(s.all.drop ({ s with done:=s.done+1 }:SvrM).at_).map bV:=by
  rw [Nat.mul_one,Nat.mul_one,Int.toNat_natCast,Int.toNat_natCast,←List.map_drop,List.drop_drop,hat,List.take_of_length_le (by rw [List.length_map,List.length_drop]; omega)]
 rw [e1] at r1
 refine⟨rfl,st7c.writable 0 rfl (Nat.le_of_ble_eq_true rfl),fun w8 hw8=> ?_⟩
 have st8:=st7c.put0 hw8
 rw [ztb] at st8
 have st8:St w0 ((b,(svrC d s rs).set 3 (Vs s1))::(bs'++(rb++fr))) w8:=st8
 refine⟨rfl,(s.at_:Int),st8.cell 0 rfl rfl,st8.writable 0 rfl (Nat.le_of_ble_eq_true rfl),fun w9 hw9=> ?_⟩
 have st9:=st8.put0 hw9
 rw [ztb] at st9
 have hw:IntKind.i64.wrap ((s.at_:Int)+((min rs.len 64:Nat):Int))=((({ s with done:=s.done+1 }:SvrM).at_:Nat):Int):=by rw [i64_in _ O_ O_,hat]; omega
 rw [hw] at st9
 have e9:((svrC d s rs).set 3 (Vs s1)).set (poff (some ⟨b,0,none⟩:OA)+4) (Vi ((({ s with done:=s.done+1 }:SvrM).at_:Nat):Int))=svrC d { s with done:=s.done+1 } s1:=by
  unfold svrC
  rw [decide_eq_true h0,decide_eq_true (show({ s with done:=s.done+1 }:SvrM).done≠0 from Nat.succ_ne_zero _)]; rfl
 rw [e9] at st9
 refine k bs' _ w9 od' ⟨b,s1,rb,rfl,rfl,r1,⟨?_,hok.2⟩⟩ (st9.pq)
 show s.done+1≤_
 unfold SvrM.left at hlf
 show s.done+1≤1+(s.all.length+63) / 64
 omega
end
/-- What becomes of a checkpoint that is to be saved: a saver, or the refusal. -/
noncomputable def zId (m:DM):Int:=if(newM m).ok=true then 1 - (newM m).slot else(newM m).slot
noncomputable def allN (m:DM) (v:SvM):List UInt8:=zwc ((newM m).gen+1) (encS v)++encS v
open Classical in
noncomputable def zbc (m:DM) (v:SvM):Int:=if ¬ ckOk v then 1 else if(newM m).gen=4611686018427387904 then 3 else if((encS v).length:Int)>m.cap - 20 then 13 else 0
theorem zTd (m:DM):∀ p,p≤2→((accM m p).slot=0∨(accM m p).slot=1)
 | 0,_=> .inl rfl
 | p+1,h=>by
  show(zUb _ _ _).slot=0∨(zUb _ _ _).slot=1
  unfold zUb
  split
  ·show(p:Int)=0∨(p:Int)=1; omega
  ·exact zTd m p O_
theorem zEg (m:DM):zId m=0∨zId m=1:=by
 have:=zTd m 2 (Nat.le_refl _)
 unfold zId newM
 split <;> omega
section
variable {w0:Base} {w:World} {fr bs:List zf} {d:OA} {m:DM} {sv:T_b} {v:SvM} {os:List HO}
theorem s_bd {R:OA→Int→WP} (st:St w0 (bs++fr) w) (od:DkO d m bs) (ha:∀ l w',St w0 (l++fr) w'→SvAt w' sv v os) (hl:(encS v).length≤1073741824)
    (k1:zbc m v≠0→∀ w',St w0 (bs++fr) w'→R none (zbc m v) w') (k0:zbc m v=0→∀ t cs w',SvrO d t ⟨zId m,allN m v,0⟩ cs→St w0 (bs++(cs++fr)) w'→R t 0 w'):C_kc d sv w R:=by
 apply S_wc
 unfold F_Ze
 intro b w1 hb hw1
 have st1:St w0 ((b,svT sv)::(bs++fr)) w1:=st.alloc hb hw1
 have st1:St w0 (bs++((b,svT sv)::fr)) w1:=st1.pq
 have hge:=zLe m 2
 have hsl:=zTd m 2 (Nat.le_refl _)
 refine s_jb st1 od fun s' eb hc w2 oS st2 b1 w3 hb1 hw3=> ?_
 have st3:=st2.alloc (cs:=svT ⟨0,⟨none,0,0⟩,⟨none,0,0⟩⟩) hb1 hw3
 refine⟨st3.writable 0 rfl D_,fun w4 hw4=> ?_⟩
 have st4:St w0 ((b1,svT s')::(eb++(hc++(bs++((b,svT sv)::fr))))) w4:=st3.put0 hw4
 have st4:St w0 ((b,svT sv)::(bs++fr)) w4:=st4.wq ((b1,svT s')::(eb++hc))
 refine⟨fun h=>(by simp at h),fun _=>⟨sv,(st4.get 0 rfl).all,?_⟩⟩
 have ha4:SvAt w4 sv v os:=ha ((b,svT sv)::bs) w4 (st4.pq)
 refine s_hb ha4 O_ (fun hno w5 e5=>⟨fun _=> ?_,fun h=>(by simp at h)⟩) fun hk x xb w5 rx st5 hx5=>⟨fun h=>(by simp at h),fun _=> ?_⟩
 ·have hc1:zbc m v=1:=by unfold zbc; exact if_pos hno
  have:=k1 (by rw [hc1]; decide) w5 (st4.keep e5).drop1
  rw [hc1] at this; exact this
 have st5:=st4.more st5
 have st5:St w0 (xb++(bs++((b,svT sv)::fr))) w5:=st5.pq
 have go:F_qd d R (((newM m).gen:Nat):Int) x (zId m) w5:=by
  unfold F_qd
  refine⟨fun hg=> ?_,fun hg=> ?_⟩
  ·have hg:(newM m).gen=4611686018427387904:=by have:=beq_iff_eq.1 hg; omega
   have hc3:zbc m v=3:=by unfold zbc; rw [if_neg (fun h=>h hk),if_pos hg]
   have:=k1 (by rw [hc3]; decide) w5 (st5.wq (xb++[(b,svT sv)]))
   rw [hc3] at this; exact this
  have hg:(newM m).gen≠4611686018427387904:=fun h=>by rw [h] at hg; simp at hg
  have hge:(newM m).gen≤4611686018427387904:=hge
  have hgw:IntKind.u64.wrap (IntKind.u64.wrap (((newM m).gen:Nat):Int)+1)=(((newM m).gen+1:Nat):Int):=by
   rw [zX (((newM m).gen:Nat):Int) O_ O_,zX _ O_ O_]; omega
  rw [hgw]
  refine s_pb (g:=(newM m).gen+1) (rx.src st5) O_ O_ fun w7 e7 _ b2 w8 hb2 hw8=> ?_
  have st7:=st5.keep e7
  have st8:=st7.alloc hb2 hw8
  have hl20:((zwc ((newM m).gen+1) (encS v)).map i8).length=20:=by rw [List.length_map,zJc]
  have zl:((List.replicate 20 (0:Int)).map (Value.int .u8)).length=20:=by rw [List.length_map,List.length_replicate]
  refine⟨st8.writable 0 rfl (by rw [zl]; omega),fun w9 hw9=> ?_⟩
  have st9:=st8.put0 hw9
  rw [z0h _ _ (by rw [zl,List.length_map,hl20]),zNf] at st9
  have st9d:St w0 (bs++(xb++((b2,(zwc ((newM m).gen+1) (encS v)).map bV)::(b,svT sv)::fr))) w9:=st9.pq
  obtain⟨bq,aq,cq,raq,rcq,hdq,_,_,_,hcap0,hcap1,_⟩:=id od
  refine s_T st9d od ?_
  rw [hx5,i64_in _ O_ O_]
  refine⟨fun hsp=> ?_,fun hsp=> ?_⟩
  ·have hsp:=of_decide_eq_true hsp
   have hc13:zbc m v=13:=by unfold zbc; rw [if_neg (fun h=>h hk),if_neg hg,if_pos O_]
   have:=k1 (by rw [hc13]; decide) w9 (st9d.weak (xb++[(b2,(zwc ((newM m).gen+1) (encS v)).map bV),(b,svT sv)]) (zc fun f_=>by simp <;> omega))
   rw [hc13] at this; exact this
  have hsp:=of_decide_eq_false hsp
  have hc0:zbc m v=0:=by unfold zbc; rw [if_neg (fun h=>h hk),if_neg hg,if_neg O_]
  have st9x:St w0 (xb++((b2,(zwc ((newM m).gen+1) (encS v)).map bV)::(bs++((b,svT sv)::fr)))) w9:=st9d.pq
  refine⟨(encS v).map bV,rx.src st9x,?_⟩
  have rh:RowC 1 ⟨some ⟨b2,0,none⟩,20,20⟩ ((zwc ((newM m).gen+1) (encS v)).map bV) [(b2,(zwc ((newM m).gen+1) (encS v)).map bV)]:=RowC.new (by rw [List.length_map,zJc])
  have one8:∀ l:List UInt8,zQ (l.map bV)=true:=fun l=>by
   induction l with
   | nil=>rfl
   | cons a l ih=>rw [List.map_cons]; exact ih
  refine rh.append (l:=xb++(bs++((b,svT sv)::fr))) (st9x.pq) (by rw [List.length_map,Nat.mul_one]) (one8 _) rfl (by show(20+(encS v).length)*1≤_; omega) fun rs rb w11 r11 st11 hl11 b3 w12 hb3 hw12=> ?_
  have st12:=st11.alloc (cs:=svrC d ⟨zId m,allN m v,0⟩ rs) hb3 hw12
  refine k0 hc0 _ ((b3,svrC d ⟨zId m,allN m v,0⟩ rs)::rb) w12 ⟨b3,rs,rb,rfl,rfl,?_,⟨by show 0≤_; omega,zEg m,?_⟩⟩ (st12.wq (xb++[(b,svT sv)]))
  ·have e:(⟨zId m,allN m v,0⟩:SvrM).at_=0:=by unfold SvrM.at_; simp
   rw [e,List.drop_zero]
   show RowC 1 rs ((allN m v).map bV) rb
   unfold allN
   rw [List.map_append]; exact r11
  ·show(allN m v).length≤_
   unfold allN
   rw [List.length_append,zJc]; omega
 unfold zId at go
 refine⟨fun ht=> ?_,fun hf=> ?_⟩
 ·rw [if_pos ht] at go
  rw [i64_in _ (by show _≤1 - (newM m).slot; unfold newM; omega) (by show 1 - (newM m).slot≤_; unfold newM; omega)]
  exact go
 ·rw [if_neg (by rw [hf]; decide)] at go
  exact go
end
section
variable {w:World} {sv:T_b} {m:SvM} {os:List HO} {b:Nat} {R:Slc→Int→WP}
/-- A key's versions are put. -/
theorem s_ec {w10:World} {i1:Int} {again_1:Slc→Int→WP} {o:HO} {acc:List UInt8} {s0:Slc} {wb fr:List zf} {N:Nat} (hN:N≤70368744177664) (hov:zh w o.2.2 3 (o.2.1.flatMap verV)) (hvl:o.2.2.len≤4398046511104) (hok:okC 0 o.2.1=true)
    (r:RowC 1 s0 (acc.map bV) wb) (st:St ⟨w,[]⟩ (wb++fr) w10) (hA:acc.length+(o.2.1.flatMap zpb).length≤N)
    (hag:∀ s' wb' w',RowC 1 s' ((acc++o.2.1.flatMap zpb).map bV) wb'→St ⟨w,[]⟩ (wb'++fr) w'→again_1 s' (IntKind.i64.wrap (i1+1)) w') :
    ∃(I:Slc→Int→WP) (μ:Slc→Int→World→Nat),I s0 0 w10∧∀(b_3:Slc) (k_:Int) w,I b_3 k_ w→F_Bb i1 again_1 o.2.2 (fun(b_3':Slc) (k_':Int) w'=>I b_3' k_' w'∧μ b_3' k_' w'<μ b_3 k_ w) b_3 k_ w:=by
 have hvlen:o.2.2.len=o.2.1.length:=z2c hov
 refine⟨fun s k w'=>∃(p:Nat) (xs:List UInt8) (wb:List zf),k=(p:Int)∧p≤o.2.2.len∧xs++(o.2.1.drop p).flatMap zpb=acc++o.2.1.flatMap zpb∧RowC 1 s (xs.map bV) wb∧St ⟨w,[]⟩ (wb++fr) w',fun _ k _=>o.2.2.len - k.toNat,⟨0,acc,wb,rfl,O_,rfl,r,st⟩,?_⟩
 clear r st
 rintro s k w11 ⟨p,xs,wb,rfl,hp,hx,r,st⟩
 unfold F_Bb
 refine⟨fun hi=> ?_,fun hi=> ?_⟩
 rotate_left
 ·have hi:=of_decide_eq_false hi
  rw [List.drop_eq_nil_of_le O_,List.flatMap_nil,List.append_nil] at hx
  subst hx
  exact hag s wb w11 r st
 have hi:=of_decide_eq_true hi
 have wp:IntKind.i64.wrap ((p:Int)+1)=((p+1:Nat):Int):=by rw [i64_in _ O_ O_]; omega
 obtain⟨a,v,hv,hc⟩:=zDd (st.ext.src hov) (i:=p) O_
 obtain⟨g1,g2⟩:=List.getElem?_eq_some_iff.1 hv
 obtain⟨hnum,hmay⟩:=(zlh.1 hok).2 v (List.mem_of_getElem? hv)
 have hmv:(1≤v.Number∧v.Number≤65536)∧v.Val.size≤1024:=by
  unfold mayV at hmay
  simp only [Bool.and_eq_true,decide_eq_true_eq] at hmay
  exact⟨hmay.1.1,hmay.1.2⟩
 rw [List.drop_eq_getElem_cons g1,g2,List.flatMap_cons] at hx
 have hlen:=congrArg List.length hx
 simp only [List.length_append] at hlen
 have hev:(zpb v).length=(varF v.Number.toNat).length+(if v.Drop=true then fixB 1 1 else fixB 1 0++(varF v.Val.size++v.Val.data.toList)).length:=by unfold zpb; rw [List.length_append]
 refine⟨a,O_,hi,v.Number,by rw [Int.toNat_natCast]; exact zMi hc,?_⟩
 have hu:IntKind.u64.wrap v.Number=((v.Number.toNat:Nat):Int):=by rw [zX _ O_ O_]; omega
 rw [hu]
 refine s_b r st O_ O_ fun s2 wb2 w13 r2 st2=> ?_
 obtain⟨a2,v2,hv2,hc2⟩:=zDd (st2.ext.src hov) (i:=p) O_
 obtain rfl:v=v2:=by rw [hv] at hv2; exact Option.some.inj hv2
 have hs2:s2.len=xs.length+(varF v.Number.toNat).length:=by have:=r2.len; rw [List.length_map,Nat.mul_one,List.length_append] at this; omega
 refine⟨a,O_,hi,v.Drop,by rw [Int.toNat_natCast]; exact hc2.2.2.1,fun hd b5 w14 hb5 hw14=> ?_,fun hd b7 w16 hb7 hw16=> ?_⟩
 ·have st3:=(st2.alloc (cs:=[Value.int .u8 1]) hb5 hw14).drop1
  refine⟨[Value.int .u8 1],zY hb5 hw14 rfl,r2.append st3 rfl rfl rfl (by rw [hs2]; omega) fun s3 wb3 w15 r3 st4 hl3=> ?_⟩
  unfold F_N
  rw [wp]
  refine⟨⟨p+1,xs++zpb v,wb3,rfl,O_,by rw [List.append_assoc]; exact hx,?_,st4⟩,by show _ - _<_ - _; omega⟩
  have e:(xs++zpb v).map bV=(xs++varF v.Number.toNat).map bV++[Value.int .u8 1]:=by
   unfold zpb
   rw [if_pos hd,←List.append_assoc,List.map_append]; rfl
  rw [e]; exact r3
 ·have st3:=(st2.alloc (cs:=[Value.int .u8 0]) hb7 hw16).drop1
  refine⟨[Value.int .u8 0],zY hb7 hw16 rfl,r2.append st3 rfl rfl rfl (by rw [hs2]; omega) fun s3 wb3 w17 r3 st4 hl3=> ?_⟩
  have r3:RowC 1 s3 ((xs++varF v.Number.toNat++fixB 1 0).map bV) wb3:=by rw [List.map_append]; exact r3
  obtain⟨a3,v3,hv3,hc3⟩:=zDd (st4.ext.src hov) (i:=p) O_
  obtain rfl:v=v3:=by rw [hv] at hv3; exact Option.some.inj hv3
  refine⟨a,O_,hi,v.Val,by rw [Int.toNat_natCast]; exact hc3.2.1,?_⟩
  refine s_D r3 st4 (by rw [List.length_append,List.length_append,fixB_len]; omega) fun s4 wb4 w18 r4 st5=> ?_
  unfold F_N
  rw [wp]
  refine⟨⟨p+1,xs++zpb v,wb4,rfl,O_,by rw [List.append_assoc]; exact hx,?_,st5⟩,by show _ - _<_ - _; omega⟩
  have e:xs++zpb v=xs++varF v.Number.toNat++fixB 1 0++(varF v.Val.size++v.Val.data.toList):=by
   unfold zpb
   rw [if_neg (by rw [hd]; decide),List.append_assoc,List.append_assoc]
  rw [e]; exact r4
theorem s_sb (ha:SvAt w sv m os) (hl:(encS m).length≤70368744177664) (k1:¬ ckOk m→∀ w',Ext w w'→R ⟨none,0,0⟩ 1 w')
    (k0:ckOk m→∀ c rb w',RowC 1 c ((encS m).map bV) rb→St ⟨w,[]⟩ rb w'→R c 0 w'):C_cc sv w R:=by
 apply S_Vb
 unfold F_Rd
 intro b w1 hb hw1
 have st1:St ⟨w,[]⟩ [(b,svT sv)] w1:=(St.start w).alloc hb hw1
 refine⟨sv,(st1.get 0 rfl).all,s_C (ha.ext st1.ext) fun w2 e2=> ?_⟩
 have st2:=st1.keep e2
 by_cases hk:ckOk m
 rotate_left
 ·rw [zPf hk]
  exact⟨fun _=>k1 hk w2 st2.ext,fun h=>(by simp at h)⟩
 rw [zOf hk]
 have k0:=k0 hk
 have hmk:=ha.mark
 have hm1:=hk.1
 have hbl:=ha.blen
 have hhl:=ha.hlen
 have hbe:=ha.bey.len_eq
 have hsl:=ha.held.slen
 have hml:m.held.length=os.length:=by rw [←ha.hos,List.length_map]
 obtain⟨hb1,_⟩:=zKc hk.2.1
 have hL:(encS m).length=(varF m.mark.toNat).length+((varF m.bey.length).length+((m.bey.flatMap encB).length+((varF m.held.length).length+(m.held.flatMap zxc).length))):=by
  unfold encS
  simp only [List.length_append]
 refine⟨fun h=>(by simp at h),fun _=>⟨sv.Mark,st2.cell 0 rfl rfl,?_⟩⟩
 have hu0:IntKind.u64.wrap sv.Mark=((m.mark.toNat:Nat):Int):=by rw [hmk,zX _ O_ O_]; omega
 rw [hu0]
 refine s_b (xs:=[]) (wb:=[]) RowC.nil (by simpa using st2) O_ (by simp) fun s3 wb3 w3 r3 st3=> ?_
 have st3:St ⟨w,[]⟩ ((b,svT sv)::wb3) w3:=st3.pq
 refine⟨sv.Beyond,st3.cell 0 rfl rfl,?_⟩
 have hu1:IntKind.u64.wrap ((sv.Beyond.len:Nat):Int)=((m.bey.length:Nat):Int):=by rw [zX _ O_ O_]; omega
 rw [hu1]
 refine s_b r3 (fr:=[(b,svT sv)]) (st3.pq) O_ (by simp only [List.nil_append]; omega) fun s4 wb4 w4 r4 st4=> ?_
 rw [List.nil_append] at r4
 refine⟨fun s i w'=>∃(p:Nat) (xs:List UInt8) (wb:List zf),i=(p:Int)∧p≤sv.Beyond.len∧xs++((m.bey.drop p).flatMap encB++(varF m.held.length++m.held.flatMap zxc))=encS m∧RowC 1 s (xs.map bV) wb∧St ⟨w,[]⟩ (wb++[(b,svT sv)]) w',fun _ i _=>sv.Beyond.len - i.toNat,
  ⟨0,_,wb4,rfl,O_,by unfold encS; rw [List.append_assoc]; rfl,r4,st4⟩,?_⟩
 clear st4 r4 st3 r3 st2 st1 e2 hw1
 rintro s i w5 ⟨p,xs,wb,rfl,hp,hx,r,st⟩
 unfold F_ic
 have stb:St ⟨w,[]⟩ ((b,svT sv)::wb) w5:=st.pq
 have hlen:=congrArg List.length hx
 simp only [List.length_append] at hlen
 refine⟨sv.Beyond,stb.cell 0 rfl rfl,fun hi=> ?_,fun hi=> ?_⟩
 ·have hi:=of_decide_eq_true hi
  have wp:IntKind.i64.wrap ((p:Int)+1)=((p+1:Nat):Int):=by rw [i64_in _ O_ O_]; omega
  obtain⟨a,n,hn,hc⟩:=zh.get (i:=(p:Int)) (stb.ext.src ha.bey) O_ hi
  rw [Int.toNat_natCast] at hn
  obtain⟨g1,g2⟩:=List.getElem?_eq_some_iff.1 hn
  have hnr:=hb1 n (List.mem_of_getElem? hn)
  refine⟨sv.Beyond,stb.cell 0 rfl rfl,a,O_,hi,n,hc,?_⟩
  have hu:IntKind.u64.wrap n=((n.toNat:Nat):Int):=by rw [zX _ O_ O_]; omega
  rw [hu]
  rw [List.drop_eq_getElem_cons g1,g2,List.flatMap_cons,List.append_assoc] at hx
  refine s_b r st O_ O_ fun s2 wb2 w6 r2 st2=> ?_
  rw [wp]
  exact⟨⟨p+1,xs++varF n.toNat,wb2,rfl,O_,by rw [List.append_assoc]; exact hx,r2,st2⟩,by show _ - _<_ - _; omega⟩
 have hi:=of_decide_eq_false hi
 rw [List.drop_eq_nil_of_le O_,List.flatMap_nil,List.nil_append] at hx
 refine⟨sv.Held,stb.cell 0 rfl rfl,?_⟩
 have hu2:IntKind.u64.wrap ((sv.Held.len:Nat):Int)=((m.held.length:Nat):Int):=by rw [zX _ O_ O_]; omega
 rw [hu2]
 refine s_b r st O_ O_ fun s7 wb7 w7 r7 st7=> ?_
 refine⟨fun s i w'=>∃(p:Nat) (xs:List UInt8) (wb:List zf),i=(p:Int)∧p≤sv.Held.len∧xs++(m.held.drop p).flatMap zxc=encS m∧RowC 1 s (xs.map bV) wb∧St ⟨w,[]⟩ (wb++[(b,svT sv)]) w',fun _ i _=>sv.Held.len - i.toNat,
  ⟨0,_,wb7,rfl,O_,by rw [List.append_assoc]; exact hx,r7,st7⟩,?_⟩
 clear st7 r7 st r stb hx hlen
 rintro s i w8 ⟨p,xs,wb,rfl,hp,hx,r,st⟩
 unfold F_hc
 have stb:St ⟨w,[]⟩ ((b,svT sv)::wb) w8:=st.pq
 refine⟨sv.Held,stb.cell 0 rfl rfl,fun hi=> ?_,fun hi=> ?_⟩
 rotate_left
 ·have hi:=of_decide_eq_false hi
  rw [List.drop_eq_nil_of_le O_,List.flatMap_nil,List.append_nil] at hx
  subst hx
  exact k0 s wb w8 r stb.drop1
 have hi:=of_decide_eq_true hi
 have wp:IntKind.i64.wrap ((p:Int)+1)=((p+1:Nat):Int):=by rw [i64_in _ O_ O_]; omega
 obtain⟨a,o,ho,hc⟩:=(ha.held.ext stb.ext).at_ (p:=p) O_
 have hom:=List.mem_of_getElem? ho
 have hod:m.held[p]? =some (hoD o):=by rw [←ha.hos]; exact zjd ho
 obtain⟨g1,g2⟩:=List.getElem?_eq_some_iff.1 hod
 have hgd:=hk.2.2.1.1 _ (List.mem_of_getElem? hod)
 have hkey:o.1.size≤64:=hgd.1.2
 obtain⟨hov,hovl⟩:=ha.held.ver o hom
 have hvl:=ha.vlen o hom
 have hvlen:o.2.2.len=o.2.1.length:=z2c hov
 rw [List.drop_eq_getElem_cons g1,g2,List.flatMap_cons] at hx
 have hlen:=congrArg List.length hx
 have heh:(zxc (hoD o)).length=(varF o.1.size).length+o.1.data.toList.length+((varF o.2.1.length).length+(o.2.1.flatMap zpb).length):=by
  show((varF o.1.size++o.1.data.toList)++(varF o.2.1.length++o.2.1.flatMap zpb)).length=_
  simp only [List.length_append]
 simp only [List.length_append] at hlen
 refine⟨sv.Held,stb.cell 0 rfl rfl,a,O_,hi,o.1,by rw [Int.toNat_natCast]; exact hc.1,?_⟩
 refine s_D r st O_ fun s9 wb9 w9 r9 st9=> ?_
 have st9b:St ⟨w,[]⟩ ((b,svT sv)::wb9) w9:=st9.pq
 obtain⟨a2,o2,ho2,hc2⟩:=(ha.held.ext st9b.ext).at_ (p:=p) O_
 obtain rfl:o=o2:=by rw [ho] at ho2; exact Option.some.inj ho2
 refine⟨sv.Held,st9b.cell 0 rfl rfl,a,O_,hi,o.2.2,by rw [Int.toNat_natCast]; exact hc2.2.1,?_⟩
 have hu3:IntKind.u64.wrap ((o.2.2.len:Nat):Int)=((o.2.1.length:Nat):Int):=by rw [zX _ O_ O_]; omega
 rw [hu3]
 refine s_b r9 st9 O_ (by simp only [List.length_append]; omega) fun s10 wb10 w10 r10 st10=> ?_
 refine s_ec (N:=(encS m).length) hl hov hvl hgd.2.2 r10 st10 (by simp only [List.length_append]; omega) fun s' wb' w' r' st'=> ?_
 rw [wp]
 refine⟨⟨p+1,_,wb',rfl,O_,?_,r',st'⟩,by show _ - _<_ - _; omega⟩
 rw [←hx]
 show _=xs++(((varF o.1.size++o.1.data.toList)++(varF o.2.1.length++o.2.1.flatMap zpb))++_)
 simp only [List.append_assoc]
end
section
variable {w0:Base} {w:World} {fr bs cs:List zf} {r t:OA} {m:DM}
theorem s_G {slot:Int} {R:Slc→Int→WP} (st:St w0 (bs++fr) w) (o:RkO r m bs) (hsl:slot=0∨slot=1)
    (k:∀ s,(∀ w',St w0 (bs++fr) w'→zh w' s 1 ((m.get slot).map bV))→s.len≤s.cap→R s 0 w):C_b r slot w R:=by
 apply S_a
 unfold F_dc
 obtain⟨b,a,c,ra,rc,rfl,rfl,x⟩:=o
 refine⟨fun h=>(by cases h),fun _=>⟨fun h=>(by simp at h; omega),fun h=> ?_⟩⟩
 refine⟨rfl,O_,O_,?_⟩
 rcases hsl with rfl | rfl
 ·refine⟨a,st.cell 0 rfl rfl,k a (fun w' st=> ?_) x.r1.cap_le⟩
  have h:St w0 (ra++(rc++fr)) w':=by
   have h2:St w0 ((ra++rc)++fr) w':=st.drop1
   rwa [List.append_assoc] at h2
  exact x.r1.src h
 ·refine⟨c,st.cell 0 rfl rfl,k c (fun w' st=> ?_) x.r2.cap_le⟩
  have h:St w0 (ra++(rc++fr)) w':=by
   have h2:St w0 ((ra++rc)++fr) w':=st.drop1
   rwa [List.append_assoc] at h2
  exact x.r2.src h.drop
theorem RkO.some {bs:List zf} (o:RkO r m bs):r.isNone=false:=by obtain⟨b,a,c,ra,rc,rfl,_⟩:=o; rfl
theorem RkO.lens (o:RkO r m bs) (s:Int):(m.get s).length≤16777216:=by
 obtain⟨b,a,c,ra,rc,rfl,rfl,x⟩:=o
 exact DM.get_le x.h6 x.h7 s
theorem s_v {R:T_b→Int→Int→Bool→Int→WP} (st:St w0 (bs++fr) w) (o:RkO r m bs)
    (k:∀ s' eb hc w',SavO s' (newM m).sv eb hc→St w0 (eb++(hc++(bs++fr))) w'→R s' (((newM m).gen:Nat):Int) (newM m).slot (newM m).ok 0 w'):C_q r w R:=by
 apply S_r
 unfold F_4c
 intro b w1 hb hw1
 have st1:St w0 ((b,zS)::(bs++fr)) w1:=st.alloc hb hw1
 have st1:St w0 (bs++((b,zS)::fr)) w1:=st1.pq
 refine⟨fun h=>(by rw [o.some] at h; cases h),fun _=> ?_⟩
 have h0:=o.lens 0
 have h1:=o.lens 1
 have g0:=ztd (m.get 0)
 have g1:=ztd (m.get 1)
 refine s_G st1 o (.inl rfl) fun sa ha hca=>s_G st1 o (.inr rfl) fun sb hb2 hcb=> ?_
 refine s_E (xs:=m.get 0) (ha _ st1) O_ hca fun s0 eb0 hc0 w5 o5 st5 b2 w6 hb3 hw6=> ?_
 have st5:=st1.more st5
 have st6:=st5.alloc (cs:=zS) hb3 hw6
 refine⟨st6.writable 0 rfl D_,fun w7 hw7=> ?_⟩
 have st7:St w0 ((b2,svT s0)::((eb0++hc0)++(bs++((b,zS)::fr)))) w7:=st6.put0 hw7
 have st7b:St w0 (bs++((b,zS)::fr)) w7:=st7.wq ((b2,svT s0)::(eb0++hc0))
 refine s_E (xs:=m.get 1) (hb2 _ st7b) O_ hcb fun s1 eb1 hc1 w8 o8 st8 b3 w9 hb4 hw9=> ?_
 have st8:=st7.more st8
 have st9:=st8.alloc (cs:=zS) hb4 hw9
 refine⟨st9.writable 0 rfl D_,fun w10 hw10=> ?_⟩
 have st10:St w0 ((b3,svT s1)::((eb1++hc1)++((b2,svT s0)::((eb0++hc0)++(bs++((b,zS)::fr)))))) w10:=st9.put0 hw10
 have st10:St w0 ((b,zS)::(b3,svT s1)::(b2,svT s0)::(eb1++(hc1++(eb0++(hc0++(bs++fr)))))) w10:=st10.pq
 have hacc:newM m=zUb (zUb ⟨zSv,0,0,false⟩ 0 (zZ (m.get 0))) 1 (zZ (m.get 1)):=rfl
 have hA:zUb ⟨zSv,0,0,false⟩ 0 (zZ (m.get 0))=if(zZ (m.get 0)).2.2=true then⟨(zZ (m.get 0)).1,(zZ (m.get 0)).2.1,0,true⟩ else⟨zSv,0,0,false⟩:=by
  unfold zUb
  by_cases hh:(zZ (m.get 0)).2.2=true
  ·rw [if_pos ⟨hh,.inl rfl⟩,if_pos hh]
  ·rw [if_neg (fun h=>hh h.1),if_neg hh]
 rw [hA] at hacc
 have fin:∀ {s':T_b} {eb hc g':List zf} {n:Nat} {sl:Int} {ok:Bool} {v:SvM} {w11:World},newM m=⟨v,n,sl,ok⟩→SavO s' v eb hc→St w0 ((b,svT s')::(eb++(hc++(g'++(bs++fr))))) w11→R s' (n:Int) sl ok 0 w11:=fun {s' eb hc g' n sl ok v w11} hN hS st'=>by
  have kk:=k s' eb hc w11 (by rw [hN]; exact hS) (st'.wq ((b,svT s')::g'))
  rw [hN] at kk; exact kk
 refine⟨fun hc=> ?_,fun hc=> ?_⟩
 ·simp only [Bool.and_eq_true,Bool.or_eq_true,Bool.not_eq_true',decide_eq_true_eq] at hc
  obtain⟨c1,c2⟩:=hc
  have hN:newM m=⟨(zZ (m.get 1)).1,(zZ (m.get 1)).2.1,1,true⟩:=by
   rw [hacc]
   unfold zUb
   rw [if_pos]
   refine⟨c1,?_⟩
   rcases c2 with c2 | c2
   ·rw [if_neg (by rw [c2]; decide)]; exact .inl rfl
   ·by_cases hh:(zZ (m.get 0)).2.2=true
    ·rw [if_pos hh]; exact .inr (by show(zZ (m.get 0)).2.1<_; omega)
    ·rw [if_neg hh]; exact .inl rfl
  refine⟨s1,(st10.get 1 rfl).all,st10.writable 0 rfl D_,fun w11 hw11=> ?_⟩
  have st11:St w0 ((b,svT s1)::(b3,svT s1)::(b2,svT s0)::(eb1++(hc1++(eb0++(hc0++(bs++fr)))))) w11:=st10.put0 hw11
  rw [i64_in _ O_ O_]
  exact⟨s1,(st11.get 0 rfl).all,fin (g':=(b3,svT s1)::(b2,svT s0)::(eb0++hc0)) hN o8 (st11.pq)⟩
 have hcond:¬ ((zZ (m.get 1)).2.2=true∧((zZ (m.get 0)).2.2=false∨(zZ (m.get 0)).2.1<(zZ (m.get 1)).2.1)):=fun⟨c1,c2⟩=>by
  have:((zZ (m.get 1)).2.2&&((!(zZ (m.get 0)).2.2)||(decide (((((zZ (m.get 1)).2.1:Nat)):Int)>(((zZ (m.get 0)).2.1:Nat):Int)))))=true:=by
   rw [c1,Bool.true_and]
   rcases c2 with c2 | c2
   ·rw [c2]; rfl
   ·rw [decide_eq_true O_,Bool.or_true]
  rw [this] at hc; cases hc
 refine⟨fun h1=> ?_,fun h1=> ?_⟩
 ·have hN:newM m=⟨(zZ (m.get 0)).1,(zZ (m.get 0)).2.1,0,true⟩:=by
    rw [hacc,if_pos h1]
    unfold zUb
    rw [if_neg (fun h=>hcond ⟨h.1,h.2.imp (fun hh=>by cases hh) id⟩)]
  refine⟨s0,(st10.get 2 rfl).all,st10.writable 0 rfl D_,fun w12 hw12=> ?_⟩
  have st12:St w0 ((b,svT s0)::(b3,svT s1)::(b2,svT s0)::(eb1++(hc1++(eb0++(hc0++(bs++fr)))))) w12:=st10.put0 hw12
  rw [i64_in _ O_ O_]
  exact⟨s0,(st12.get 0 rfl).all,fin (g':=(b3,svT s1)::(b2,svT s0)::(eb1++hc1)) hN o5 (st12.pq)⟩
 ·have hN:newM m=⟨zSv,0,0,false⟩:=by
    rw [hacc,if_neg (by rw [h1]; decide)]
    unfold zUb
    rw [if_neg (fun h=>hcond ⟨h.1,.inl h1⟩)]
  refine⟨st10.writable 0 rfl D_,fun w13 hw13=> ?_⟩
  have st13:St w0 ((b,zS)::(b3,svT s1)::(b2,svT s0)::(eb1++(hc1++(eb0++(hc0++(bs++fr)))))) w13:=st10.put0 hw13
  have:=fin (eb:=[]) (hc:=[]) (g':=(b3,svT s1)::(b2,svT s0)::(eb1++(hc1++(eb0++hc0)))) hN SavO.zero (by simpa using st13)
  exact⟨⟨0,⟨none,0,0⟩,⟨none,0,0⟩⟩,(st13.get 0 rfl).all,this⟩
theorem s_O {R:T_b→Int→Int→Bool→Int→WP} (st:St w0 fr w)
    (k:∀ w',St w0 fr w'→R ⟨0,⟨none,0,0⟩,⟨none,0,0⟩⟩ 0 0 false 2 w'):C_q none w R:=by
 apply S_r
 unfold F_4c
 intro b w1 hb hw1
 have st1:St w0 ((b,zS)::fr) w1:=st.alloc hb hw1
 refine⟨fun _=>⟨st1.writable 0 rfl D_,fun w2 hw2=> ?_⟩,fun h=>(by cases h)⟩
 have st2:St w0 ((b,zS)::fr) w2:=st1.put0 hw2
 exact⟨_,(st2.get 0 rfl).all,k w2 st2.drop1⟩
/-- The document's saver: of the same model as the program's. -/
abbrev rsvC (r:OA) (s:SvrM) (rs:Slc):List Value:=[Vp r,Vi s.slot,Vs rs,Vi (s.done:Int)]
def RsvO (r t:OA) (s:SvrM) (cs:List zf):Prop:=∃(b:Nat) (rs:Slc) (rb:List zf),t=some ⟨b,0,none⟩∧cs=(b,rsvC r s rs)::rb∧RowC 1 rs (s.all.map bV) rb∧zkk s
theorem s_5 {R:Int→WP} (k:R 0 w):C_k none w R:=by
 apply S_g
 exact⟨fun _=>k,fun h=>(by cases h)⟩
theorem s_6 {R:Int→WP} (k:R 2 w):C_o none w R:=by
 apply S_f
 exact⟨fun _=>k,fun h=>(by cases h)⟩
theorem s_H {s:SvrM} {R:Int→WP} (st:St w0 (cs++fr) w) (o:RsvO r t s cs) (k:∀ w',St w0 (cs++fr) w'→R ((s.left:Nat):Int) w'):C_k t w R:=by
 apply S_g
 unfold F_md
 obtain⟨b,rs,rb,rfl,rfl,rr,hok⟩:=o
 obtain⟨h1,h2,h3⟩:=hok
 have hrl:=rr.len
 rw [List.length_map,Nat.mul_one] at hrl
 refine⟨fun h=>(by cases h),fun _ w1 hd1=> ?_⟩
 have st1:=st.drew hd1
 refine⟨rfl,(s.done:Int),st1.cell 0 rfl rfl,?_⟩
 apply S_Gb
 refine⟨rfl,rs,st1.cell 0 rfl rfl,st1.cell 0 rfl rfl,?_⟩
 have e1:IntKind.i64.wrap (1+IntKind.i64.wrap (Int.tdiv (IntKind.i64.wrap (IntKind.i64.wrap (((rs.len:Nat):Int)+64) - 1)) 64))=((1+(s.all.length+63) / 64:Nat):Int):=by
  rw [i64_in (((rs.len:Nat):Int)+64) O_ O_,show((rs.len:Nat):Int)+64 - 1=((rs.len+63:Nat):Int) from by omega,i64_in ((rs.len+63:Nat):Int) O_ O_]
  have e:Int.tdiv ((rs.len+63:Nat):Int) 64=(((rs.len+63) / 64:Nat):Int):=tdiv_nat (rs.len+63) 64
  rw [e,i64_in (((rs.len+63) / 64:Nat):Int) O_ O_,i64_in _ O_ O_]
  omega
 rw [e1]
 have e2:IntKind.i64.wrap (((1+(s.all.length+63) / 64:Nat):Int) - (s.done:Int))=((s.left:Nat):Int):=by
  unfold SvrM.left
  rw [i64_in _ O_ O_]; omega
 rw [e2]
 exact k w1 st1
theorem s_fc {s:SvrM} {R:Int→WP} (st:St w0 (bs++(cs++fr)) w) (od:RkO r m bs) (o:RsvO r t s cs) (hwr:m.writes<4611686018427387904)
    (k:∀ bs' cs' w',RkO r (zbd m s).1.1 bs'→RsvO r t (zbd m s).1.2 cs'→St w0 (bs'++(cs'++fr)) w'→R (zbd m s).2 w'):C_o t w R:=by
 apply S_f
 unfold F_ld
 obtain⟨b,rs,rb,rfl,rfl,rr,hok⟩:=o
 obtain⟨h1,h2,h3⟩:=id hok
 have hrl:=rr.len
 rw [List.length_map,Nat.mul_one] at hrl
 have hcp:=rr.cap_le
 refine⟨fun h=>(by cases h),fun _=> ?_⟩
 have stL:St w0 (((b,rsvC r s rs)::rb)++(bs++fr)) w:=st.pq
 refine s_H (r:=r) stL ⟨b,rs,rb,rfl,rfl,rr,hok⟩ fun w1 st1=> ?_
 have st1:St w0 ((b,rsvC r s rs)::(bs++(rb++fr))) w1:=st1.pq
 have st1d:St w0 (bs++((b,rsvC r s rs)::(rb++fr))) w1:=st1.pq
 -- behind the raw write
 have fin:∀(bs':List zf) (m':DM) (e:Int) (w2:World),RkO r m' bs'→St w0 ((b,rsvC r s rs)::(bs'++(rb++fr))) w2→s.left≠0→zbd m s=((m',if e=0 then { s with done:=s.done+1 } else s),e)→F_p (some ⟨b,0,none⟩) R e w2:=fun bs' m' e w2 od' st2 hlf hs=>by
  unfold F_p
  rw [hs] at k
  refine⟨fun he=> ?_,fun he=> ?_⟩
  ·have he:e=0:=by simpa using he
   rw [if_pos he] at k
   refine⟨rfl,(s.done:Int),st2.cell 0 rfl rfl,rfl,st2.writable 0 rfl (Nat.le_of_ble_eq_true rfl),fun w4 hw4=> ?_⟩
   have hd:IntKind.i64.wrap ((s.done:Int)+1)=((s.done+1:Nat):Int):=by rw [i64_in _ O_ O_]; omega
   rw [hd] at hw4
   have st4:St w0 ((b,rsvC r { s with done:=s.done+1 } rs)::(bs'++(rb++fr))) w4:=st2.put0 hw4
   unfold F_o
   refine k bs' ((b,rsvC r { s with done:=s.done+1 } rs)::rb) w4 od' ⟨b,rs,rb,rfl,rfl,rr,⟨?_,h2,h3⟩⟩ (st4.pq)
   show s.done+1≤1+(s.all.length+63) / 64
   unfold SvrM.left at hlf
   omega
  ·have he:e≠0:=by simpa using he
   rw [if_neg he] at k
   unfold F_o
   exact k bs' _ w2 od' ⟨b,rs,rb,rfl,rfl,rr,hok⟩ (st2.pq)
 refine⟨fun h0=> ?_,fun h0=> ?_⟩
 ·have h0:s.left=0:=by simpa using h0
  have hd:s.done≠0:=fun hd=>by unfold SvrM.left at h0; rw [hd] at h0; omega
  rw [zDf hd h0] at k
  exact k bs _ w1 od ⟨b,rs,rb,rfl,rfl,rr,hok⟩ (st1.pq)
 have h0:s.left≠0:=fun hh=>by rw [hh] at h0; simp at h0
 refine⟨rfl,(s.done:Int),st1.cell 0 rfl rfl,fun hz=> ?_,fun hz=> ?_⟩
 ·have hz:s.done=0:=by simpa using hz
  intro w5 hd5
  have st5:=st1.drew hd5
  have st5d:=st1d.drew hd5
  refine⟨rfl,r,st5.cell 0 rfl rfl,rfl,s.slot,st5.cell 0 rfl rfl,s_L st5d od hwr (fun h=>absurd h2 h) fun _ bs' w6 od' st6=> ?_⟩
  refine fin bs' (zxb m s.slot).1 (zxb m s.slot).2 w6 od' (st6.pq) h0 ?_
  rw [zCf hz,hz]
 have hz:s.done≠0:=fun hh=>by rw [hh] at hz; simp at hz
 obtain⟨ha1,ha2⟩:=SvrM.at_lt hok hz h0
 have hat:IntKind.i64.wrap (IntKind.i64.wrap ((s.done:Int) - 1)*64)=((s.at_:Nat):Int):=by
  rw [i64_in ((s.done:Int) - 1) O_ O_,i64_in _ O_ O_]; omega
 refine⟨rfl,(s.done:Int),st1.cell 0 rfl rfl,rfl,rs,st1.cell 0 rfl rfl,?_⟩
 rw [hat]
 have hat2:IntKind.i64.wrap (((s.at_:Nat):Int)+64)=((s.at_+64:Nat):Int):=by rw [i64_in _ O_ O_]; omega
 rw [hat2]
 -- the raw write
 have wr:∀ e:Nat,e=min (s.at_+64) s.all.length→F_q (some ⟨b,0,none⟩) R (s.done:Int) (e:Int) w1:=fun e he=>by
  unfold F_q
  intro w8 hd8
  have st8:=st1.drew hd8
  have st8d:=st1d.drew hd8
  refine⟨rfl,r,st8.cell 0 rfl rfl,rfl,s.slot,st8.cell 0 rfl rfl,rfl,rs,st8.cell 0 rfl rfl,?_⟩
  rw [hat]
  refine⟨⟨O_,O_,O_,O_⟩,fun s1 hs1=> ?_⟩
  refine s_K st8d od hwr (ys:=(s.all.drop s.at_).take 64) (fun l' w' st'=> ?_) fun bs' w9 od' st9=> ?_
  ·have r1:=rr.cut (lo:=((s.at_:Nat):Int)) (hi:=(e:Int)) (mx:=((rs.cap:Nat):Int)) O_ O_ O_ O_ O_
   rw [←hs1] at r1
   have e1:((s.all.map bV).drop (((s.at_:Nat):Int).toNat*1)).take (((e:Int).toNat - ((s.at_:Nat):Int).toNat)*1)=((s.all.drop s.at_).take 64).map bV:=by
    rw [Nat.mul_one,Nat.mul_one,Int.toNat_natCast,Int.toNat_natCast,←List.map_drop,←List.map_take]
    congr 1
    by_cases h64:s.at_+64≤s.all.length
    ·rw [he,Nat.min_eq_left h64,show s.at_+64 - s.at_=64 from by omega]
    ·rw [List.take_of_length_le (by rw [List.length_drop]; omega),List.take_of_length_le (by rw [List.length_drop]; omega)]
   rw [e1] at r1
   have stp:St w0 (rb++(l'++((b,rsvC r s rs)::fr))) w':=st'.pq
   exact r1.src stp
  ·refine fin bs' _ _ w9 od' (st9.pq) h0 ?_
   rw [zVe hz h0]
 refine⟨fun hg=> ?_,fun hg=> ?_⟩
 ·have hg:((s.at_+64:Nat):Int)>((rs.len:Nat):Int):=of_decide_eq_true hg
  refine⟨rfl,rs,st1.cell 0 rfl rfl,wr rs.len O_⟩
 ·have hg:¬ (((s.at_+64:Nat):Int)>((rs.len:Nat):Int)):=of_decide_eq_false hg
  exact wr (s.at_+64) O_
end
section
variable {w0:Base} {w:World} {fr bs:List zf} {r:OA} {m:DM} {sv:T_b} {v:SvM} {os:List HO}
theorem s_tb {R:OA→Int→WP} (st:St w0 fr w) (k:∀ w',St w0 fr w'→R none 2 w'):C_ob none sv w R:=by
 apply S_ab
 unfold F_Nd
 intro b w1 hb hw1
 have st1:St w0 ((b,svT sv)::fr) w1:=st.alloc hb hw1
 exact⟨fun _=>k w1 st1.drop1,fun h=>(by cases h)⟩
theorem s_Ic {R:OA→Int→WP} (st:St w0 (bs++fr) w) (od:RkO r m bs) (ha:∀ l w',St w0 (l++fr) w'→SvAt w' sv v os) (hl:(encS v).length≤1073741824)
    (k1:zbc m v≠0→∀ w',St w0 (bs++fr) w'→R none (zbc m v) w') (k0:zbc m v=0→∀ t cs w',RsvO r t ⟨zId m,allN m v,0⟩ cs→St w0 (bs++(cs++fr)) w'→R t 0 w'):C_ob r sv w R:=by
 apply S_ab
 unfold F_Nd
 intro b w1 hb hw1
 have st1:St w0 ((b,svT sv)::(bs++fr)) w1:=st.alloc hb hw1
 refine⟨fun h=>(by rw [od.some] at h; cases h),fun _=>⟨sv,(st1.get 0 rfl).all,?_⟩⟩
 have hge:(newM m).gen≤4611686018427387904:=zLe m 2
 have hsl:(newM m).slot=0∨(newM m).slot=1:=zTd m 2 (Nat.le_refl _)
 have ha1:SvAt w1 sv v os:=ha ((b,svT sv)::bs) w1 (st1.pq)
 refine s_sb ha1 O_ (fun hno w2 e2=>⟨fun _=> ?_,fun h=>(by simp at h)⟩) fun hk x xb w2 rx st2=>⟨fun h=>(by simp at h),fun _=> ?_⟩
 ·have hc1:zbc m v=1:=by unfold zbc; exact if_pos hno
  have:=k1 (by rw [hc1]; decide) w2 (st1.keep e2).drop1
  rw [hc1] at this; exact this
 have st2:=st1.more st2
 have st2:St w0 (bs++(xb++((b,svT sv)::fr))) w2:=st2.pq
 have hxl:x.len=(encS v).length:=by have:=rx.len; rw [List.length_map,Nat.mul_one] at this; exact this.symm
 refine s_v st2 od fun s' eb hc w3 oS st3 b1 w4 hb1 hw4=> ?_
 have st4:=st3.alloc (cs:=zS) hb1 hw4
 refine⟨st4.writable 0 rfl D_,fun w5 hw5=> ?_⟩
 have st5:St w0 ((b1,svT s')::(eb++(hc++(bs++(xb++((b,svT sv)::fr)))))) w5:=st4.put0 hw5
 have st5:St w0 (xb++(bs++fr)) w5:=st5.wq ((b1,svT s')::(b,svT sv)::(eb++hc))
 have go:F_Ab r R x (((newM m).gen:Nat):Int) (zId m) w5:=by
  unfold F_Ab
  refine⟨fun hg=> ?_,fun hg=> ?_⟩
  ·have hg:(newM m).gen=4611686018427387904:=by have:=beq_iff_eq.1 hg; omega
   have hc3:zbc m v=3:=by unfold zbc; rw [if_neg (fun h=>h hk),if_pos hg]
   have:=k1 (by rw [hc3]; decide) w5 st5.drop
   rw [hc3] at this; exact this
  have hg:(newM m).gen≠4611686018427387904:=fun h=>by rw [h] at hg; simp at hg
  have hgw:IntKind.u64.wrap (IntKind.u64.wrap (((newM m).gen:Nat):Int)+1)=(((newM m).gen+1:Nat):Int):=by
   rw [zX (((newM m).gen:Nat):Int) O_ O_,zX _ O_ O_]; omega
  rw [hgw]
  refine s_3b (g:=(newM m).gen+1) (rx.src st5) O_ O_ fun rs rb w7 r7 st7=> ?_
  have st7:=st5.more st7
  have st7:St w0 (bs++(rb++(xb++fr))) w7:=st7.pq
  have hrl:rs.len=20+(encS v).length:=by have:=r7.len; rw [List.length_map,Nat.mul_one,List.length_append,zJc] at this; exact this.symm
  have hcap:0≤m.cap∧m.cap≤16777216:=by obtain⟨_,_,_,_,_,_,_,x⟩:=id od; exact⟨x.h1,x.h2⟩
  refine s_cb st7 od ?_
  refine⟨fun hsp=> ?_,fun hsp=> ?_⟩
  ·have hsp:=of_decide_eq_true hsp
   have hc13:zbc m v=13:=by unfold zbc; rw [if_neg (fun h=>h hk),if_neg hg,if_pos O_]
   have:=k1 (by rw [hc13]; decide) w7 (st7.wq (rb++xb))
   rw [hc13] at this; exact this
  have hsp:=of_decide_eq_false hsp
  have hc0:zbc m v=0:=by unfold zbc; rw [if_neg (fun h=>h hk),if_neg hg,if_neg O_]
  intro b2 w9 hb2 hw9
  have st9:=st7.alloc (cs:=rsvC r ⟨zId m,allN m v,0⟩ rs) hb2 hw9
  refine k0 hc0 _ ((b2,rsvC r ⟨zId m,allN m v,0⟩ rs)::rb) w9 ⟨b2,rs,rb,rfl,rfl,r7,⟨by show 0≤_; omega,zEg m,?_⟩⟩ (st9.wq xb)
  show(allN m v).length≤_
  unfold allN
  rw [List.length_append,zJc]; omega
 unfold zId at go
 refine⟨fun ht=> ?_,fun hf=> ?_⟩
 ·rw [if_pos ht] at go
  rw [i64_in _ O_ O_]
  exact go
 ·rw [if_neg (by rw [hf]; decide)] at go
  exact go
end
section
variable {w0:Base} {w:World} {fr:List zf}
theorem s_W {R:T_b→Int→Int→Bool→Int→WP} (st:St w0 fr w)
    (k:∀ w',St w0 fr w'→R ⟨0,⟨none,0,0⟩,⟨none,0,0⟩⟩ 0 0 false 2 w'):C_Kb none w R:=by
 apply S_Ub
 unfold F_ye
 intro b w1 hb hw1
 have st1:St w0 ((b,zS)::fr) w1:=st.alloc hb hw1
 refine⟨fun g s ok t w'=>g=0∧s=0∧ok=false∧t=0∧St w0 ((b,zS)::fr) w',fun _ _ _ _ _=>0,⟨rfl,rfl,rfl,rfl,st1⟩,?_⟩
 clear st st1 hw1
 rintro g s ok t w2 ⟨rfl,rfl,rfl,rfl,st⟩
 unfold F_ed
 refine⟨fun _=> ?_,fun h=>(by cases h)⟩
 refine s_ob (bs:=[]) st (.inl ⟨rfl,rfl⟩) ⟨fun _=> ?_,fun h=>(by cases h)⟩
 refine⟨st.writable 0 rfl D_,fun w3 hw3=> ?_⟩
 have st3:St w0 ((b,zS)::fr) w3:=st.put0 hw3
 exact⟨⟨0,⟨none,0,0⟩,⟨none,0,0⟩⟩,(st3.get 0 rfl).all,k w3 st3.drop1⟩
theorem s_Jc {sv:T_b} {R:OA→Int→WP} (st:St w0 fr w) (k:∀ w',St w0 fr w'→R none 2 w'):C_kc none sv w R:=by
 apply S_wc
 unfold F_Ze
 intro b w1 hb hw1
 have st1:St w0 ((b,svT sv)::fr) w1:=st.alloc hb hw1
 refine s_W st1 fun w2 st2 b1 w3 hb1 hw3=> ?_
 have st3:=st2.alloc (cs:=zS) hb1 hw3
 refine⟨st3.writable 0 rfl D_,fun w4 hw4=> ?_⟩
 have st4:St w0 ((b1,zS)::(b,svT sv)::fr) w4:=st3.put0 hw4
 exact⟨fun _=>k w4 st4.drop1.drop1,fun h=>(by cases h)⟩
end
/-- Sizes are added until there is too much. -/
def addC:Nat→List Nat→Nat
 | n,[]=>n
 | n,x::r=>if n≤1048576 then addC (n+x) r else n
theorem zZi:∀(l:List Nat) (n:Nat),n≤addC n l
 | [],n=>Nat.le_refl _
 | x::r,n=>by
  rw [addC]
  split
  ·exact Nat.le_trans (Nat.le_add_right n x) (zZi r (n+x))
  ·exact Nat.le_refl _
theorem zch {M:Nat}:∀(l:List Nat) (n:Nat),(∀ x∈l,x≤M)→addC n l≤max n (1048576+M)
 | [],n,_=>by rw [addC]; omega
 | x::r,n,h=>by
  have hx:=h x (List.mem_cons_self ..)
  rw [addC]
  split
  ·have:=zch (M:=M) r (n+x) fun y hy=>h y (List.mem_cons_of_mem _ hy)
   omega
  ·omega
def vsS (vs:List Ver):Nat:=addC vs.length (vs.map fun v=>v.Val.size)
def hsS (os:List HO):Nat:=addC os.length (os.map fun o=>o.1.size+vsS o.2.1)
def SzOk (os:List HO):Prop:=∀ o∈os,o.1.size≤140737488351232∧∀ v∈o.2.1,v.Val.size≤140737488351232
section
variable {w:World} {s:Slc}
theorem s_vd {vs:List Ver} {R:Int→WP} (hs:zh w s 3 (vs.flatMap verV)) (hl:s.len≤4398046511104) (hv:∀ v∈vs,v.Val.size≤140737488351232) (k:R ((vsS vs:Nat):Int) w):C_wb s w R:=by
 apply S_1
 have hsl:=z2c hs
 refine⟨fun n i w'=>∃ p q:Nat,i=(p:Int)∧n=(q:Int)∧p≤s.len∧q≤281474976710656∧addC q ((vs.drop p).map fun v=>v.Val.size)=vsS vs∧w'=w,fun _ i _=>s.len - i.toNat,⟨0,s.len,rfl,rfl,O_,O_,by unfold vsS; rw [List.drop_zero,hsl],rfl⟩,?_⟩
 rintro n i w1 ⟨p,q,rfl,rfl,hp,hq,hA,rfl⟩
 unfold F_ub
 refine⟨fun hi=> ?_,fun hi=> ?_⟩
 ·simp only [Bool.and_eq_true,decide_eq_true_eq] at hi
  obtain⟨a,v,ho,hc⟩:=zDd hs (i:=p) O_
  have hB:=hv v (List.mem_of_getElem? ho)
  obtain⟨g1,g2⟩:=List.getElem?_eq_some_iff.1 ho
  rw [List.drop_eq_getElem_cons g1,g2,List.map_cons,addC,if_pos O_] at hA
  have wp:IntKind.i64.wrap ((p:Int)+1)=((p+1:Nat):Int):=by rw [i64_in _ O_ O_]; omega
  have wn:IntKind.i64.wrap ((q:Int)+((v.Val.size:Nat):Int))=((q+v.Val.size:Nat):Int):=by rw [i64_in _ O_ O_]; omega
  refine⟨a,O_,hi.1,v.Val,by rw [Int.toNat_natCast]; exact zI.1 hc 1 _ rfl,?_⟩
  rw [wn,wp]
  exact⟨⟨p+1,q+v.Val.size,rfl,rfl,O_,O_,hA,rfl⟩,by show _ - _<_ - _; omega⟩
 ·have e:q=vsS vs:=by
    rw [←hA]
    by_cases hp2:p<s.len
    ·have hq2:¬ q≤1048576:=fun h=>by
       have:(decide (((p:Nat):Int)<((s.len:Nat):Int))&&decide (((q:Nat):Int)≤1048576))=true:=by rw [decide_eq_true O_,decide_eq_true O_]; rfl
       rw [this] at hi; cases hi
     have hpl:p<vs.length:=O_
     rw [List.drop_eq_getElem_cons hpl,List.map_cons,addC,if_neg hq2]
    ·rw [List.drop_eq_nil_of_le O_,List.map_nil,addC]
  rw [e]; exact k
theorem z2k {vs:List Ver} (h1:vs.length≤4398046511104) (hv:∀ v∈vs,v.Val.size≤140737488351232):vsS vs≤140737489399808:=by
 have:=zch (M:=140737488351232) (vs.map fun v=>v.Val.size) vs.length fun x hx=>by
  obtain⟨v,hv',rfl⟩:=List.mem_map.1 hx
  exact hv v hv'
 unfold vsS; omega
theorem s_cd {os:List HO} {R:Int→WP} (ha:HdAt w s os) (hl:s.len≤17592186044416) (hvl:∀ o∈os,o.2.2.len≤4398046511104) (hz:SzOk os) (k:∀ w',Ext w w'→R ((hsS os:Nat):Int) w'):C_Sb s w R:=by
 apply S_wb
 have hsl:s.len=os.length:=by have:=ha.src.1; rw [zq (sz:=2) (fun _=>rfl)] at this; omega
 refine⟨fun n i w'=>∃ p q:Nat,i=(p:Int)∧n=(q:Int)∧p≤s.len∧q≤562949953421312∧addC q ((os.drop p).map fun o=>o.1.size+vsS o.2.1)=hsS os∧Ext w w',fun _ i _=>s.len - i.toNat,⟨0,s.len,rfl,rfl,O_,O_,by unfold hsS; rw [List.drop_zero,hsl],Ext.refl _⟩,?_⟩
 rintro n i w1 ⟨p,q,rfl,rfl,hp,hq,hA,e⟩
 unfold F_Nb
 refine⟨fun hi=> ?_,fun hi=> ?_⟩
 ·simp only [Bool.and_eq_true,decide_eq_true_eq] at hi
  obtain⟨a,o,ho,hc⟩:=zh.getN (e.src ha.src) (fun _=>rfl) D_ (i:=(p:Int)) O_ O_
  rw [Int.toNat_natCast] at ho hc
  have hom:=List.mem_of_getElem? ho
  obtain⟨z1,z2⟩:=hz o hom
  have hov:=(ha.ver o hom).1
  have hvlen:o.2.2.len=o.2.1.length:=z2c hov
  have hvl1:=hvl o hom
  have hB:=z2k O_ z2
  obtain⟨g1,g2⟩:=List.getElem?_eq_some_iff.1 ho
  rw [List.drop_eq_getElem_cons g1,g2,List.map_cons,addC,if_pos O_] at hA
  have wp:IntKind.i64.wrap ((p:Int)+1)=((p+1:Nat):Int):=by rw [i64_in _ O_ O_]; omega
  have wn:IntKind.i64.wrap (IntKind.i64.wrap ((q:Int)+((o.1.size:Nat):Int))+((vsS o.2.1:Nat):Int))=((q+(o.1.size+vsS o.2.1):Nat):Int):=by
   rw [i64_in ((q:Int)+((o.1.size:Nat):Int)) O_ O_,i64_in _ O_ O_]; omega
  refine⟨a,O_,hi.1,o.1,by rw [Int.toNat_natCast]; exact hc.1,a,O_,hi.1,o.2.2,by rw [Int.toNat_natCast]; exact hc.2.1,((vsS o.2.1:Nat):Int),fun w2 e2=>s_vd ((e.trans e2).src hov) hvl1 z2 ⟨rfl,Ext.refl _⟩,fun w3 e3=> ?_⟩
  rw [wn,wp]
  exact⟨⟨p+1,q+(o.1.size+vsS o.2.1),rfl,rfl,O_,O_,hA,e.trans e3⟩,by show _ - _<_ - _; omega⟩
 ·have e2:q=hsS os:=by
    rw [←hA]
    by_cases hp2:p<s.len
    ·have hq2:¬ q≤1048576:=fun h=>by
       have:(decide (((p:Nat):Int)<((s.len:Nat):Int))&&decide (((q:Nat):Int)≤1048576))=true:=by rw [decide_eq_true O_,decide_eq_true O_]; rfl
       rw [this] at hi; cases hi
     have hpl:p<os.length:=O_
     rw [List.drop_eq_getElem_cons hpl,List.map_cons,addC,if_neg hq2]
    ·rw [List.drop_eq_nil_of_le O_,List.map_nil,addC]
  rw [e2]; exact k w1 e
theorem z1o {os:List HO} (h1:os.length≤17592186044416) (hvl:∀ o∈os,o.2.1.length≤4398046511104) (hz:SzOk os):hsS os≤562949953421312:=by
 have:=zch (M:=281474977751040) (os.map fun o=>o.1.size+vsS o.2.1) os.length fun x hx=>by
  obtain⟨o,ho,rfl⟩:=List.mem_map.1 hx
  have:=z2k (hvl o ho) (hz o ho).2
  have:=(hz o ho).1
  show o.1.size+vsS o.2.1≤_
  omega
 unfold hsS; omega
end
/-- What TwinInts hands back: the bytes, with a 77 behind them, in a row of one's own. -/
def TwI (t:Slc) (xs:List Int) (rb:List zf):Prop:=∃ p c,t=⟨p,xs.length,c⟩∧RowC 1 ⟨p,xs.length+1,c⟩ (xs.map Vi++[Vi 7777]) rb
section
variable {w0:Base} {w:World} {fr rb:List zf}
theorem TwI.len {t:Slc} {xs:List Int} (h:TwI t xs rb):t.len=xs.length:=by obtain⟨p,c,rfl,_⟩:=h; rfl
theorem TwI.src {t:Slc} {xs:List Int} (h:TwI t xs rb) (st:St w0 (rb++fr) w):zh w t 1 (xs.map Vi):=by
 obtain⟨p,c,rfl,r⟩:=h
 have:=(r.src st).pre (k:=xs.length) (by show _≤xs.length+1; omega)
 rw [Nat.mul_one,List.take_append_of_le_length (by simp),List.take_of_length_le (by simp)] at this
 exact this
theorem TwI.row {t:Slc} {xs:List Int} (h:TwI t xs rb):RowC 1 t (xs.map Vi) rb:=by
 obtain⟨p,c,rfl,r⟩:=h
 have hl:=r.len
 have hc:=r.cap_le
 have:=r.cut (lo:=0) (hi:=(xs.length:Int)) (mx:=(c:Int)) O_ O_ (by show(xs.length:Int)≤((xs.length+1:Nat):Int); omega) (by have:xs.length+1≤c:=hc; omega) (by show(c:Int)≤(c:Int); omega)
 have e:Slc.cut 1 ⟨p,xs.length+1,c⟩ 0 (xs.length:Int) (c:Int)=⟨p,xs.length,c⟩:=by
  unfold Slc.cut
  simp only [Int.toNat_natCast,Int.toNat_zero,Nat.sub_zero,Nat.zero_mul]
  have hc0:c≠0:=by have:xs.length+1≤c:=hc; omega
  rcases r with ⟨hp,hl2,_⟩ | ⟨b,pre,rest,suf,hp,_⟩
  ·exact absurd hl2 (by show xs.length+1≠0; omega)
  ·rw [if_neg hc0]
   have hp:p=some ⟨b,pre.length,none⟩:=hp
   rw [hp]; rfl
 rw [e] at this
 simpa using this
theorem s_wd {s:Slc} {xs:List Int} {R:Slc→WP} (st:St w0 fr w) (hs:zh w s 1 (xs.map Vi)) (hl:s.len≤17592186043904) (hold:s.len=0∨∀ l w',St w0 (l++fr) w'→zh w' s 1 (xs.map Vi))
    (k:∀ t rb w',TwI t xs rb→St w0 (rb++fr) w'→R t w'):C_0b s w R:=by
 apply S_Hb
 unfold F_Fd
 have hlen:=hs.len_eq
 have hw1:IntKind.i64.wrap (((s.len:Nat):Int)+1)=((s.len+1:Nat):Int):=by rw [i64_in _ O_ O_]; omega
 rw [hw1,Int.toNat_natCast]
 refine⟨O_,O_,O_,fun b w1 hb hw=> ?_⟩
 have st1:=st.alloc (cs:=(zJ (s.len+1) [Vi 0]).toList) hb (by simpa using hw)
 have r1:RowC 1 ⟨some ⟨b,0,none⟩,0,s.len+1⟩ [] [(b,(zJ (s.len+1) [Vi 0]).toList)]:= .inr ⟨b,[],(zJ (s.len+1) [Vi 0]).toList,[],rfl,by simp,rfl,by simp [zJ],by show 0≤_; omega⟩
 refine⟨fun t i w'=>0≤i∧i≤s.len∧∃ rb,RowC 1 t ((xs.take i.toNat).map Vi) rb∧t.len=i.toNat∧St w0 (rb++fr) w',fun t i w'=>s.len - i.toNat,⟨O_,O_,_,r1,rfl,st1⟩,?_⟩
 rintro t i w2 ⟨h0,h1,rb,r,ht,st⟩
 unfold F_Tb
 refine⟨fun hi=> ?_,fun hi=> ?_⟩
 ·have hi:=of_decide_eq_true hi
  obtain⟨ha,x,hx,hc⟩:=zh.get ((hold.resolve_left O_) rb w2 st) h0 hi
  refine⟨ha,h0,hi,x,hc,fun b1 w3 hb1 hw3=>⟨[Vi x],z7d hb1 hw3 rfl,?_⟩⟩
  have wi:=zkd h0 hi O_
  refine r.append (st.keep (Ext.new hw3)) rfl rfl rfl O_ fun t' rb' w4 r' st' hl'=> ?_
  rw [wi]
  refine⟨⟨O_,O_,rb',?_,O_,st'⟩,by show s.len - (i+1).toNat<s.len - i.toNat; omega⟩
  rw [zMc h0,List.take_add_one,hx]
  simpa using r'
 ·have hi:=of_decide_eq_false hi
  have hn:i.toNat=xs.length:=O_
  rw [hn,List.take_length] at r
  refine fun b2 w5 hb2 hw5=>⟨[Vi 7777],z7d hb2 hw5 rfl,?_⟩
  refine r.append (st.keep (Ext.new hw5)) rfl rfl rfl O_ fun t' rb' w4 r' st' hl'=> ?_
  have hc:=r'.cap_le
  refine⟨O_,O_,k _ rb' _ ⟨t'.ptr,t'.cap,by rw [Int.toNat_natCast,hlen],?_⟩ st'⟩
  have:(⟨t'.ptr,xs.length+1,t'.cap⟩:Slc)=t':=by cases t'; simp only [Slc.mk.injEq,true_and,and_true]; simp only at hl'; omega
  rw [this]; exact r'
theorem s_xd {t s:Slc} {xs:List Int} {R:Bool→WP} (o:TwI t xs rb) (st:St w0 (rb++fr) w) (hl:s.len≤17592186043904) (hs:∀ w',St w0 (rb++fr) w'→zh w' s 1 (xs.map Vi))
    (k:∀ w',St w0 (rb++fr) w'→R true w'):C_1b t s w R:=by
 apply S_Ib
 unfold F_Gd
 have hlen:=(hs w st).len_eq
 have htl:=o.len
 obtain⟨p,c,rfl,r⟩:=id o
 have hc:=r.cap_le
 simp only at hc
 refine⟨fun h=> ?_,fun _=> ?_⟩
 ·simp only [Bool.or_eq_true,bne_iff_ne,decide_eq_true_eq] at h
  omega
 refine⟨fun i w'=>0≤i∧i≤s.len∧St w0 (rb++fr) w',fun i w'=>s.len - i.toNat,⟨O_,O_,st⟩,?_⟩
 rintro i w1 ⟨h0,h1,st⟩
 unfold F_Ub
 refine⟨fun hi=> ?_,fun hi=> ?_⟩
 ·have hi:=of_decide_eq_true hi
  obtain⟨a1,x1,hx1,hc1⟩:=zh.get (o.src st) h0 (by show i<((xs.length:Nat):Int); omega)
  obtain⟨a2,x2,hx2,hc2⟩:=zh.get (hs w1 st) h0 hi
  obtain rfl:x1=x2:=by rw [hx1] at hx2; exact Option.some.inj hx2
  refine⟨a1,h0,by show i<((xs.length:Nat):Int); omega,_,hc1,a2,h0,hi,_,hc2,fun w2 e=>⟨fun h=>by simp at h,fun _=> ?_⟩⟩
  rw [zkd h0 hi O_]
  exact⟨⟨O_,O_,st.keep e⟩,by show s.len - (i+1).toNat<s.len - i.toNat; omega⟩
 ·have hi:=of_decide_eq_false hi
  have hw1:IntKind.i64.wrap (((s.len:Nat):Int)+1)=((s.len+1:Nat):Int):=by rw [i64_in _ O_ O_]; omega
  rw [hw1]
  obtain⟨a,cc⟩:=zTc.at_ (r.src st) (by show 0<xs.length+1; omega) O_
  refine⟨O_,by show((s.len+1:Nat):Int)≤((c:Nat):Int); omega,a,O_,O_,7777,?_,?_⟩
  ·rw [Int.toNat_natCast,hlen]
   exact zI.1 cc xs.length _ (by rw [List.getElem?_append_right (by simp)]; simp)
  ·simpa using k w1 st
end
theorem z4f:∀(l:List Nat) (n:Nat),addC n l≤1048576→addC n l=n+l.sum
 | [],n,_=>by rw [addC]; simp
 | x::r,n,h=>by
  rw [addC] at h ⊢
  by_cases hn:n≤1048576
  ·rw [if_pos hn] at h ⊢
   rw [z4f r (n+x) h,List.sum_cons]; omega
  ·rw [if_neg hn] at h; omega
theorem z0i:∀ {l:List Nat} {x:Nat},x∈l→x≤l.sum
 | y::r,x,h=>by
  rw [List.sum_cons]
  rcases List.mem_cons.1 h with rfl | h
  ·omega
  ·have:=z0i h; omega
/-- A checkpoint that is not beyond is small in all its parts. -/
theorem z1i {os:List HO} (h:hsS os≤1048576):os.length≤1048576∧(∀ o∈os,o.1.size≤1048576∧o.2.1.length≤1048576)∧os.length+(os.map fun o=>o.2.1.length).sum≤1048576:=by
 have e:hsS os=os.length+(os.map fun o=>o.1.size+vsS o.2.1).sum:=z4f _ _ h
 have ev:∀ o:HO,o.2.1.length≤vsS o.2.1:=fun o=>zZi _ _
 refine⟨O_,fun o ho=> ?_,?_⟩
 ·have:=z0i (List.mem_map.2 ⟨o,ho,rfl⟩:o.1.size+vsS o.2.1∈os.map fun o=>o.1.size+vsS o.2.1)
  have:=ev o
  omega
 ·have:∀ l:List HO,(l.map fun o=>o.2.1.length).sum≤(l.map fun o=>o.1.size+vsS o.2.1).sum:=fun l=>by
    induction l with
    | nil=>exact Nat.le_refl _
    | cons o r ih=>rw [List.map_cons,List.map_cons,List.sum_cons,List.sum_cons]; have:=ev o; omega
  have:=this os
  omega
section
variable {w:World}
theorem s_ub {sv:T_b} {m:SvM} {os:List HO} {R:Int→WP} (ha:SvAt w sv m os) (hz:SzOk os) (k:∀ w',Ext w w'→(sv.Beyond.len+hsS os:Nat)≤1125899906842624→R (((sv.Beyond.len+hsS os:Nat)):Int) w'):C_Lb sv w R:=by
 apply S_rb
 unfold F_rd
 intro b w1 hb hw1
 have st1:St ⟨w,[]⟩ [(b,svT sv)] w1:=(St.start w).alloc hb hw1
 have hsl:sv.Held.len=os.length:=by have:=ha.held.src.1; rw [zq (sz:=2) (fun _=>rfl)] at this; omega
 have h1:=ha.blen
 have h2:=ha.hlen
 have h4:=z1o (os:=os) O_ (fun o ho=>by have:=z2c (ha.held.ver o ho).1; have:=ha.vlen o ho; omega) hz
 refine⟨sv.Beyond,st1.cell 0 rfl rfl,sv.Held,st1.cell 0 rfl rfl,((hsS os:Nat):Int),fun w2 e2=>s_cd ((ha.ext st1.ext).held.ext e2) h2 ha.vlen hz fun w3 e3=>⟨rfl,e3⟩,fun w3 e3=> ?_⟩
 rw [i64_in _ O_ O_]
 have e:((sv.Beyond.len:Nat):Int)+((hsS os:Nat):Int)=(((sv.Beyond.len+hsS os:Nat)):Int):=O_
 rw [e]
 exact k w3 (st1.keep e3).ext O_
end
/-- A copy of a checkpoint, all of one's own, with marks behind its lists. -/
structure TwS (tw:T_b) (m:SvM) (os:List HO) (ts:List Slc) (rb tb vb:List zf):Prop where
 mark:tw.Mark=m.mark
 bey:TwI tw.Beyond m.bey rb
 held:TwG 2 hldT spH tw.Held (rowH os ts) tb
 ver:zXb InVT os ts vb
abbrev twO (os:List HO) (ts:List Slc):List HO:=(os.zip ts).map fun p=>(p.1.1,p.1.2.1,p.2)
theorem zRl (os:List HO) (ts:List Slc):(twO os ts).flatMap hoT=(rowH os ts).flatMap hldT:=by
 unfold twO rowH
 rw [List.flatMap_map,List.flatMap_map]
theorem z3k:∀ {os:List HO} {ts:List Slc},ts.length=os.length→(twO os ts).map hoD=os.map hoD
 | [],_,_=>rfl
 | o::os,[],h=>by simp at h
 | o::os,t::ts,h=>by
  have ih:=z3k (os:=os) (ts:=ts) (by simpa using h)
  show(o.1,o.2.1)::(twO os ts).map hoD=_
  rw [ih]; rfl
theorem z2o {os:List HO} {ts:List Slc} {x:HO} (h:x∈twO os ts):∃(i:Nat) (o:HO),os[i]? =some o∧ts[i]? =some x.2.2∧x.1=o.1∧x.2.1=o.2.1:=by
 obtain⟨q,hq,rfl⟩:=List.mem_map.1 h
 obtain⟨i,hi⟩:=List.mem_iff_getElem?.1 hq
 obtain⟨h1,h2⟩:=List.getElem?_zip_eq_some.1 hi
 exact⟨i,q.1,h1,h2,rfl,rfl⟩
section
variable {w0:Base} {w:World} {fr rb tb vb:List zf} {tw sv:T_b} {m:SvM} {os:List HO} {ts:List Slc}
theorem TwS.verAt (h:TwS tw m os ts rb tb vb) (st:St w0 (rb++(tb++(vb++fr))) w):∀(i:Nat) (o:HO) (s:Slc),os[i]? =some o→ts[i]? =some s→z2e w 3 verT spV s o.2.1:=fun i o s h1 h2=>by
 obtain⟨a,c,b,e,hi⟩:=h.ver.at_ h1 h2
 subst e
 have st':St w0 (c++(a++(b++(rb++(tb++fr))))) w:=st.pq
 exact TwG.at_ hi st'
theorem TwS.svA (h:TwS tw m os ts rb tb vb) (st:St w0 (rb++(tb++(vb++fr))) w) (hos:os.map hoD=m.held) (hb:m.bey.length≤1048576) (hh:os.length≤1048576) (hv:∀ o∈os,o.2.1.length≤1048576):SvAt w tw m (twO os ts):=by
 have hpl:=h.ver.len
 have htb:=h.bey.len
 have hg:=TwG.at_ h.held (show St w0 (tb++(rb++(vb++fr))) w from st.pq)
 have hgl:=hg.len
 rw [zdg hpl] at hgl
 have vl:∀ o∈twO os ts,zh w o.2.2 3 (o.2.1.flatMap verT)∧o.2.2.len≤1048576:=fun o ho=>by
  obtain⟨i,o',h1,h2,h3,h4⟩:=z2o ho
  have g:=h.verAt st i o' o.2.2 h1 h2
  rw [h4]
  have g1:=g.len
  have g2:=hv o' (List.mem_of_getElem? h1)
  refine⟨?_,O_⟩
  have:=g.src.pre (k:=o'.2.1.length) (by show _≤o'.2.1.length+1; omega)
  rw [List.flatMap_append,List.take_left' (by rw [zq (sz:=3) (fun _=>rfl)])] at this
  have e:(⟨o.2.2.ptr,o'.2.1.length,o.2.2.cap⟩:Slc)=o.2.2:=by rw [←g1]
  rw [←e]; exact this
 refine⟨h.mark,h.bey.src (fr:=tb++(vb++fr)) st,⟨?_,fun o ho=>⟨(vl o ho).1,by have:=(vl o ho).2; omega⟩⟩,by rw [z3k hpl,hos],O_,O_,fun o ho=>by have:=(vl o ho).2; omega⟩
 rw [zRl]
 exact(TwG.row (sz:=2) (fun _=>rfl) h.held).src (show St w0 (tb++(rb++(vb++fr))) w from st.pq)
theorem TwS.hds (h:TwS tw m os ts rb tb vb) (hos:os.map hoD=m.held):HdsO tw.Held m.held (tb++vb):=by
 have hpl:=h.ver.len
 refine⟨ts,tb,vb,rfl,?_,?_⟩
 ·have:=TwG.row (sz:=2) (fun _=>rfl) h.held
  rw [←hos]
  have e:((os.map hoD).zip ts).flatMap (fun p=>hdV p.1.1 p.2)=(rowH os ts).flatMap hldT:=by
   unfold rowH
   rw [List.zip_map_left,List.flatMap_map,List.flatMap_map]
   rfl
  rw [e]; exact this
 ·rw [←hos]
  have key:∀ {os:List HO} {ts:List Slc} {vb:List zf},zXb InVT os ts vb→zXb InV (os.map hoD) ts vb:=fun {os}=>by
   induction os with
   | nil =>
    intro ts vb h
    cases ts with
    | nil=>exact h
    | cons t ts=>exact h.elim
   | cons o os ih =>
    intro ts vb h
    cases ts with
    | nil=>exact h.elim
    | cons t ts =>
     obtain⟨c,cs',e,h1,h2⟩:=h
     exact⟨c,cs',e,TwG.row (sz:=3) (fun _=>rfl) h1,ih h2⟩
  exact key h.ver
theorem s_Hb {R:T_b→WP} (st:St w0 fr w) (ha:SvAt w0.w sv m os) (hb:sv.Beyond.len≤1048576) (hh:sv.Held.len≤1048576)
    (k:∀ tw ts rb tb vb w',TwS tw m os ts rb tb vb→St w0 (rb++(tb++(vb++fr))) w'→R tw w'):C_Mb sv w R:=by
 apply S_sb
 unfold F_sd
 intro b w1 hb0 hw b1 w2 hb1 hw1 w3 hd
 have st3:St w0 ((b1,svT ⟨0,⟨none,0,0⟩,⟨none,0,0⟩⟩)::(b,svT sv)::fr) w3:=((st.alloc (cs:=svT sv) hb0 hw).alloc (cs:=svT ⟨0,⟨none,0,0⟩,⟨none,0,0⟩⟩) hb1 hw1).drew hd
 refine⟨sv.Mark,st3.cell 1 rfl rfl,sv.Beyond,st3.cell 1 rfl rfl,sv.Held,st3.cell 1 rfl rfl,?_⟩
 refine s_wd st3 (st3.ext.src ha.bey) O_ (.inr fun l w' st'=>st'.ext.src ha.bey) fun t rb w4 o4 st4=> ?_
 have st4:St w0 ((b1,svT ⟨0,⟨none,0,0⟩,⟨none,0,0⟩⟩)::(b,svT sv)::(rb++fr)) w4:=st4.pq
 refine⟨st4.cell 1 rfl rfl,st4.cell 1 rfl rfl,?_⟩
 refine s_Cc st4 ha.held O_ fun th ts tb vb w5 o5 ps5 st5=> ?_
 have st5:St w0 ((b1,svT ⟨0,⟨none,0,0⟩,⟨none,0,0⟩⟩)::(b,svT sv)::(rb++(tb++(vb++fr)))) w5:=st5.pq
 refine⟨st5.cell 1 rfl rfl,st5.writable 0 rfl D_,fun w6 hw6=>⟨⟨sv.Mark,t,th⟩,?_⟩⟩
 have st6:St w0 ((b1,svT ⟨sv.Mark,t,th⟩)::(b,svT sv)::(rb++(tb++(vb++fr)))) w6:=st5.put0 hw6
 exact⟨⟨st6.cell 0 rfl rfl,st6.cell 0 rfl rfl,st6.cell 0 rfl rfl,trivial⟩,k _ ts rb tb vb w6 ⟨ha.mark,o4,o5,ps5⟩ st6.drop1.drop1⟩
theorem s_Ib {R:Bool→WP} (h:TwS tw m os ts rb tb vb) (st:St w0 (rb++(tb++(vb++fr))) w) (ha:SvAt w0.w sv m os) (hb:sv.Beyond.len≤1048576) (hh:sv.Held.len≤1048576)
    (k:∀ w',St w0 (rb++(tb++(vb++fr))) w'→R true w'):C_Nb tw sv w R:=by
 apply S_tb
 unfold F_td
 intro b w1 hb0 hw b1 w2 hb1 hw1
 have st2:St w0 ((b1,svT sv)::(b,svT tw)::(rb++(tb++(vb++fr)))) w2:=(st.alloc (cs:=svT tw) hb0 hw).alloc (cs:=svT sv) hb1 hw1
 refine⟨tw.Mark,st2.cell 1 rfl rfl,sv.Mark,st2.cell 0 rfl rfl,fun _=> ?_,fun hne=> ?_⟩
 rotate_left
 ·rw [h.mark,ha.mark,beq_self_eq_true] at hne; cases hne
 refine⟨tw.Beyond,st2.cell 1 rfl rfl,sv.Beyond,st2.cell 0 rfl rfl,?_⟩
 have st2b:St w0 (rb++((b1,svT sv)::(b,svT tw)::(tb++(vb++fr)))) w2:=st2.pq
 refine s_xd h.bey st2b O_ (fun w' st'=>st'.ext.src ha.bey) fun w3 st3=>⟨fun _=> ?_,fun h=>(by cases h)⟩
 have st3:St w0 ((b1,svT sv)::(b,svT tw)::(rb++(tb++(vb++fr)))) w3:=st3.pq
 refine⟨tw.Held,st3.cell 1 rfl rfl,sv.Held,st3.cell 0 rfl rfl,?_⟩
 have st3t:=st3.drop1.drop1
 refine s_Dc (TwG.at_ h.held (show St w0 (tb++(rb++(vb++fr))) w3 from st3t.pq)) h.ver.len (h.verAt st3t) (ha.held.ext st3.ext) O_ fun w4 e4=> ?_
 exact k w4 (st3t.keep e4)
end
theorem z2i:∀ {vs:List Ver} {p:Int},okC p vs=true→0≤p→p≤65536→(vs.length:Int)+p≤65536
 | [],p,_,_,h1=>by simpa using h1
 | v::r,p,h,h0,h1=>by
  rw [okC] at h
  simp only [Bool.and_eq_true,decide_eq_true_eq] at h
  obtain⟨⟨hm,hp⟩,hr⟩:=h
  unfold mayV at hm
  simp only [Bool.and_eq_true,decide_eq_true_eq] at hm
  have:=z2i hr O_ hm.1.1.2
  rw [List.length_cons]; omega
theorem zWe {α:Type} {f:α→List UInt8} {c:Nat} (h:∀ x,c≤(f x).length):∀ l:List α,c*l.length≤(l.flatMap f).length
 | []=>by simp
 | x::l=>by
  rw [List.flatMap_cons,List.length_append,List.length_cons,Nat.mul_add]
  have:=zWe h l
  have:=h x
  omega
theorem znk (n:Nat):1≤(varF n).length:=by
 unfold varF
 rw [varB]
 split <;> simp
/-- What is small of a checkpoint that was read from a slot's bytes. -/
def zZc (v:SvM):Prop:=v.bey.length≤65536∧v.held.length≤16777216∧∀ h∈v.held,h.2.length≤1048576
theorem zUd:zZc zSv:=⟨Nat.zero_le _,Nat.zero_le _,fun h hh=>(by cases hh)⟩
theorem zok {v:SvM} (h:ckOk v) (hl:(encS v).length≤16777216):zZc v:=by
 obtain⟨h1,h2,h3,_⟩:=h
 refine⟨by have:=(zmj h2 O_).2; omega,?_,fun x hx=> ?_⟩
 ·have:v.held.length≤(v.held.flatMap zxc).length:=by
    have:=zWe (f:=zxc) (c:=1) (fun x=>by unfold zxc; have:=znk x.1.size; simp only [List.length_append]; omega) v.held
    omega
  unfold encS at hl
  simp only [List.length_append] at hl
  omega
 ·have:=z2i (h3.1 x hx).2.2 (Int.le_refl 0) D_
  omega
theorem zFi {xs:List UInt8} (hl:xs.length≤16777216):zZc (decM xs).1:=by
 by_cases h:(decM xs).2=0
 ·obtain⟨h1,h2⟩:=zWl O_ h
  exact zok h1 (by rw [h2]; exact hl)
 ·have:(decM xs).1=zSv:=by
    unfold decM at h ⊢
    split
    ·rfl
    ·split
     ·rfl
     ·split
      ·rename_i a b c
       rw [if_neg a,if_neg b,if_pos c] at h
       exact absurd rfl h
      ·rfl
  rw [this]; exact zUd
theorem zFg {xs:List UInt8} (hl:xs.length≤16777216):zZc (zZ xs).1:=by
 by_cases h:zCd xs
 ·rw [z3d h]; exact zFi (by rw [List.length_drop]; omega)
 ·rw [zHc h]; exact zUd
theorem zEf {m:DM} (h:∀ s,(m.get s).length≤16777216):∀ p,zZc (accM m p).sv
 | 0=>zUd
 | p+1=>by
  show zZc (zUb _ _ _).sv
  unfold zUb
  split
  ·exact zFg (h _)
  ·exact zEf h p
theorem zGi {m:DM} (h:∀ s,(m.get s).length≤16777216):zZc (newM m).sv:=zEf h 2
/-! ### A checkpoint's bytes are few where its size is small -/
theorem zKe {α:Type} {f:α→List UInt8} {g:α→Nat}:∀ {l:List α},(∀ x∈l,(f x).length≤g x)→(l.flatMap f).length≤(l.map g).sum
 | [],_=>by simp
 | x::l,h=>by
  rw [List.flatMap_cons,List.length_append,List.map_cons,List.sum_cons]
  have:=zKe (f:=f) (g:=g) (l:=l) fun y hy=>h y (List.mem_cons_of_mem _ hy)
  have:=h x (List.mem_cons_self ..)
  omega
theorem z5f {α:Type} (g:α→Nat) (c d:Nat):∀ l:List α,(l.map fun x=>c+d*g x).sum=c*l.length+d*(l.map g).sum
 | []=>by simp
 | x::l=>by
  rw [List.map_cons,List.sum_cons,z5f g c d l,List.map_cons,List.sum_cons,List.length_cons,Nat.mul_add,Nat.mul_add]; omega
theorem zed (n:Nat):(varF n).length≤10:=zwd _ _
theorem zpk (v:Ver):(zpb v).length≤21+1*v.Val.size:=by
 unfold zpb
 have h1:=zed v.Number.toNat
 have h2:=zed v.Val.size
 have h3:v.Val.data.toList.length=v.Val.size:=by simp
 split
 ·simp only [List.length_append,fixB_len]; omega
 ·simp only [List.length_append,fixB_len]; omega
theorem zqk {o:HO} (h:vsS o.2.1≤1048576):(zxc (hoD o)).length≤20+21*(o.1.size+vsS o.2.1):=by
 have e:vsS o.2.1=o.2.1.length+(o.2.1.map fun v=>v.Val.size).sum:=z4f _ _ h
 have h1:(o.2.1.flatMap zpb).length≤21*o.2.1.length+1*(o.2.1.map fun v=>v.Val.size).sum:=by
  rw [←z5f (fun v:Ver=>v.Val.size)]
  exact zKe fun v _=>zpk v
 unfold zxc
 have h2:=zed o.1.size
 have h3:=zed o.2.1.length
 have h4:o.1.data.toList.length=o.1.size:=by simp
 simp only [List.length_append]
 omega
theorem zSl {v:SvM} {os:List HO} (hos:os.map hoD=v.held) (hS:v.bey.length+hsS os≤1048576):(encS v).length≤1073741824:=by
 have e:hsS os=os.length+(os.map fun o=>o.1.size+vsS o.2.1).sum:=z4f _ _ (by show hsS os≤_; omega)
 have hv:∀ o∈os,vsS o.2.1≤1048576:=fun o ho=>by
  have:=z0i (List.mem_map.2 ⟨o,ho,rfl⟩:o.1.size+vsS o.2.1∈os.map fun o=>o.1.size+vsS o.2.1)
  omega
 have h1:(v.held.flatMap zxc).length≤20*os.length+21*(os.map fun o=>o.1.size+vsS o.2.1).sum:=by
  rw [←hos,List.flatMap_map]
  have:=zKe (f:=fun o=>zxc (hoD o)) (g:=fun o=>20+21*(o.1.size+vsS o.2.1)) (l:=os) fun o ho=>zqk (hv o ho)
  rw [z5f (fun o:HO=>o.1.size+vsS o.2.1)] at this
  exact this
 have h2:=zKe (f:=encB) (g:=fun _=>10+0*0) (l:=v.bey) fun n _=>zed n.toNat
 rw [z5f (fun _=>0)] at h2
 have h3:=zed v.mark.toNat
 have h4:=zed v.bey.length
 have h5:=zed v.held.length
 unfold encS
 simp only [List.length_append]
 omega
theorem zGg (m:DM) (s:SvrM):(zbd m s).1.1.writes≤m.writes+1:=by
 unfold zbd
 split
 ·exact z2d m _
 ·split
  ·show m.writes≤_; omega
  ·exact z1d m _ _ _
def DpO (d:OA) (mo:Option DM) (bs:List zf):Prop:=match mo with | some m=>DkO d m bs | none=>d=none∧bs=[]
def RpO (d:OA) (mo:Option DM) (bs:List zf):Prop:=match mo with | some m=>RkO d m bs | none=>d=none∧bs=[]
def wrX (mo:Option DM):Nat:=match mo with | some m=>m.writes | none=>0
def zHg (mo:Option DM) (slot at_:Int) (ys:List UInt8):Option DM×Int:=match mo with | some m=>(some (zVb m slot at_ ys).1,(zVb m slot at_ ys).2) | none=>(none,2)
def zVd (mo:Option DM) (slot:Int):Option DM×Int:=match mo with | some m=>if slot=0∨slot=1 then(some (zxb m slot).1,(zxb m slot).2) else(some m,1) | none=>(none,2)
def cutX (mo:Option DM) (n:Int):Option DM×Int:=match mo with | some m=>if m.dead=true then(some m,11) else(some { m with can:=if n< -1 then -1 else n },0) | none=>(none,2)
def z3i (mo:Option DM):Option DM×Int:=match mo with | some m=>(some { m with dead:=false,can:= -1 },0) | none=>(none,2)
noncomputable def newX (mo:Option DM):NwM:=match mo with | some m=>newM m | none=>⟨zSv,0,0,false⟩
def nwE (mo:Option DM):Int:=match mo with | some _=>0 | none=>2
noncomputable def zrk (mo:Option DM) (v:SvM):Int:=match mo with | some m=>zbc m v | none=>2
theorem z4i (mo:Option DM) (slot a:Int) (ys:List UInt8):wrX (zHg mo slot a ys).1≤wrX mo+1:=by
 cases mo with
 | none=>exact Nat.zero_le _
 | some m=>exact z1d m slot a ys
theorem z5i (mo:Option DM) (slot:Int):wrX (zVd mo slot).1≤wrX mo+1:=by
 cases mo with
 | none=>exact Nat.zero_le _
 | some m =>
  unfold zVd
  show wrX (if slot=0∨slot=1 then(some (zxb m slot).1,(zxb m slot).2) else(some m,(1:Int))).1≤_
  split
  ·exact z2d m slot
  ·exact Nat.le_succ _
theorem zTl (mo:Option DM) (n:Int):wrX (cutX mo n).1≤wrX mo+1:=by
 cases mo with
 | none=>exact Nat.zero_le _
 | some m =>
  unfold cutX
  show wrX (if m.dead=true then(some m,(11:Int)) else(some { m with can:=if n< -1 then -1 else n },0)).1≤_
  split <;> exact Nat.le_succ _
theorem zsk (mo:Option DM):wrX (z3i mo).1≤wrX mo+1:=by
 cases mo <;> exact Nat.le_succ _
theorem zHi {d:OA} {mo:Option DM} {bs:List zf} (o:DpO d mo bs):zZc (newX mo).sv:=by
 cases mo with
 | none=>exact zUd
 | some m=>exact zGi fun s=>DkO.lens o s
section
variable {w0:Base} {w:World} {fr bs:List zf} {d:OA} {mo:Option DM}
theorem s_Kc {slot at_:Int} {b_:Slc} {ys:List UInt8} {R:Int→WP} (st:St w0 (bs++fr) w) (o:DpO d mo bs) (hwr:wrX mo<4611686018427387904) (hs:∀ l' w',St w0 (l'++fr) w'→zh w' b_ 1 (ys.map bV))
    (k:∀ bs' w',DpO d (zHg mo slot at_ ys).1 bs'→St w0 (bs'++fr) w'→R (zHg mo slot at_ ys).2 w'):C_U d slot at_ b_ w R:=by
 cases mo with
 | none=>obtain⟨rfl,rfl⟩:=o; exact s_2c (bs:=[]) st (.inl ⟨rfl,rfl⟩) (k [] w ⟨rfl,rfl⟩ st)
 | some m=>exact s_x st o hwr hs k
theorem s_Lc {slot at_:Int} {b_:Slc} {ys:List UInt8} {R:Int→WP} (st:St w0 (bs++fr) w) (o:RpO d mo bs) (hwr:wrX mo<4611686018427387904) (hs:∀ l' w',St w0 (l'++fr) w'→zh w' b_ 1 (ys.map bV))
    (k:∀ bs' w',RpO d (zHg mo slot at_ ys).1 bs'→St w0 (bs'++fr) w'→R (zHg mo slot at_ ys).2 w'):C_i d slot at_ b_ w R:=by
 cases mo with
 | none=>obtain⟨rfl,rfl⟩:=o; exact s_yc (k [] w ⟨rfl,rfl⟩ st)
 | some m=>exact s_K st o hwr hs k
theorem s_Mc {slot:Int} {R:Int→WP} (st:St w0 (bs++fr) w) (o:DpO d mo bs) (hwr:wrX mo<4611686018427387904)
    (k:∀ bs' w',DpO d (zVd mo slot).1 bs'→St w0 (bs'++fr) w'→R (zVd mo slot).2 w'):C_z d slot w R:=by
 cases mo with
 | none=>obtain⟨rfl,rfl⟩:=o; exact s_3c (bs:=[]) st (.inl ⟨rfl,rfl⟩) (k [] w ⟨rfl,rfl⟩ st)
 | some m =>
  unfold zVd at k
  by_cases hsl:slot=0∨slot=1
  ·simp only [if_pos hsl] at k; exact s_y st o hsl hwr k
  ·simp only [if_neg hsl] at k; exact s_U st o hsl (k bs w o st)
theorem s_Nc {slot:Int} {R:Int→WP} (st:St w0 (bs++fr) w) (o:RpO d mo bs) (hwr:wrX mo<4611686018427387904)
    (k:∀ bs' w',RpO d (zVd mo slot).1 bs'→St w0 (bs'++fr) w'→R (zVd mo slot).2 w'):C_j d slot w R:=by
 cases mo with
 | none=>obtain⟨rfl,rfl⟩:=o; exact s_zc (k [] w ⟨rfl,rfl⟩ st)
 | some m =>
  unfold zVd at k
  refine s_L st o hwr (fun hsl=> ?_) fun hsl=> ?_
  ·simp only [if_neg hsl] at k; exact k bs w o st
  ·simp only [if_pos hsl] at k; exact k
theorem s_yd {n:Int} {R:Int→WP} (st:St w0 (bs++fr) w) (o:DpO d mo bs) (hn:n≤9223372036854775807)
    (k:∀ bs' w',DpO d (cutX mo n).1 bs'→St w0 (bs'++fr) w'→R (cutX mo n).2 w'):C_6b d n w R:=by
 cases mo with
 | none=>obtain⟨rfl,rfl⟩:=o; exact s_Id (bs:=[]) st (.inl ⟨rfl,rfl⟩) (k [] w ⟨rfl,rfl⟩ st)
 | some m =>
  unfold cutX at k
  refine s_wc st o hn (fun h=> ?_) fun h=> ?_
  ·simp only [if_pos h] at k; exact k bs w o st
  ·have hd:¬ m.dead=true:=by rw [h]; decide
   simp only [if_neg hd] at k; exact k
theorem s_zd {n:Int} {R:Int→WP} (st:St w0 (bs++fr) w) (o:RpO d mo bs) (hn:n≤9223372036854775807)
    (k:∀ bs' w',RpO d (cutX mo n).1 bs'→St w0 (bs'++fr) w'→R (cutX mo n).2 w'):C_y d n w R:=by
 cases mo with
 | none=>obtain⟨rfl,rfl⟩:=o; exact s_ud (k [] w ⟨rfl,rfl⟩ st)
 | some m =>
  unfold cutX at k
  refine s_rd st o hn (fun h=> ?_) fun h=> ?_
  ·simp only [if_pos h] at k; exact k bs w o st
  ·have hd:¬ m.dead=true:=by rw [h]; decide
   simp only [if_neg hd] at k; exact k
theorem s_dd {R:Int→WP} (st:St w0 (bs++fr) w) (o:DpO d mo bs) (k:∀ bs' w',DpO d (z3i mo).1 bs'→St w0 (bs'++fr) w'→R (z3i mo).2 w'):C_Ob d w R:=by
 cases mo with
 | none=>obtain⟨rfl,rfl⟩:=o; exact s_sd (bs:=[]) st (.inl ⟨rfl,rfl⟩) (k [] w ⟨rfl,rfl⟩ st)
 | some m=>exact s_5b st o k
theorem s_ed {R:Int→WP} (st:St w0 (bs++fr) w) (o:RpO d mo bs) (k:∀ bs' w',RpO d (z3i mo).1 bs'→St w0 (bs'++fr) w'→R (z3i mo).2 w'):C_t d w R:=by
 cases mo with
 | none=>obtain⟨rfl,rfl⟩:=o; exact s_4c (k [] w ⟨rfl,rfl⟩ st)
 | some m=>exact s_1c st o k
def z3o (mo:Option DM):Bool:=match mo with | some m=>m.dead | none=>false
theorem s_fd {R:Bool→WP} (st:St w0 (bs++fr) w) (o:DpO d mo bs) (k:R (z3o mo) w):C_Qb d w R:=by
 cases mo with
 | none=>obtain⟨rfl,rfl⟩:=o; exact s_td (bs:=[]) st (.inl ⟨rfl,rfl⟩) k
 | some m=>exact s_4b st o k
theorem s_gd {R:Bool→WP} (st:St w0 (bs++fr) w) (o:RpO d mo bs) (k:R (z3o mo) w):C_u d w R:=by
 cases mo with
 | none=>obtain⟨rfl,rfl⟩:=o; exact s_6c k
 | some m=>exact s_0c st o k
theorem s_gc {R:Int→WP} (st:St w0 (bs++fr) w) (o:DpO d mo bs) (k:R (wrX mo:Int) w):C_pb d w R:=by
 cases mo with
 | none=>obtain⟨rfl,rfl⟩:=o; exact s_xc (bs:=[]) st (.inl ⟨rfl,rfl⟩) k
 | some m=>exact s_db st o k
theorem s_hc {R:Int→WP} (st:St w0 (bs++fr) w) (o:RpO d mo bs) (k:R (wrX mo:Int) w):C_l d w R:=by
 cases mo with
 | none=>obtain⟨rfl,rfl⟩:=o; exact s_6b k
 | some m=>exact s_2b st o k
def getX (mo:Option DM) (s:Int):List UInt8:=match mo with | some m=>m.get s | none=>[]
theorem s_hd {slot:Int} {R:Slc→Int→WP} (st:St w0 (bs++fr) w) (o:DpO d mo bs) (hsl:slot=0∨slot=1)
    (k:∀ s rb w',RowC 1 s ((getX mo slot).map bV) rb→s.len≤16777216→St w0 (rb++(bs++fr)) w'→R s (nwE mo) w'):C_ab d slot w R:=by
 cases mo with
 | none=>obtain⟨rfl,rfl⟩:=o; exact s_ob (bs:=[]) st (.inl ⟨rfl,rfl⟩) (k _ [] w RowC.nil (Nat.zero_le _) st)
 | some m=>exact s_F st o hsl fun s rb w' r st' hl=>k s rb w' r (by have:=DkO.lens o slot; omega) st'
theorem s_id {slot:Int} {R:Slc→Int→WP} (st:St w0 (bs++fr) w) (o:RpO d mo bs) (hsl:slot=0∨slot=1)
    (k:∀ s,zh w s 1 ((getX mo slot).map bV)→R s (nwE mo) w):C_b d slot w R:=by
 cases mo with
 | none=>obtain⟨rfl,rfl⟩:=o; exact s_5c (k _ ⟨rfl,.inl rfl⟩)
 | some m=>exact s_Zc st o (fun h=>absurd hsl h) fun _ s hs=>k s (hs w st)
theorem s_ic {R:T_b→Int→Int→Bool→Int→WP} (st:St w0 (bs++fr) w) (o:DpO d mo bs)
    (k:∀ s' eb hc w',SavO s' (newX mo).sv eb hc→St w0 (eb++(hc++(bs++fr))) w'→R s' (((newX mo).gen:Nat):Int) (newX mo).slot (newX mo).ok (nwE mo) w'):C_Kb d w R:=by
 cases mo with
 | none=>obtain⟨rfl,rfl⟩:=o; exact s_W st fun w' st'=>k _ [] [] w' SavO.zero st'
 | some m=>exact s_jb st o k
theorem s_jc {R:T_b→Int→Int→Bool→Int→WP} (st:St w0 (bs++fr) w) (o:RpO d mo bs)
    (k:∀ s' eb hc w',SavO s' (newX mo).sv eb hc→St w0 (eb++(hc++(bs++fr))) w'→R s' (((newX mo).gen:Nat):Int) (newX mo).slot (newX mo).ok (nwE mo) w'):C_q d w R:=by
 cases mo with
 | none=>obtain⟨rfl,rfl⟩:=o; exact s_O st fun w' st'=>k _ [] [] w' SavO.zero st'
 | some m=>exact s_v st o k
/-- A saver, of the program or the document's: none, or of a model. -/
def SpO (d t:OA) (so:Option SvrM) (cs:List zf):Prop:=match so with | some s=>SvrO d t s cs | none=>t=none∧cs=[]
def SqO (r t:OA) (so:Option SvrM) (cs:List zf):Prop:=match so with | some s=>RsvO r t s cs | none=>t=none∧cs=[]
theorem SpO.isNone {t:OA} {so:Option SvrM} {cs:List zf} (o:SpO d t so cs):t.isNone=so.isNone:=by
 cases so with
 | none=>obtain⟨rfl,_⟩:=o; rfl
 | some s=>obtain⟨b,rs,rb,rfl,_⟩:=o; rfl
theorem SqO.isNone {t:OA} {so:Option SvrM} {cs:List zf} (o:SqO d t so cs):t.isNone=so.isNone:=by
 cases so with
 | none=>obtain⟨rfl,_⟩:=o; rfl
 | some s=>obtain⟨b,rs,rb,rfl,_⟩:=o; rfl
noncomputable def svrN (mo:Option DM) (v:SvM):Option SvrM:=match mo with | some m=>if zbc m v=0 then some ⟨zId m,allN m v,0⟩ else none | none=>none
theorem s_Ad {sv:T_b} {v:SvM} {os:List HO} {R:OA→Int→WP} (st:St w0 (bs++fr) w) (od:DpO d mo bs) (ha:∀ l w',St w0 (l++fr) w'→SvAt w' sv v os) (hl:(encS v).length≤1073741824)
    (k:∀ t cs w',SpO d t (svrN mo v) cs→St w0 (bs++(cs++fr)) w'→R t (zrk mo v) w'):C_kc d sv w R:=by
 cases mo with
 | none=>obtain⟨rfl,rfl⟩:=od; exact s_Jc st fun w' st'=>k none [] w' ⟨rfl,rfl⟩ st'
 | some m =>
  unfold svrN zrk at k
  refine s_bd st od ha hl (fun h w' st'=> ?_) fun h t cs w' o st'=> ?_
  ·simp only [if_neg h] at k; exact k none [] w' ⟨rfl,rfl⟩ st'
  ·simp only [if_pos h] at k
   have:=k t cs w' o st'
   rw [h] at this; exact this
theorem s_Bd {sv:T_b} {v:SvM} {os:List HO} {R:OA→Int→WP} (st:St w0 (bs++fr) w) (od:RpO d mo bs) (ha:∀ l w',St w0 (l++fr) w'→SvAt w' sv v os) (hl:(encS v).length≤1073741824)
    (k:∀ t cs w',SqO d t (svrN mo v) cs→St w0 (bs++(cs++fr)) w'→R t (zrk mo v) w'):C_ob d sv w R:=by
 cases mo with
 | none=>obtain⟨rfl,rfl⟩:=od; exact s_tb st fun w' st'=>k none [] w' ⟨rfl,rfl⟩ st'
 | some m =>
  unfold svrN zrk at k
  refine s_Ic st od ha hl (fun h w' st'=> ?_) fun h t cs w' o st'=> ?_
  ·simp only [if_neg h] at k; exact k none [] w' ⟨rfl,rfl⟩ st'
  ·simp only [if_pos h] at k
   have:=k t cs w' o st'
   rw [h] at this; exact this
def z4o (so:Option SvrM):Int:=match so with | some s=>((s.left:Nat):Int) | none=>0
theorem s_jd {t:OA} {so:Option SvrM} {cs:List zf} {R:Int→WP} (st:St w0 (cs++fr) w) (o:SpO d t so cs) (k:R (z4o so) w):C_s t w R:=by
 cases so with
 | none=>obtain⟨rfl,rfl⟩:=o; exact s_qb k
 | some s=>exact s_Gc st o k
theorem s_kd {t:OA} {so:Option SvrM} {cs:List zf} {R:Int→WP} (st:St w0 (cs++fr) w) (o:SqO d t so cs) (k:∀ w',St w0 (cs++fr) w'→R (z4o so) w'):C_k t w R:=by
 cases so with
 | none=>obtain⟨rfl,rfl⟩:=o; exact s_5 (k w st)
 | some s=>exact s_H st o k
/-- A saver is there just where a disk is. -/
def SvD (mo:Option DM) (so:Option SvrM):Prop:=mo=none→so=none
theorem ztk (mo:Option DM) (v:SvM):SvD mo (svrN mo v):=fun h=>by subst h; rfl
noncomputable def zXe (mo:Option DM) (so:Option SvrM):(Option DM×Option SvrM)×Int:=match mo,so with | some m,some s=>((some (zbd m s).1.1,some (zbd m s).1.2),(zbd m s).2) | mo,so=>((mo,so),2)
theorem zuk (mo:Option DM) (so:Option SvrM):wrX (zXe mo so).1.1≤wrX mo+1:=by
 cases mo with
 | none=>exact Nat.zero_le _
 | some m=>cases so with
  | none=>exact Nat.le_succ _
  | some s=>exact zGg m s
theorem z6i {mo:Option DM} {so:Option SvrM} (h:SvD mo so):SvD (zXe mo so).1.1 (zXe mo so).1.2:=by
 cases mo with
 | none=>obtain rfl:=h rfl; exact fun _=>rfl
 | some m=>cases so with
  | none=>exact fun _=>rfl
  | some s=>exact fun h=>(by cases h)
theorem s_ld {t:OA} {so:Option SvrM} {cs:List zf} {R:Int→WP} (st:St w0 (bs++(cs++fr)) w) (od:DpO d mo bs) (o:SpO d t so cs) (hd:SvD mo so) (hwr:wrX mo<4611686018427387904)
    (k:∀ bs' cs' w',DpO d (zXe mo so).1.1 bs'→SpO d t (zXe mo so).1.2 cs'→St w0 (bs'++(cs'++fr)) w'→R (zXe mo so).2 w'):C_r t w R:=by
 cases so with
 | none =>
  have e:zXe mo none=((mo,none),2):=by cases mo <;> rfl
  rw [e] at k
  obtain⟨rfl,rfl⟩:=o
  exact s_rb (k bs [] w od ⟨rfl,rfl⟩ st)
 | some s=>cases mo with
  | none=>exact absurd (hd rfl) (by simp)
  | some m=>exact s_Hc st od o hwr k
theorem s_md {t:OA} {so:Option SvrM} {cs:List zf} {R:Int→WP} (st:St w0 (bs++(cs++fr)) w) (od:RpO d mo bs) (o:SqO d t so cs) (hd:SvD mo so) (hwr:wrX mo<4611686018427387904)
    (k:∀ bs' cs' w',RpO d (zXe mo so).1.1 bs'→SqO d t (zXe mo so).1.2 cs'→St w0 (bs'++(cs'++fr)) w'→R (zXe mo so).2 w'):C_o t w R:=by
 cases so with
 | none =>
  have e:zXe mo none=((mo,none),2):=by cases mo <;> rfl
  rw [e] at k
  obtain⟨rfl,rfl⟩:=o
  exact s_6 (k bs [] w od ⟨rfl,rfl⟩ st)
 | some s=>cases mo with
  | none=>exact absurd (hd rfl) (by simp)
  | some m=>exact s_fc st od o hwr k
end
structure Item where
 l:Slc
 long:Slc
 n:Int
 cs:List zf
def zn (it:Item):List Value:=[Vs it.l,Vs it.long,Vi it.n]
def itsC (its:List Item):List zf:=its.flatMap Item.cs
theorem zcc (it:Item):(zn it).length=3:=rfl
/-- An item's own memory to the front. -/
theorem St.item {w0:Base} {w:World} {X d c r l:List zf}:St w0 (X++((d++(c++r))++l)) w↔St w0 (c++(X++((d++r)++l))) w:=by
 have p:(X++((d++(c++r))++l)).Perm (c++(X++((d++r)++l))):=by
  have h1:(d++(c++r))++l=d++(c++(r++l)):=by simp
  have h2:(d++r)++l=d++(r++l):=by simp
  rw [h1,h2]
  refine(List.Perm.append_left X (List.perm_append_comm_assoc d c (r++l))).trans ?_
  exact List.perm_append_comm_assoc X c (d++(r++l))
 exact⟨fun h=>h.perm p,fun h=>h.perm p.symm⟩
theorem zWd (d:List Item) (it:Item) (r:List Item):itsC (d++it::r)=itsC d++(it.cs++itsC r):=by unfold itsC; rw [List.flatMap_append,List.flatMap_cons]
/-- A cell of one's own slice of things of some cells is written. -/
theorem RowC.setN {sz:Nat} {s:Slc} {xs:List Value} {bs l:List zf} {w0:Base} {w:World} {i:Nat} {v:Value} (h:RowC sz s xs bs) (st:St w0 (bs++l) w) (hi:i<s.len*sz) :
    IsAt s.ptr∧zd w (pblk s.ptr) (poff s.ptr+i) 1∧∀ w',w'=World.puts (pblk s.ptr) (poff s.ptr+i) [v] w→∃ bs',RowC sz s (xs.set i v) bs'∧St w0 (bs'++l) w':=by
 rcases h with ⟨hp,hl,hcz,rfl,rfl⟩ | ⟨b,pre,rest,suf,hp,rfl,hx,hr,hle⟩
 ·rw [hl,Nat.zero_mul] at hi; omega
 ·rw [hp]
  refine⟨rfl,st.writable 0 rfl (by show pre.length+i+1≤_; simp; omega),fun w' hw=> ?_⟩
  have hn:=st.put0 hw
  refine⟨[(b,pre++(xs.set i v++(rest++suf)))],.inr ⟨b,pre,rest,suf,hp,rfl,by rw [List.length_set]; exact hx,by rw [List.length_set]; exact hr,hle⟩,?_⟩
  have e:putL (poff (some ⟨b,pre.length,none⟩:OA)+i) [v] (pre++(xs++(rest++suf)))=pre++(xs.set i v++(rest++suf)):=by
   rw [ztb]
   show(pre++(xs++(rest++suf))).set (pre.length+i) v=_
   rw [List.set_append_right _ _ O_,show pre.length+i - pre.length=i from by omega,List.set_append_left _ _ O_]
  rw [e] at hn
  exact hn
/-- Appending: the old row stays where it was, or is the beginning of the new one. -/
theorem RowC.appendK {by_ k:Nat} {e:TypeId} {sz:Nat} {s:Slc} {xs:List Value} {bs l:List zf} {w0:Base} {w:World} {zs src:List Value} {K:Slc→WP} (h:RowC sz s xs bs) (st:St w0 (bs++l) w)
    (hk:src.length=k*sz) (hk0:0<k) (h1:zQ src=true) (hz:zs.length=sz) (hcap:(s.len+k)*by_≤140737488355328)
    (hK:∀ s' bs' l' w',RowC sz s' (xs++src) bs'→St w0 (bs'++(l'++l)) w'→s'.len=s.len+k→((s'.ptr=s.ptr∧l'=[])∨l'=bs)→K s' w'):zj sz by_ e zs s src k w K:=by
 refine⟨fun hc=> ?_,fun hc=>⟨growslice_fits hc hcap,xs,h.src st,fun cap b w' hcl _ hb hw=> ?_⟩⟩
 ·rcases h with ⟨hp,hl,hcz,rfl,rfl⟩ | ⟨b,pre,rest,suf,hp,rfl,hx,hr,hle⟩
  ·omega
  ·have hroom:src.length≤rest.length:=by
     have:(s.len+k)*sz≤s.cap*sz:=Nat.mul_le_mul_right _ hc
     rw [Nat.add_mul] at this
     omega
   have hlen:poff s.ptr+s.len*sz=(pre++xs).length:=by rw [hp]; show pre.length+s.len*sz=_; simp; omega
   have hpb:pblk s.ptr=b:=by rw [hp]; rfl
   refine .inr ⟨by rw [hp]; rfl,?_,h1,fun w' hw=> ?_⟩
   ·rw [hlen,hpb]
    exact st.writable 0 rfl (by simp; omega)
   ·rw [hlen,hpb] at hw
    have hn:=st.put0 hw
    have e1:pre++(xs++(rest++suf))=(pre++xs)++rest.take src.length++(rest.drop src.length++suf):=by
     conv=>lhs; rw [←List.take_append_drop src.length rest]
     simp only [List.append_assoc]
    rw [e1,zhb _ _ _ _ (by simp; omega)] at hn
    refine hK _ [(b,pre++((xs++src)++(rest.drop src.length++suf)))] [] _ (.inr ⟨b,pre,rest.drop src.length,suf,hp,rfl,?_,?_,hc⟩) ?_ rfl (.inl ⟨rfl,rfl⟩)
    ·simp [hx,hk,Nat.add_mul]
    ·simp; omega
    ·have e2:pre++((xs++src)++(rest.drop src.length++suf))=(pre++xs)++src++(rest.drop src.length++suf):=by simp only [List.append_assoc]
     rw [e2]; exact hn
 ·have hE:Ext w w.drew:=Qt.ext ⟨1,rfl⟩
  have hbs:b=w.drew.heap.size:=hb
  have st':=(st.keep hE).alloc hbs hw
  refine hK _ [(b,xs++src++(zJ (cap - (s.len+k)) zs).toList)] bs _ (.inr ⟨b,[],(zJ (cap - (s.len+k)) zs).toList,[],rfl,by simp,?_,?_,hcl⟩) st' rfl (.inr rfl)
  ·simp only [List.length_append,hk,h.len,Nat.add_mul]
  ·simp only [List.length_append,hk,h.len,zJ]
   simp only [List.length_flatten,List.map_replicate,hz,List.sum_replicate_nat]
   rw [←Nat.add_mul,←Nat.add_mul]
   congr 1
   show s.len+k+(cap - (s.len+k))=cap
   omega
theorem zdh {d r:List Item} {it:Item} {i:Nat} {long:Slc} {cs:List zf} (hd:d.length=i) :
    ((d++it::r).flatMap zn).set (i*3+1) (Vs long)=(d++⟨it.l,long,it.n,cs⟩::r).flatMap zn:=by
 have hl:(d.flatMap zn).length=i*3:=by rw [zq zcc,hd]
 rw [List.flatMap_append,List.flatMap_cons,List.flatMap_append,List.flatMap_cons,List.set_append_right _ _ O_,hl,show i*3+1 - i*3=1 from by omega]
 rfl
theorem z5o {d r:List Item} {it:Item} {i:Nat} {w0:Base} {w:World} {t:Slc} {tb l:List zf} (ro:RowC 3 t ((d++it::r).flatMap zn) tb) (st:St w0 (tb++l) w) (hd:d.length=i) :
    IsAt t.ptr∧ze w (pblk t.ptr) (poff t.ptr+i*3) (zn it):=by
 have hl:=ro.len
 rw [zq zcc,List.length_append,List.length_cons] at hl
 obtain⟨a,x,hx,hc⟩:=zh.getN (ro.src st) zcc O_ (i:=(i:Int)) O_ O_
 rw [Int.toNat_natCast] at hx hc
 rw [←hd,List.getElem?_append_right (Nat.le_refl _),Nat.sub_self,List.getElem?_cons_zero] at hx
 cases hx
 exact⟨a,hc⟩
/-- Cells of one's own row are written. -/
theorem RowC.putN {sz:Nat} {s:Slc} {xs vs:List Value} {bs l:List zf} {w0:Base} {w:World} {i:Nat} (h:RowC sz s xs bs) (st:St w0 (bs++l) w) (hv:0<vs.length) (hi:i+vs.length≤s.len*sz) :
    IsAt s.ptr∧zd w (pblk s.ptr) (poff s.ptr+i) vs.length∧∀ w',w'=World.puts (pblk s.ptr) (poff s.ptr+i) vs w→∃ bs',RowC sz s (xs.take i++vs++xs.drop (i+vs.length)) bs'∧St w0 (bs'++l) w':=by
 rcases h with ⟨hp,hl,hcz,rfl,rfl⟩ | ⟨b,pre,rest,suf,hp,rfl,hx,hr,hle⟩
 ·rw [hl,Nat.zero_mul] at hi; omega
 ·rw [hp]
  refine⟨rfl,st.writable 0 rfl (by show pre.length+i+vs.length≤_; simp; omega),fun w' hw=> ?_⟩
  have hn:=st.put0 hw
  have e0:xs=xs.take i++((xs.drop i).take vs.length++xs.drop (i+vs.length)):=by
   conv=>lhs; rw [←List.take_append_drop i xs,←List.take_append_drop vs.length (xs.drop i),List.drop_drop]
  have e1:pre++(xs++(rest++suf))=(pre++xs.take i)++(xs.drop i).take vs.length++(xs.drop (i+vs.length)++(rest++suf)):=by
   conv=>lhs; rw [e0]
   simp only [List.append_assoc]
  have e2:poff (some ⟨b,pre.length,none⟩:OA)+i=(pre++xs.take i).length:=by
   show pre.length+i=_
   rw [List.length_append,List.length_take]; omega
  rw [e1,e2,zhb _ _ _ _ (by rw [List.length_take,List.length_drop]; omega)] at hn
  refine⟨[(b,pre++((xs.take i++vs++xs.drop (i+vs.length))++(rest++suf)))],.inr ⟨b,pre,rest,suf,hp,rfl,?_,?_,hle⟩,?_⟩
  ·simp only [List.length_append,List.length_take,List.length_drop]; omega
  ·simp only [List.length_append,List.length_take,List.length_drop]; omega
  ·have e3:pre++((xs.take i++vs++xs.drop (i+vs.length))++(rest++suf))=(pre++xs.take i)++vs++(xs.drop (i+vs.length)++(rest++suf)):=by simp only [List.append_assoc]
   rw [e3]; exact hn
theorem RowC.trimB {sz:Nat} {s:Slc} {ps ds:List Value} {bs:List zf} (h:RowC sz s (ps++ds) bs) (hp:ps.length=s.len*sz):RowC sz s ps bs:=by
 have hl:=h.len
 rw [List.length_append] at hl
 have:ds=[]:=List.eq_nil_of_length_eq_zero O_
 rw [this,List.append_nil] at h
 exact h
theorem zfd {α:Type} {f:α→List Value} {sz:Nat} (hf:∀ x,(f x).length=sz) (k:Nat) (x:α):((List.replicate k x).flatMap f).length=k*sz:=by rw [zq hf,List.length_replicate]
theorem rep_succ {α:Type} {f:α→List Value} (k:Nat) (x:α):(List.replicate k x).flatMap f++f x=(List.replicate (k+1) x).flatMap f:=by rw [List.replicate_succ',List.flatMap_append,List.flatMap_cons,List.flatMap_nil,List.append_nil]
theorem zie {α:Type} {f:α→List Value} {sz p k:Nat} {x:α} {s t:Slc} {w:World} (hf:∀ x,(f x).length=sz) (h:zh w s sz ((List.replicate p x).flatMap f)) (hp:s.ptr=t.ptr) (hk:t.len=k) (hkp:k≤p) (hl:s.len=p):zh w t sz ((List.replicate k x).flatMap f):=by
 obtain⟨_,hs2⟩:=h.pre (k:=k) O_
 have e:((List.replicate p x).flatMap f).take (k*sz)=(List.replicate k x).flatMap f:=by
  rw [show p=k+(p - k) from by omega,←List.replicate_append_replicate,List.flatMap_append,List.take_left' (zfd hf k x)]
 rw [e] at hs2
 refine⟨by rw [zfd hf,hk],?_⟩
 rcases hs2 with h0 | h0
 ·exact .inl h0
 ·refine .inr ?_
  have h0':IsAt s.ptr∧ze w (pblk s.ptr) (poff s.ptr) ((List.replicate k x).flatMap f):=h0
  rw [hp] at h0'; exact h0'
/-- A kind's lists: its table, and each list in the state Ph. -/
def zbb (t:Slc) (its:List Item) (Ph:Item→Prop) (cs:List zf):Prop:=∃ tb,RowC 3 t (its.flatMap zn) tb∧cs=tb++itsC its∧∀ it∈its,Ph it
/-- The state of a walk over the lists: those ahead of place i are done. -/
def zBb (t:Slc) (m i:Nat) (Ph Ph':Item→Prop) (cs:List zf):Prop :=
 ∃ d r tb,d.length=i∧d.length+r.length=m∧RowC 3 t ((d++r).flatMap zn) tb∧cs=tb++itsC (d++r)∧(∀ it∈d,Ph' it)∧∀ it∈r,Ph it
section
variable {w0:Base} {w:World} {l cs:List zf} {C:List Value} {b:Nat} {t:Slc} {its:List Item} {Ph Ph':Item→Prop}
theorem kind_new:zbb ⟨none,0,0⟩ [] Ph []:=⟨[],RowC.nil,rfl,fun it h=>(by cases h)⟩
theorem zBb.start (o:zbb t its Ph cs):zBb t its.length 0 Ph Ph' cs:=by
 obtain⟨tb,ro,rfl,h⟩:=o
 exact⟨[],its,tb,rfl,by simp,ro,rfl,fun it hit=>(by cases hit),h⟩
theorem zBb.done {m:Nat} (o:zBb t m m Ph Ph' cs):∃ its,its.length=m∧zbb t its Ph' cs:=by
 obtain⟨d,r,tb,h1,h2,ro,rfl,h3,h4⟩:=o
 have:r=[]:=List.eq_nil_of_length_eq_zero O_
 subst this
 rw [List.append_nil] at *
 exact⟨d,h1,tb,ro,rfl,h3⟩
theorem zBb.len {m i:Nat} (o:zBb t m i Ph Ph' cs):t.len=m:=by
 obtain⟨d,r,tb,_,h,ro,_,_⟩:=o
 have:=ro.len
 rw [zq zcc,List.length_append] at this
 omega
theorem zbb.len (o:zbb t its Ph cs):t.len=its.length:=(zBb.start (Ph':=Ph) o).len
/-- The list at place i: its row in the table, and the memory apart. -/
theorem zBb.at_ {m i:Nat} (o:zBb t m i Ph Ph' cs) (st:St w0 ((b,C)::(cs++l)) w) (hi:i<m):∃ d it r tb,d.length=i∧d.length+(r.length+1)=m∧RowC 3 t ((d++it::r).flatMap zn) tb∧(∀ x∈d,Ph' x)∧Ph it∧(∀ x∈r,Ph x) ∧
    IsAt t.ptr∧ze w (pblk t.ptr) (poff t.ptr+i*3) (zn it)∧St w0 (it.cs++(((b,C)::tb)++((itsC d++itsC r)++l))) w:=by
 obtain⟨d,r,tb,h1,h2,ro,rfl,h3,h4⟩:=o
 cases r with
 | nil=>simp at h2; omega
 | cons it r =>
  rw [List.length_cons] at h2
  have st:St w0 (((b,C)::tb)++((itsC d++(it.cs++itsC r))++l)) w:=by rw [zWd] at st; simpa using st
  have stt:St w0 (tb++((b,C)::((itsC d++(it.cs++itsC r))++l))) w:=St.mid st
  obtain⟨a,c⟩:=z5o ro stt h1
  exact⟨d,it,r,tb,h1,h2,ro,h3,h4 it (List.mem_cons_self ..),fun x hx=>h4 x (List.mem_cons_of_mem _ hx),a,c,St.item.1 st⟩
/-- .. and put together again, the list done. -/
theorem zBb.next {m i:Nat} {d r:List Item} {it:Item} {tb:List zf} (h1:d.length=i) (h2:d.length+(r.length+1)=m) (ro:RowC 3 t ((d++it::r).flatMap zn) tb) (h3:∀ x∈d,Ph' x) (h:Ph' it) (h4:∀ x∈r,Ph x)
    (st:St w0 (it.cs++(((b,C)::tb)++((itsC d++itsC r)++l))) w):∃ cs,zBb t m (i+1) Ph Ph' cs∧St w0 ((b,C)::(cs++l)) w:=by
 have e:(d++[it])++r=d++it::r:=by simp
 refine⟨_,⟨d++[it],r,tb,by simp [h1],by simp; omega,by rw [e]; exact ro,rfl,fun x hx=> ?_,h4⟩,?_⟩
 ·rcases List.mem_append.1 hx with hx | hx
  ·exact h3 x hx
  ·rw [List.mem_singleton] at hx; rw [hx]; exact h
 ·rw [e,zWd]
  have:=St.item.2 st
  simpa using this
end
open Go Go.Shelf
theorem zvk (a:ByteArray):(a==a)=true:=by
 cases a
 rename_i x
 show(x==x)=true
 simp
def OkN (n:Int):Prop:=0≤n∧n≤9000000000
def Tab (w:World):Prop:=Lib.TabIs Tryz.prog w "internal/strconv.uint64pow10" .u64 Lib.pow10Tab
theorem Tab.ext {w w':World} (h:Tab w) (e:Ext w w'):Tab w':=by
 unfold Tab Lib.TabIs World.var? at *
 cases hg:Tryz.prog.globalNamed "internal/strconv.uint64pow10" with
 | none=>rw [hg] at h; cases h
 | some g =>
  rw [hg] at h
  simp only [Option.bind_some] at h ⊢
  have hlt:g<w.heap.size:=by
   rcases Nat.lt_or_ge g w.heap.size with h1 | h1
   ·exact h1
   ·rw [Array.getElem?_eq_none h1] at h; cases h
  rw [e.block g hlt]; exact h
theorem zeh {W:World} {n1 n2:String} {d1 d2:DataW Unit} {rest:List (String×DataW Unit)} {g:Nat} {t e:TypeId} {n:Nat}
    (hg:Tryz.prog.globalNamed "internal/strconv.uint64pow10"=some g) (hty:(Tryz.prog.globals[g]?).map (·.type)=some t) (ht:Tryz.prog.underlying t=some (.array n e)) (he:Tryz.prog.underlying e=some (.int .u64)) (hce:Tryz.prog.cellsOf e=1) (hct:Tryz.prog.cellsOf t=n)
    (h:laidMet Tryz.prog ((n1,d1)::(n2,d2)::("internal/strconv.uint64pow10",Lib.tabData .u64 Lib.pow10Tab)::rest) W):Tab W:=by
 obtain⟨ps,⟨_,_,_,_,_,_,_,_,_,_,⟨_,_,_,_,_,_,_,_,_,_,⟨g',t',cs,fuel,p,q,hg',ht',hvar,hd,_,_⟩,_⟩,_⟩,_⟩:=h
 obtain rfl:=Option.some.inj (hg.symm.trans hg')
 obtain rfl:=Option.some.inj (hty.symm.trans ht')
 unfold Tab Lib.TabIs
 rw [hvar,←Lib.cells_of_tab ht he hce hct hd]
def Tryz.laysItoa_ren : Go.Shelf.Ren := ⟨fun | 171 => 171 | 243 => 188 | 246 => 191 | 283 => 192 | 284 => 193 | 285 => 194 | 286 => 195 | 129 => 197 | 317 => 196 | 318 => 198 | 319 => 199 | 320 => 200 | 337 => 201 | 338 => 202 | n => n, fun | 3 => 3 | 9 => 9 | 2 => 2 | 4 => 4 | 171 => 242 | 0 => 0 | 53 => 93 | 37 => 38 | 5 => 5 | 173 => 244 | 212 => 247 | 51 => 181 | 20 => 20 | 213 => 248 | 46 => 189 | 232 => 251 | 233 => 252 | n => n, fun | 17 => 0 | 18 => 1 | 19 => 2 | n => n⟩
theorem Tryz.laysItoa : Go.Proofs.LaysM.n171 Tryz.prog Tryz.laysItoa_ren := {
  mixed := by kernel_rfl
  f129 := Tryz.func197.trans (congrArg some (by kernel_rfl))
  f171 := Tryz.func171.trans (congrArg some (by kernel_rfl))
  f243 := Tryz.func188.trans (congrArg some (by kernel_rfl))
  f246 := Tryz.func191.trans (congrArg some (by kernel_rfl))
  f283 := Tryz.func192.trans (congrArg some (by kernel_rfl))
  f284 := Tryz.func193.trans (congrArg some (by kernel_rfl))
  f285 := Tryz.func194.trans (congrArg some (by kernel_rfl))
  f286 := Tryz.func195.trans (congrArg some (by kernel_rfl))
  f317 := Tryz.func196.trans (congrArg some (by kernel_rfl))
  f318 := Tryz.func198.trans (congrArg some (by kernel_rfl))
  f319 := Tryz.func199.trans (congrArg some (by kernel_rfl))
  f320 := Tryz.func200.trans (congrArg some (by kernel_rfl))
  f337 := Tryz.func201.trans (congrArg some (by kernel_rfl))
  f338 := Tryz.func202.trans (congrArg some (by kernel_rfl))
  t0 := Tryz.underlying0
  a0 := Tryz.isAgg0
  z0 := Tryz.sizeOf0
  v0 := Tryz.zeroValue0
  t2 := Tryz.underlying2
  a2 := Tryz.isAgg2
  z2 := Tryz.sizeOf2
  v2 := Tryz.zeroValue2
  t3 := Tryz.underlying3
  a3 := Tryz.isAgg3
  z3 := Tryz.sizeOf3
  v3 := Tryz.zeroValue3
  t4 := Tryz.underlying4
  a4 := Tryz.isAgg4
  z4 := Tryz.sizeOf4
  v4 := Tryz.zeroValue4
  t5 := Tryz.underlying5
  a5 := Tryz.isAgg5
  z5 := Tryz.sizeOf5
  v5 := Tryz.zeroValue5
  t9 := Tryz.underlying9
  a9 := Tryz.isAgg9
  z9 := Tryz.sizeOf9
  v9 := Tryz.zeroValue9
  t20 := Tryz.underlying20
  a20 := Tryz.isAgg20
  z20 := Tryz.sizeOf20
  v20 := Tryz.zeroValue20
  t37 := Tryz.underlying38
  a37 := Tryz.isAgg38
  z37 := Tryz.sizeOf38
  v37 := Tryz.zeroValue38
  t46 := Tryz.underlying189
  a46 := Tryz.isAgg189
  z46 := Tryz.sizeOf189
  v46 := Tryz.zeroValue189
  t51 := Tryz.underlying181
  a51 := Tryz.isAgg181
  z51 := Tryz.sizeOf181
  v51 := Tryz.zeroValue181
  t53 := Tryz.underlying93
  a53 := Tryz.isAgg93
  z53 := Tryz.sizeOf93
  v53 := Tryz.zeroValue93
  t171 := Tryz.underlying242
  a171 := Tryz.isAgg242
  z171 := Tryz.sizeOf242
  v171 := Tryz.zeroValue242
  t173 := Tryz.underlying244
  a173 := Tryz.isAgg244
  z173 := Tryz.sizeOf244
  v173 := Tryz.zeroValue244
  t212 := Tryz.underlying247
  a212 := Tryz.isAgg247
  z212 := Tryz.sizeOf247
  v212 := Tryz.zeroValue247
  t213 := Tryz.underlying248
  a213 := Tryz.isAgg248
  z213 := Tryz.sizeOf248
  t232 := Tryz.underlying251
  a232 := Tryz.isAgg251
  z232 := Tryz.sizeOf251
  v232 := Tryz.zeroValue251
  t233 := Tryz.underlying252
  a233 := Tryz.isAgg252
  z233 := Tryz.sizeOf252
  v233 := Tryz.zeroValue252
  g17 := by kernel_rfl
  g18 := by kernel_rfl
  g19 := by kernel_rfl
  i0 := by kernel_rfl
  i2 := by kernel_rfl
  i3 := by kernel_rfl
  i4 := by kernel_rfl
  i5 := by kernel_rfl
  i9 := by kernel_rfl
  i20 := by kernel_rfl
  i37 := by kernel_rfl
  i46 := by kernel_rfl
  i51 := by kernel_rfl
  i53 := by kernel_rfl
  i171 := by kernel_rfl
  i173 := by kernel_rfl
  i212 := by kernel_rfl
  i232 := by kernel_rfl
  i233 := by kernel_rfl
  m17 := by kernel_rfl
  m18 := by kernel_rfl
  m19 := by kernel_rfl }
def zUl (n:Int):ByteArray:=(ByteArray.mk #[35])++⟨(Lib.itoa n).toArray⟩
theorem s_Ld {n:Int} {w:World} {R:ByteArray→WP} (hn:OkN n) (ht:Tab w) (k:∀ w',Ext w w'→R ⟨(Lib.itoa n).toArray⟩ w'):C_Oc n w R:=by
 refine Calls.mono (Any.strconv_Itoa Tryz.laysItoa n (by have:=hn.1; omega) (by have:=hn.2; omega) w ht) ?_
 rintro e w' ⟨rfl,q,os,rfl⟩
 refine⟨_,rfl,k _ ⟨rfl,rfl,rfl,?_,fun j hj=> ?_⟩⟩
 ·show w.heap.size≤(w.heap++os).size
  rw [Array.size_append]; omega
 ·show(w.heap++os)[j]? =w.heap[j]?
  exact Array.getElem?_append_left hj
theorem s_Fc {n:Int} {w:World} {R:ByteArray→WP} (hn:OkN n) (ht:Tab w) (k:∀ w',Ext w w'→R (zUl n) w'):C_Yb n w R:=by
 apply S_ac
 unfold F_je
 refine s_Ld hn ht fun w' e=>⟨?_,k w' e⟩
 have h1:(⟨(Lib.itoa n).toArray⟩:ByteArray).size=(Lib.itoa n).length:=by show(Lib.itoa n).toArray.size=_; simp
 have h2:=Lib.itoa_length_le n (by have:=hn.1; omega) (by have:=hn.2; omega)
 have h3:(ByteArray.mk #[35]).size=1:=rfl
 rw [h1,h3]
 omega
abbrev zOb (x:Int):List Value:=[Vi x]
abbrev z6 (n:Int):Int:=IntKind.i64.wrap ((-1000) - n)
theorem zvb (x:Int):(zOb x).length=1:=rfl
/-! ### Int -/
def zPb (it:Item):Prop:=OkN it.n∧it.l.len≤1099511627776∧∃ xs,RowC 1 it.l xs it.cs
def zic (it:Item):Prop:=OkN it.n∧it.l.len≤1099511627776∧RowC 1 it.l ((List.replicate it.l.len (z6 it.n)).flatMap zOb) it.cs
def zIg (k:Nat) (it:Item) (long:Slc):Prop :=
 OkN it.n∧it.l.len≤1099511627776∧long.len=it.l.len+k∧∃ c1 c2,it.cs=c1++c2∧RowC 1 long ((List.replicate (it.l.len+k) (z6 it.n)).flatMap zOb) c1 ∧
  (long.ptr=it.l.ptr∨∀ w0 l w,St w0 (c2++l) w→zh w it.l 1 ((List.replicate it.l.len (z6 it.n)).flatMap zOb))
def zsd (it:Item):Prop:=zIg 70 it it.long
section
variable {w0:Base} {w:World} {l cs:List zf} {C:List Value} {b:Nat} {n:Int} {t:Slc} {its:List Item}
theorem s_I {R:Int→WP} (hn:OkN n) (ht:Tab w) (k:∀ w',Ext w w'→R (z6 n) w'):C_nb n w R:=by
 apply S_Qb
 unfold F_Pd
 exact k w (Ext.refl _)
theorem s_ib (hn:OkN n) (ht:Tab w):C_Eb (z6 n) n w (fun(v44':Bool) w''=>v44'=true∧Ext w w''):=by
 apply S_Yb
 unfold F_5d
 exact⟨beq_self_eq_true _,Ext.refl _⟩
theorem s_kc {s:Slc} {xs:List Value} {sc:List zf} {R:WP} (o:zbb t its zPb cs) (r:RowC 1 s xs sc) (st:St w0 ((b,C)::(cs++(sc++l))) w) (hC0:C[0]? =some (Vi n)) (hCt:C[2]? =some (Vs t))
    (hn:0≤n∧n≤2000000000) (hl:its.length≤2000000000) (hs:s.len≤1099511627776) (k:∀ t' its' cs' w',zbb t' its' zPb cs'→its'.length=its.length+1→St w0 ((b,(C.set 0 (Vi (n+1))).set 2 (Vs t'))::(cs'++l)) w'→R w'):C_xb (some ⟨b,0,none⟩) s w R:=by
 apply S_2
 unfold F_Zc
 have htl:=o.len
 obtain⟨tb,ro,rfl,hph⟩:=o
 have wn:IntKind.i64.wrap (n+1)=n+1:=i64_in _ O_ O_
 have hCl:2<C.length:=(List.getElem?_eq_some_iff.1 hCt).1
 refine⟨rfl,n,st.cell 0 rfl hC0,st.writable 0 rfl (by show 0+1≤_; omega),fun w1 hw1 w2 e2=> ?_⟩
 rw [wn] at hw1
 have st:=(st.put0 hw1).drew e2
 have e0:putL (poff (some ⟨b,0,none⟩:OA)) [Vi (n+1)] C=C.set 0 (Vi (n+1)):=ztb ..
 rw [e0] at st
 have hCt':(C.set 0 (Vi (n+1)))[2]? =some (Vs t):=by rw [List.getElem?_set_ne D_]; exact hCt
 have hC0':(C.set 0 (Vi (n+1)))[0]? =some (Vi (n+1)):=List.getElem?_set_self O_
 have hCt'':(C.set 0 (Vi (n+1)))[0+2]? =some (Vs t):=by rw [Nat.zero_add]; exact hCt'
 refine⟨rfl,t,st.cell 0 rfl hCt'',rfl,n+1,st.cell 0 rfl hC0',fun b1 w3 hb1 hw3=> ?_⟩
 have st:=st.alloc hb1 hw3
 refine⟨st.cell 1 rfl hCt'',_,zY hb1 hw3 rfl,?_⟩
 have st:St w0 (tb++((b,C.set 0 (Vi (n+1)))::(itsC its++(sc++l)))) w3:=by
  have h:St w0 ((b,C.set 0 (Vi (n+1)))::(tb++(itsC its++(sc++l)))) w3:=by have:=st.drop1; simpa using this
  exact h.mid
 refine ro.append st rfl rfl rfl (by rw [htl]; omega) fun t' tb' w4 ro' st hlen=> ?_
 have st:=st.unmid
 refine⟨rfl,st.writable 0 rfl (by rw [List.length_set]; show 0+2+1≤_; omega),fun w5 hw5=> ?_⟩
 have st:=st.put0 hw5
 have e1:putL (poff (some ⟨b,0,none⟩:OA)+2) [Vs t'] (C.set 0 (Vi (n+1)))=(C.set 0 (Vi (n+1))).set 2 (Vs t'):=by rw [ztb]; rw [show poff (some ⟨b,0,none⟩:OA)+2=2 from Nat.zero_add _]
 rw [e1] at st
 refine k t' (its++[⟨s,⟨none,0,0⟩,n+1,sc⟩]) (tb'++itsC (its++[⟨s,⟨none,0,0⟩,n+1,sc⟩])) w5 ⟨tb',?_,rfl,fun it hit=> ?_⟩ (by simp) ?_
 ·rw [List.flatMap_append]; exact ro'
 ·rcases List.mem_append.1 hit with hit | hit
  ·exact hph it hit
  ·rw [List.mem_singleton] at hit
   rw [hit]
   exact⟨⟨by show 0≤n+1; omega,by show n+1≤9000000000; omega⟩,hs,xs,r⟩
 ·rw [zWd its _ []]
  unfold itsC at st ⊢
  simpa using st
theorem s_lc {R:WP} (ht:Tab w0.w) (o:zbb t its zPb cs) (st:St w0 ((b,C)::(cs++l)) w) (hCt:C[0+2]? =some (Vs t)) (hm:its.length≤2000000000)
    (k:∀ its' cs' w',zbb t its' zic cs'→its'.length=its.length→St w0 ((b,C)::(cs'++l)) w'→R w'):C_qb (some ⟨b,0,none⟩) w R:=by
 apply S_V
 unfold F_Tc
 generalize hml:its.length=m at *
 refine⟨fun i w'=>∃(j:Nat) (cs:List zf),i=(j:Int)∧j≤m∧zBb t m j zPb zic cs∧St w0 ((b,C)::(cs++l)) w',fun i _=>m - i.toNat,⟨0,cs,rfl,O_,by rw [←hml]; exact zBb.start o,st⟩,?_⟩
 clear o st
 rintro i w1 ⟨j,cs,rfl,hj,o,st⟩
 unfold F_mb
 have htl:=o.len
 refine⟨rfl,t,st.cell 0 rfl hCt,fun h=> ?_,fun h=> ?_⟩
 ·have h:=of_decide_eq_true h
  obtain⟨d,it,r,tb,h1,h2,ro,h3,⟨hN,hlen,xs,hx⟩,h4,ha,hc,sti⟩:=o.at_ st O_
  refine⟨rfl,t,st.cell 0 rfl hCt,ha,O_,h,⟨it.l,it.long,it.n⟩,?_,fun b1 w2 hb1 hw2=> ?_⟩
  ·rw [Int.toNat_natCast]; exact hc
  have st:=sti.alloc hb1 hw2
  clear sti
  refine⟨st.writable 0 rfl (by simp),fun w3 hw3=> ?_⟩
  have st:=st.put0 hw3
  have st:St w0 ((b1,zn it)::(it.cs++(((b,C)::tb)++((itsC d++itsC r)++l)))) w3:=st
  refine⟨fun k w'=>∃(q:Nat) (ys:List Value) (cs:List zf),k=(q:Int)∧q≤it.l.len∧RowC 1 it.l ((List.replicate q (z6 it.n)).flatMap zOb++ys) cs∧St w0 ((b1,zn it)::(cs++(((b,C)::tb)++((itsC d++itsC r)++l)))) w',fun k _=>it.l.len - k.toNat,⟨0,xs,it.cs,rfl,O_,by simpa using hx,st⟩,?_⟩
  clear st
  rintro k4 w4 ⟨q,ys,cs,rfl,hq,hr,st⟩
  unfold F_lb
  refine⟨it.l,st.cell 0 rfl rfl,fun hk=> ?_,fun hk=> ?_⟩
  ·have hk:=of_decide_eq_true hk
   intro w5 e5
   have st:=st.drew e5
   refine⟨it.l,st.cell 0 rfl rfl,it.n,st.cell 0 rfl rfl,s_I hN (ht.ext st.ext) fun w6 e6=> ?_⟩
   have st:=st.keep e6
   refine⟨st.cell 0 rfl rfl,?_⟩
   have hqs:(q+1)*1≤it.l.len*1:=Nat.mul_le_mul_right _ O_
   obtain⟨a,wr,hset⟩:=hr.putN (l:=(b1,zn it)::(((b,C)::tb)++((itsC d++itsC r)++l))) (vs:=zOb (z6 it.n)) (i:=q*1) st.mid (by rw [zvb]; decide) (by rw [zvb]; omega)
   rw [zvb] at wr hset
   simp only [Nat.mul_one] at wr hset
   refine⟨a,O_,hk,?_,fun w7 hw7=> ?_⟩
   ·rw [Int.toNat_natCast]; exact wr
   rw [Int.toNat_natCast] at hw7
   obtain⟨cs',hr',st⟩:=hset w7 hw7
   have wq:IntKind.i64.wrap ((q:Int)+1)=((q+1:Nat):Int):=by rw [i64_in _ O_ O_]; omega
   rw [wq]
   have hrl:((List.replicate q (z6 it.n)).flatMap zOb).length=q*1:=zfd zvb q _
   refine⟨⟨q+1,ys.drop 1,cs',rfl,O_,?_,st.unmid⟩,by show _ - _<_ - _; omega⟩
   have hrl1:((List.replicate q (z6 it.n)).flatMap zOb).length=q:=by rw [hrl,Nat.mul_one]
   rw [List.take_left' hrl1,rep_succ,List.drop_append,hrl1,List.drop_eq_nil_of_le O_,List.nil_append,show q+1 - q=1 from by omega] at hr'
   exact hr'
  ·have hk:=of_decide_eq_false hk
   have hqe:q=it.l.len:=O_
   subst hqe
   have hr:=hr.trimB (zfd zvb _ _)
   have wj:IntKind.i64.wrap ((j:Int)+1)=((j+1:Nat):Int):=by rw [i64_in _ O_ O_]; omega
   rw [wj]
   obtain⟨cs',o',st'⟩:=zBb.next (it:=⟨it.l,it.long,it.n,cs⟩) (Ph:=zPb) (Ph':=zic) h1 h2 (by simpa [zn] using ro) h3 ⟨hN,hlen,hr⟩ h4 st.drop1
   exact⟨⟨j+1,cs',rfl,O_,o',st'⟩,by show _ - _<_ - _; omega⟩
 ·have h:=of_decide_eq_false h
  have:j=m:=O_
  subst this
  obtain⟨its',hl',o'⟩:=o.done
  exact k its' cs _ o' hl' st
theorem s_mc {R:WP} (ht:Tab w0.w) (o:zbb t its zic cs) (st:St w0 ((b,C)::(cs++l)) w) (hCt:C[0+2]? =some (Vs t)) (hm:its.length≤2000000000)
    (k:∀ its' cs' w',zbb t its' zsd cs'→its'.length=its.length→St w0 ((b,C)::(cs'++l)) w'→R w'):C_sb (some ⟨b,0,none⟩) w R:=by
 apply S_X
 unfold F_Vc
 generalize hml:its.length=m at *
 refine⟨fun i w'=>∃(j:Nat) (cs:List zf),i=(j:Int)∧j≤m∧zBb t m j zic zsd cs∧St w0 ((b,C)::(cs++l)) w',fun i _=>m - i.toNat,⟨0,cs,rfl,O_,by rw [←hml]; exact zBb.start o,st⟩,?_⟩
 clear o st
 rintro i w1 ⟨j,cs,rfl,hj,o,st⟩
 unfold F_pb
 have htl:=o.len
 refine⟨rfl,t,st.cell 0 rfl hCt,fun h=> ?_,fun h=> ?_⟩
 ·have h:=of_decide_eq_true h
  obtain⟨d,it,r,tb,h1,h2,ro,h3,⟨hN,hlen,hx⟩,h4,ha,hc,sti⟩:=o.at_ st O_
  refine⟨rfl,t,st.cell 0 rfl hCt,ha,O_,h,⟨it.l,it.long,it.n⟩,?_,fun b1 w2 hb1 hw2=> ?_⟩
  ·rw [Int.toNat_natCast]; exact hc
  have st:=sti.alloc hb1 hw2
  clear sti
  refine⟨st.writable 0 rfl (by simp),fun w3 hw3=> ?_⟩
  have st:=st.put0 hw3
  have st:St w0 ((b1,zn it)::(it.cs++(((b,C)::tb)++((itsC d++itsC r)++l)))) w3:=st
  refine⟨it.l,st.cell 0 rfl rfl,fun long k w'=>∃(q:Nat) (cs:List zf),k=(q:Int)∧q≤70∧zIg q ⟨it.l,long,it.n,cs⟩ long∧St w0 ((b1,zn it)::(cs++(((b,C)::tb)++((itsC d++itsC r)++l)))) w',fun _ k _=>70 - k.toNat,⟨0,it.cs,rfl,O_,⟨hN,hlen,rfl,it.cs,[],by simp,hx,.inl rfl⟩,st⟩,?_⟩
  clear st
  rintro long k4 w4 ⟨q,cs,rfl,hq,hg,st⟩
  unfold F_ob
  refine⟨fun hk=> ?_,fun hk=> ?_⟩
  ·have hk:=of_decide_eq_true hk
   refine⟨it.n,st.cell 0 rfl rfl,s_I hN (ht.ext st.ext) fun w5 e5 b2 w6 hb2 hw6=> ?_⟩
   have st:=((st.keep e5).alloc hb2 hw6).drop1
   refine⟨_,zY hb2 hw6 rfl,?_⟩
   have wq:IntKind.i64.wrap ((q:Int)+1)=((q+1:Nat):Int):=by rw [i64_in _ O_ O_]; omega
   rw [wq]
   obtain⟨_,_,hll,c1,c2,hcs,hg,hor⟩:=hg
   have hll:long.len=it.l.len+q:=hll
   have hcs:cs=c1++c2:=hcs
   subst hcs
   have st:St w0 (c1++(c2++((b1,zn it)::(((b,C)::tb)++((itsC d++itsC r)++l))))) w6:=by have:=st.mid; rwa [List.append_assoc] at this
   refine hg.appendK (by_:=8) st rfl O_ rfl rfl (by rw [hll]; omega) fun s' bs' l' w7 hr7 st hl7 hcase=> ?_
   have hr7:RowC 1 s' ((List.replicate (it.l.len+q) (z6 it.n)).flatMap zOb++zOb (z6 it.n)) bs':=hr7
   rw [rep_succ] at hr7
   have st:St w0 ((b1,zn it)::((bs'++(l'++c2))++(((b,C)::tb)++((itsC d++itsC r)++l)))) w7:=by
    refine St.unmid ?_
    simpa only [List.append_assoc] using st
   refine⟨⟨q+1,bs'++(l'++c2),rfl,O_,⟨hN,hlen,by show s'.len=it.l.len+(q+1); omega,bs',l'++c2,rfl,hr7,?_⟩,st⟩,by show _ - _<_ - _; omega⟩
   rcases hcase with ⟨hp7,rfl⟩ | hb7
   ·rcases hor with hp | hsrc
    ·exact .inl (hp7.trans hp)
    ·exact .inr hsrc
   ·have hb7':l'=c1:=hb7
    subst hb7'
    refine .inr fun w0 l w st=> ?_
    rw [List.append_assoc] at st
    rcases hor with hp | hsrc
    ·exact zie zvb (hg.src st) hp rfl (by show it.l.len≤it.l.len+q; omega) hll
    ·exact hsrc w0 l w st.drop
  ·have hk:=of_decide_eq_false hk
   obtain rfl:q=70:=O_
   have hcell:w4.cell? ⟨b,0+2,none⟩=some (Vs t):=st.drop1.drop.cell 0 rfl hCt
   have st:St w0 (tb++((b,C)::(cs++((itsC d++itsC r)++l)))) w4:=by
    have h:=st.drop1.swap
    exact St.mid h
   have hlt:j*3+1<t.len*3:=O_
   obtain⟨a,wr,hset⟩:=ro.setN (v:=Vs long) (i:=j*3+1) st hlt
   refine⟨rfl,t,hcell,a,O_,h,?_,fun w8 hw8=> ?_⟩
   ·rw [Int.toNat_natCast,Nat.add_assoc]; exact wr
   rw [Int.toNat_natCast,Nat.add_assoc] at hw8
   obtain⟨tb',ro',st⟩:=hset w8 hw8
   rw [zdh (cs:=cs) h1] at ro'
   have wj:IntKind.i64.wrap ((j:Int)+1)=((j+1:Nat):Int):=by rw [i64_in _ O_ O_]; omega
   rw [wj]
   have st:St w0 (cs++(((b,C)::tb')++((itsC d++itsC r)++l))) w8:=by
    have h:St w0 (((b,C)::tb')++(cs++((itsC d++itsC r)++l))) w8:=St.unmid st
    exact h.swap
   obtain⟨cs',o',st'⟩:=zBb.next (it:=⟨it.l,long,it.n,cs⟩) (Ph:=zic) (Ph':=zsd) h1 h2 ro' h3 hg h4 st
   exact⟨⟨j+1,cs',rfl,O_,o',st'⟩,by show _ - _<_ - _; omega⟩
 ·have h:=of_decide_eq_false h
  have:j=m:=O_
  subst this
  obtain⟨its',hl',o'⟩:=o.done
  exact k its' cs _ o' hl' st
theorem s_nc {R:Bool→WP} (ht:Tab w0.w) (o:zbb t its zsd cs) (st:St w0 ((b,C)::(cs++l)) w) (hCt:C[0+2]? =some (Vs t)) (hm:its.length≤2000000000)
    (k:∀ w',St w0 ((b,C)::(cs++l)) w'→R true w'):C_ub (some ⟨b,0,none⟩) w R:=by
 apply S_Z
 unfold F_Xc
 generalize hml:its.length=m at *
 have hI:∀ j,j≤m→zBb t m j zsd zsd cs:=fun j hj=>by
  obtain⟨tb,ro,rfl,hph⟩:=o
  refine⟨its.take j,its.drop j,tb,by rw [List.length_take]; omega,by rw [List.length_take,List.length_drop]; omega,by rw [List.take_append_drop]; exact ro,by rw [List.take_append_drop],fun it hit=>hph it (List.mem_of_mem_take hit),fun it hit=>hph it (List.mem_of_mem_drop hit)⟩
 refine⟨fun i w'=>∃(j:Nat),i=(j:Int)∧j≤m∧St w0 ((b,C)::(cs++l)) w',fun i _=>m - i.toNat,⟨0,rfl,O_,st⟩,?_⟩
 clear st
 rintro i w1 ⟨j,rfl,hj,st⟩
 unfold F_sb
 have o:=hI j hj
 have htl:=o.len
 refine⟨rfl,t,st.cell 0 rfl hCt,fun h=> ?_,fun h=> ?_⟩
 ·have h:=of_decide_eq_true h
  obtain⟨d,it,r,tb,h1,h2,ro,h3,⟨hN,hlen,hll,c1,c2,hcs,hg,hor⟩,h4,ha,hc,sti⟩:=o.at_ st O_
  refine⟨rfl,t,st.cell 0 rfl hCt,ha,O_,h,⟨it.l,it.long,it.n⟩,?_,fun b1 w2 hb1 hw2=> ?_⟩
  ·rw [Int.toNat_natCast]; exact hc
  have sto:=st.alloc hb1 hw2
  have st:=sti.alloc hb1 hw2
  clear sti
  refine⟨st.writable 0 rfl (by simp),fun w3 hw3=> ?_⟩
  have sto:St w0 ((b1,zn it)::((b,C)::(cs++l))) w3:=sto.put0 hw3
  have st:St w0 ((b1,zn it)::(it.cs++(((b,C)::tb)++((itsC d++itsC r)++l)))) w3:=st.put0 hw3
  refine⟨it.long,st.cell 0 rfl rfl,it.l,st.cell 0 rfl rfl,fun hne=> ?_,fun _=> ?_⟩
  ·exfalso
   rw [hll,i64_in _ O_ O_] at hne
   simp at hne
  refine⟨fun k w'=>∃(q:Nat),k=(q:Int)∧q≤it.long.len∧St w0 ((b1,zn it)::((b,C)::(cs++l))) w'∧St w0 ((b1,zn it)::(it.cs++(((b,C)::tb)++((itsC d++itsC r)++l)))) w',fun k _=>it.long.len - k.toNat,⟨0,rfl,O_,sto,st⟩,?_⟩
  clear st sto
  rintro k4 w4 ⟨q,rfl,hq,sto,st⟩
  have hsrc:zh w4 it.long 1 ((List.replicate (it.l.len+70) (z6 it.n)).flatMap zOb)∧zh w4 it.l 1 ((List.replicate it.l.len (z6 it.n)).flatMap zOb):=by
   have s1:=st.drop1
   rw [hcs,List.append_assoc] at s1
   refine⟨hg.src s1,?_⟩
   rcases hor with hp | hsrc
   ·exact zie zvb (hg.src s1) hp rfl O_ hll
   ·exact hsrc _ _ _ s1.drop
  have rep:∀(s:Slc) (p i:Nat),zh w4 s 1 ((List.replicate p (z6 it.n)).flatMap zOb)→i<s.len→IsAt s.ptr∧ze w4 (pblk s.ptr) (poff s.ptr+i*1) (zOb (z6 it.n)):=fun s p i hs hi=>by
   obtain⟨a,x,hx,hc⟩:=zh.getN hs zvb D_ (i:=(i:Int)) O_ O_
   rw [Int.toNat_natCast] at hx hc
   rw [(List.mem_replicate.1 (List.mem_of_getElem? hx)).2] at hc
   exact⟨a,hc⟩
  unfold F_rb
  refine⟨it.long,st.cell 0 rfl rfl,fun hk=> ?_,fun hk=> ?_⟩
  ·have hk:=of_decide_eq_true hk
   obtain⟨a,hc1⟩:=rep it.long _ q hsrc.1 O_
   refine⟨it.long,st.cell 0 rfl rfl,a,O_,hk,z6 it.n,by have h0:=zI.1 hc1 0 _ rfl; simpa using h0,it.n,st.cell 0 rfl rfl,true,fun w' e=>s_ib hN (ht.ext (st.ext.trans e)),fun hh=>(by cases hh),fun _=> ?_⟩
   have wq:IntKind.i64.wrap ((q:Int)+1)=((q+1:Nat):Int):=by rw [i64_in _ O_ O_]; omega
   have fin:∀ w',Ext w4 w'→(∃(q':Nat),((q+1:Nat):Int)=(q':Int)∧q'≤it.long.len∧St w0 ((b1,zn it)::((b,C)::(cs++l))) w'∧St w0 ((b1,zn it)::(it.cs++(((b,C)::tb)++((itsC d++itsC r)++l)))) w'):=fun w' e=>⟨q+1,rfl,O_,sto.keep e,st.keep e⟩
   refine⟨it.l,st.cell 0 rfl rfl,fun hk2=> ?_,fun hk2 w10 e10=> ?_⟩
   ·have hk2:=of_decide_eq_true hk2
    obtain⟨a2,hc2⟩:=rep it.l _ q hsrc.2 O_
    refine⟨it.l,st.cell 0 rfl rfl,a2,O_,hk2,z6 it.n,by have h0:=zI.1 hc2 0 _ rfl; simpa using h0,it.n,st.cell 0 rfl rfl,true,fun w' e=>s_ib hN (ht.ext (st.ext.trans e)),fun w9 e9=> ?_⟩
    unfold F_f
    refine⟨fun hh=>(by cases hh),fun _=> ?_⟩
    rw [wq]
    exact⟨fin _ e9,by show _ - _<_ - _; omega⟩
   ·unfold F_f
    refine⟨fun hh=>(by cases hh),fun _=> ?_⟩
    rw [wq]
    exact⟨fin _ e10,by show _ - _<_ - _; omega⟩
  ·have wj:IntKind.i64.wrap ((j:Int)+1)=((j+1:Nat):Int):=by rw [i64_in _ O_ O_]; omega
   rw [wj]
   exact⟨⟨j+1,rfl,O_,sto.drop1⟩,by show _ - _<_ - _; omega⟩
 ·exact k _ st
end
theorem s_Jb {w0:Base} {w:World} {l sc cs:List zf} {C:List Value} {b:Nat} {n:Int} {t s:Slc} {its:List Item} {xs:List Value} {R:WP} (o:zbb t its zPb cs) (r:RowC 1 s xs sc) (st:St w0 ((b,C)::(cs++(sc++l))) w) (hC0:C[0]? =some (Vi n)) (hCt:C[2]? =some (Vs t)) (hn:0≤n∧n≤2000000000) (hl:its.length≤2000000000) (hs:s.len≤1099511627776)
    (k:∀ t' its' cs' w',zbb t' its' zPb cs'→its'.length=its.length+1→St w0 ((b,(C.set 0 (Vi (n+1))).set 2 (Vs t'))::(cs'++l)) w'→R w'):C_Vb (some ⟨b,0,none⟩) s w R:=by
 apply S_zb
 unfold F_zd
 exact s_kc o r st hC0 hCt hn hl hs k
abbrev z0 (v:T_c):List Value:=[Vi v.Number,Value.string v.Val,Vo v.Drop]
abbrev zG (n:Int):T_c:=⟨IntKind.i64.wrap ((-1000) - n),ByteArray.empty,false⟩
theorem z7 (x:T_c):(z0 x).length=3:=rfl
/-! ### Version -/
def zW (it:Item):Prop:=OkN it.n∧it.l.len≤1099511627776∧∃ xs,RowC 3 it.l xs it.cs
def zrb (it:Item):Prop:=OkN it.n∧it.l.len≤1099511627776∧RowC 3 it.l ((List.replicate it.l.len (zG it.n)).flatMap z0) it.cs
def zXd (k:Nat) (it:Item) (long:Slc):Prop :=
 OkN it.n∧it.l.len≤1099511627776∧long.len=it.l.len+k∧∃ c1 c2,it.cs=c1++c2∧RowC 3 long ((List.replicate (it.l.len+k) (zG it.n)).flatMap z0) c1 ∧
  (long.ptr=it.l.ptr∨∀ w0 l w,St w0 (c2++l) w→zh w it.l 3 ((List.replicate it.l.len (zG it.n)).flatMap z0))
def zGb (it:Item):Prop:=zXd 70 it it.long
section
variable {w0:Base} {w:World} {l cs:List zf} {C:List Value} {b:Nat} {n:Int} {t:Slc} {its:List Item}
theorem s_o {R:T_c→WP} (hn:OkN n) (ht:Tab w) (k:∀ w',Ext w w'→R (zG n) w'):C_B n w R:=by
 apply S_bb
 unfold F_dd
 intro b w1 hb hw
 have st:=(St.start w).alloc hb hw
 refine⟨st.writable 0 rfl (by simp),fun w2 hw2=> ?_⟩
 have st:St ⟨w,[]⟩ [(b,z0 (zG n))] w2:=st.put0 hw2
 exact⟨zG n,(st.get 0 rfl).all,k w2 st.ext⟩
theorem s_w (hn:OkN n) (ht:Tab w):C_S (zG n) n w (fun(v44':Bool) w''=>v44'=true∧Ext w w''):=by
 apply S_Bb
 unfold F_Cd
 intro b w1 hb hw
 have st:=(St.start w).alloc hb hw
 refine⟨zG n,(st.get 0 rfl).all,?_,st.ext⟩
 rw [beq_self_eq_true,show(zG n).Val=ByteArray.empty from rfl,zvk]; rfl
theorem s_X {s:Slc} {xs:List Value} {sc:List zf} {R:WP} (o:zbb t its zW cs) (r:RowC 3 s xs sc) (st:St w0 ((b,C)::(cs++(sc++l))) w) (hC0:C[0]? =some (Vi n)) (hCt:C[6]? =some (Vs t))
    (hn:0≤n∧n≤2000000000) (hl:its.length≤2000000000) (hs:s.len≤1099511627776) (k:∀ t' its' cs' w',zbb t' its' zW cs'→its'.length=its.length+1→St w0 ((b,(C.set 0 (Vi (n+1))).set 6 (Vs t'))::(cs'++l)) w'→R w'):C_M (some ⟨b,0,none⟩) s w R:=by
 apply S_v
 unfold F_ac
 have htl:=o.len
 obtain⟨tb,ro,rfl,hph⟩:=o
 have wn:IntKind.i64.wrap (n+1)=n+1:=i64_in _ O_ O_
 have hCl:6<C.length:=(List.getElem?_eq_some_iff.1 hCt).1
 refine⟨rfl,n,st.cell 0 rfl hC0,st.writable 0 rfl (by show 0+1≤_; omega),fun w1 hw1 w2 e2=> ?_⟩
 rw [wn] at hw1
 have st:=(st.put0 hw1).drew e2
 have e0:putL (poff (some ⟨b,0,none⟩:OA)) [Vi (n+1)] C=C.set 0 (Vi (n+1)):=ztb ..
 rw [e0] at st
 have hCt':(C.set 0 (Vi (n+1)))[6]? =some (Vs t):=by rw [List.getElem?_set_ne D_]; exact hCt
 have hC0':(C.set 0 (Vi (n+1)))[0]? =some (Vi (n+1)):=List.getElem?_set_self O_
 have hCt'':(C.set 0 (Vi (n+1)))[0+6]? =some (Vs t):=by rw [Nat.zero_add]; exact hCt'
 refine⟨rfl,t,st.cell 0 rfl hCt'',rfl,n+1,st.cell 0 rfl hC0',fun b1 w3 hb1 hw3=> ?_⟩
 have st:=st.alloc hb1 hw3
 refine⟨st.cell 1 rfl hCt'',_,zY hb1 hw3 rfl,?_⟩
 have st:St w0 (tb++((b,C.set 0 (Vi (n+1)))::(itsC its++(sc++l)))) w3:=by
  have h:St w0 ((b,C.set 0 (Vi (n+1)))::(tb++(itsC its++(sc++l)))) w3:=by have:=st.drop1; simpa using this
  exact h.mid
 refine ro.append st rfl rfl rfl (by rw [htl]; omega) fun t' tb' w4 ro' st hlen=> ?_
 have st:=st.unmid
 refine⟨rfl,st.writable 0 rfl (by rw [List.length_set]; show 0+6+1≤_; omega),fun w5 hw5=> ?_⟩
 have st:=st.put0 hw5
 have e1:putL (poff (some ⟨b,0,none⟩:OA)+6) [Vs t'] (C.set 0 (Vi (n+1)))=(C.set 0 (Vi (n+1))).set 6 (Vs t'):=by rw [ztb]; rw [show poff (some ⟨b,0,none⟩:OA)+6=6 from Nat.zero_add _]
 rw [e1] at st
 refine k t' (its++[⟨s,⟨none,0,0⟩,n+1,sc⟩]) (tb'++itsC (its++[⟨s,⟨none,0,0⟩,n+1,sc⟩])) w5 ⟨tb',?_,rfl,fun it hit=> ?_⟩ (by simp) ?_
 ·rw [List.flatMap_append]; exact ro'
 ·rcases List.mem_append.1 hit with hit | hit
  ·exact hph it hit
  ·rw [List.mem_singleton] at hit
   rw [hit]
   exact⟨⟨by show 0≤n+1; omega,by show n+1≤9000000000; omega⟩,hs,xs,r⟩
 ·rw [zWd its _ []]
  unfold itsC at st ⊢
  simpa using st
theorem s_Y {R:WP} (ht:Tab w0.w) (o:zbb t its zW cs) (st:St w0 ((b,C)::(cs++l)) w) (hCt:C[0+6]? =some (Vs t)) (hm:its.length≤2000000000)
    (k:∀ its' cs' w',zbb t its' zrb cs'→its'.length=its.length→St w0 ((b,C)::(cs'++l)) w'→R w'):C_J (some ⟨b,0,none⟩) w R:=by
 apply S_s
 unfold F_7b
 generalize hml:its.length=m at *
 refine⟨fun i w'=>∃(j:Nat) (cs:List zf),i=(j:Int)∧j≤m∧zBb t m j zW zrb cs∧St w0 ((b,C)::(cs++l)) w',fun i _=>m - i.toNat,⟨0,cs,rfl,O_,by rw [←hml]; exact zBb.start o,st⟩,?_⟩
 clear o st
 rintro i w1 ⟨j,cs,rfl,hj,o,st⟩
 unfold F_C
 have htl:=o.len
 refine⟨rfl,t,st.cell 0 rfl hCt,fun h=> ?_,fun h=> ?_⟩
 ·have h:=of_decide_eq_true h
  obtain⟨d,it,r,tb,h1,h2,ro,h3,⟨hN,hlen,xs,hx⟩,h4,ha,hc,sti⟩:=o.at_ st O_
  refine⟨rfl,t,st.cell 0 rfl hCt,ha,O_,h,⟨it.l,it.long,it.n⟩,?_,fun b1 w2 hb1 hw2=> ?_⟩
  ·rw [Int.toNat_natCast]; exact hc
  have st:=sti.alloc hb1 hw2
  clear sti
  refine⟨st.writable 0 rfl (by simp),fun w3 hw3=> ?_⟩
  have st:=st.put0 hw3
  have st:St w0 ((b1,zn it)::(it.cs++(((b,C)::tb)++((itsC d++itsC r)++l)))) w3:=st
  refine⟨fun k w'=>∃(q:Nat) (ys:List Value) (cs:List zf),k=(q:Int)∧q≤it.l.len∧RowC 3 it.l ((List.replicate q (zG it.n)).flatMap z0++ys) cs∧St w0 ((b1,zn it)::(cs++(((b,C)::tb)++((itsC d++itsC r)++l)))) w',fun k _=>it.l.len - k.toNat,⟨0,xs,it.cs,rfl,O_,by simpa using hx,st⟩,?_⟩
  clear st
  rintro k4 w4 ⟨q,ys,cs,rfl,hq,hr,st⟩
  unfold F_B
  refine⟨it.l,st.cell 0 rfl rfl,fun hk=> ?_,fun hk=> ?_⟩
  ·have hk:=of_decide_eq_true hk
   intro w5 e5
   have st:=st.drew e5
   refine⟨it.l,st.cell 0 rfl rfl,it.n,st.cell 0 rfl rfl,s_o hN (ht.ext st.ext) fun w6 e6=> ?_⟩
   have st:=st.keep e6
   refine⟨st.cell 0 rfl rfl,?_⟩
   have hqs:(q+1)*3≤it.l.len*3:=Nat.mul_le_mul_right _ O_
   obtain⟨a,wr,hset⟩:=hr.putN (l:=(b1,zn it)::(((b,C)::tb)++((itsC d++itsC r)++l))) (vs:=z0 (zG it.n)) (i:=q*3) st.mid (by rw [z7]; decide) (by rw [z7]; omega)
   rw [z7] at wr hset
   skip
   refine⟨a,O_,hk,?_,fun w7 hw7=> ?_⟩
   ·rw [Int.toNat_natCast]; exact wr
   rw [Int.toNat_natCast] at hw7
   obtain⟨cs',hr',st⟩:=hset w7 hw7
   have wq:IntKind.i64.wrap ((q:Int)+1)=((q+1:Nat):Int):=by rw [i64_in _ O_ O_]; omega
   rw [wq]
   have hrl:((List.replicate q (zG it.n)).flatMap z0).length=q*3:=zfd z7 q _
   refine⟨⟨q+1,ys.drop 3,cs',rfl,O_,?_,st.unmid⟩,by show _ - _<_ - _; omega⟩
   skip
   rw [List.take_left' hrl,rep_succ,List.drop_append,hrl,List.drop_eq_nil_of_le O_,List.nil_append,show q*3+3 - q*3=3 from by omega] at hr'
   exact hr'
  ·have hk:=of_decide_eq_false hk
   have hqe:q=it.l.len:=O_
   subst hqe
   have hr:=hr.trimB (zfd z7 _ _)
   have wj:IntKind.i64.wrap ((j:Int)+1)=((j+1:Nat):Int):=by rw [i64_in _ O_ O_]; omega
   rw [wj]
   obtain⟨cs',o',st'⟩:=zBb.next (it:=⟨it.l,it.long,it.n,cs⟩) (Ph:=zW) (Ph':=zrb) h1 h2 (by simpa [zn] using ro) h3 ⟨hN,hlen,hr⟩ h4 st.drop1
   exact⟨⟨j+1,cs',rfl,O_,o',st'⟩,by show _ - _<_ - _; omega⟩
 ·have h:=of_decide_eq_false h
  have:j=m:=O_
  subst this
  obtain⟨its',hl',o'⟩:=o.done
  exact k its' cs _ o' hl' st
theorem s_Z {R:WP} (ht:Tab w0.w) (o:zbb t its zrb cs) (st:St w0 ((b,C)::(cs++l)) w) (hCt:C[0+6]? =some (Vs t)) (hm:its.length≤2000000000)
    (k:∀ its' cs' w',zbb t its' zGb cs'→its'.length=its.length→St w0 ((b,C)::(cs'++l)) w'→R w'):C_K (some ⟨b,0,none⟩) w R:=by
 apply S_t
 unfold F_8b
 generalize hml:its.length=m at *
 refine⟨fun i w'=>∃(j:Nat) (cs:List zf),i=(j:Int)∧j≤m∧zBb t m j zrb zGb cs∧St w0 ((b,C)::(cs++l)) w',fun i _=>m - i.toNat,⟨0,cs,rfl,O_,by rw [←hml]; exact zBb.start o,st⟩,?_⟩
 clear o st
 rintro i w1 ⟨j,cs,rfl,hj,o,st⟩
 unfold F_E
 have htl:=o.len
 refine⟨rfl,t,st.cell 0 rfl hCt,fun h=> ?_,fun h=> ?_⟩
 ·have h:=of_decide_eq_true h
  obtain⟨d,it,r,tb,h1,h2,ro,h3,⟨hN,hlen,hx⟩,h4,ha,hc,sti⟩:=o.at_ st O_
  refine⟨rfl,t,st.cell 0 rfl hCt,ha,O_,h,⟨it.l,it.long,it.n⟩,?_,fun b1 w2 hb1 hw2=> ?_⟩
  ·rw [Int.toNat_natCast]; exact hc
  have st:=sti.alloc hb1 hw2
  clear sti
  refine⟨st.writable 0 rfl (by simp),fun w3 hw3=> ?_⟩
  have st:=st.put0 hw3
  have st:St w0 ((b1,zn it)::(it.cs++(((b,C)::tb)++((itsC d++itsC r)++l)))) w3:=st
  refine⟨it.l,st.cell 0 rfl rfl,fun long k w'=>∃(q:Nat) (cs:List zf),k=(q:Int)∧q≤70∧zXd q ⟨it.l,long,it.n,cs⟩ long∧St w0 ((b1,zn it)::(cs++(((b,C)::tb)++((itsC d++itsC r)++l)))) w',fun _ k _=>70 - k.toNat,⟨0,it.cs,rfl,O_,⟨hN,hlen,rfl,it.cs,[],by simp,hx,.inl rfl⟩,st⟩,?_⟩
  clear st
  rintro long k4 w4 ⟨q,cs,rfl,hq,hg,st⟩
  unfold F_D
  refine⟨fun hk=> ?_,fun hk=> ?_⟩
  ·have hk:=of_decide_eq_true hk
   refine⟨it.n,st.cell 0 rfl rfl,s_o hN (ht.ext st.ext) fun w5 e5 b2 w6 hb2 hw6=> ?_⟩
   have st:=((st.keep e5).alloc hb2 hw6).drop1
   refine⟨_,zY hb2 hw6 rfl,?_⟩
   have wq:IntKind.i64.wrap ((q:Int)+1)=((q+1:Nat):Int):=by rw [i64_in _ O_ O_]; omega
   rw [wq]
   obtain⟨_,_,hll,c1,c2,hcs,hg,hor⟩:=hg
   have hll:long.len=it.l.len+q:=hll
   have hcs:cs=c1++c2:=hcs
   subst hcs
   have st:St w0 (c1++(c2++((b1,zn it)::(((b,C)::tb)++((itsC d++itsC r)++l))))) w6:=by have:=st.mid; rwa [List.append_assoc] at this
   refine hg.appendK (by_:=32) st rfl O_ rfl rfl (by rw [hll]; omega) fun s' bs' l' w7 hr7 st hl7 hcase=> ?_
   have hr7:RowC 3 s' ((List.replicate (it.l.len+q) (zG it.n)).flatMap z0++z0 (zG it.n)) bs':=hr7
   rw [rep_succ] at hr7
   have st:St w0 ((b1,zn it)::((bs'++(l'++c2))++(((b,C)::tb)++((itsC d++itsC r)++l)))) w7:=by
    refine St.unmid ?_
    simpa only [List.append_assoc] using st
   refine⟨⟨q+1,bs'++(l'++c2),rfl,O_,⟨hN,hlen,by show s'.len=it.l.len+(q+1); omega,bs',l'++c2,rfl,hr7,?_⟩,st⟩,by show _ - _<_ - _; omega⟩
   rcases hcase with ⟨hp7,rfl⟩ | hb7
   ·rcases hor with hp | hsrc
    ·exact .inl (hp7.trans hp)
    ·exact .inr hsrc
   ·have hb7':l'=c1:=hb7
    subst hb7'
    refine .inr fun w0 l w st=> ?_
    rw [List.append_assoc] at st
    rcases hor with hp | hsrc
    ·exact zie z7 (hg.src st) hp rfl (by show it.l.len≤it.l.len+q; omega) hll
    ·exact hsrc w0 l w st.drop
  ·have hk:=of_decide_eq_false hk
   obtain rfl:q=70:=O_
   have hcell:w4.cell? ⟨b,0+6,none⟩=some (Vs t):=st.drop1.drop.cell 0 rfl hCt
   have st:St w0 (tb++((b,C)::(cs++((itsC d++itsC r)++l)))) w4:=by
    have h:=st.drop1.swap
    exact St.mid h
   have hlt:j*3+1<t.len*3:=O_
   obtain⟨a,wr,hset⟩:=ro.setN (v:=Vs long) (i:=j*3+1) st hlt
   refine⟨rfl,t,hcell,a,O_,h,?_,fun w8 hw8=> ?_⟩
   ·rw [Int.toNat_natCast,Nat.add_assoc]; exact wr
   rw [Int.toNat_natCast,Nat.add_assoc] at hw8
   obtain⟨tb',ro',st⟩:=hset w8 hw8
   rw [zdh (cs:=cs) h1] at ro'
   have wj:IntKind.i64.wrap ((j:Int)+1)=((j+1:Nat):Int):=by rw [i64_in _ O_ O_]; omega
   rw [wj]
   have st:St w0 (cs++(((b,C)::tb')++((itsC d++itsC r)++l))) w8:=by
    have h:St w0 (((b,C)::tb')++(cs++((itsC d++itsC r)++l))) w8:=St.unmid st
    exact h.swap
   obtain⟨cs',o',st'⟩:=zBb.next (it:=⟨it.l,long,it.n,cs⟩) (Ph:=zrb) (Ph':=zGb) h1 h2 ro' h3 hg h4 st
   exact⟨⟨j+1,cs',rfl,O_,o',st'⟩,by show _ - _<_ - _; omega⟩
 ·have h:=of_decide_eq_false h
  have:j=m:=O_
  subst this
  obtain⟨its',hl',o'⟩:=o.done
  exact k its' cs _ o' hl' st
theorem s_0 {R:Bool→WP} (ht:Tab w0.w) (o:zbb t its zGb cs) (st:St w0 ((b,C)::(cs++l)) w) (hCt:C[0+6]? =some (Vs t)) (hm:its.length≤2000000000)
    (k:∀ w',St w0 ((b,C)::(cs++l)) w'→R true w'):C_L (some ⟨b,0,none⟩) w R:=by
 apply S_u
 unfold F_9b
 generalize hml:its.length=m at *
 have hI:∀ j,j≤m→zBb t m j zGb zGb cs:=fun j hj=>by
  obtain⟨tb,ro,rfl,hph⟩:=o
  refine⟨its.take j,its.drop j,tb,by rw [List.length_take]; omega,by rw [List.length_take,List.length_drop]; omega,by rw [List.take_append_drop]; exact ro,by rw [List.take_append_drop],fun it hit=>hph it (List.mem_of_mem_take hit),fun it hit=>hph it (List.mem_of_mem_drop hit)⟩
 refine⟨fun i w'=>∃(j:Nat),i=(j:Int)∧j≤m∧St w0 ((b,C)::(cs++l)) w',fun i _=>m - i.toNat,⟨0,rfl,O_,st⟩,?_⟩
 clear st
 rintro i w1 ⟨j,rfl,hj,st⟩
 unfold F_G
 have o:=hI j hj
 have htl:=o.len
 refine⟨rfl,t,st.cell 0 rfl hCt,fun h=> ?_,fun h=> ?_⟩
 ·have h:=of_decide_eq_true h
  obtain⟨d,it,r,tb,h1,h2,ro,h3,⟨hN,hlen,hll,c1,c2,hcs,hg,hor⟩,h4,ha,hc,sti⟩:=o.at_ st O_
  refine⟨rfl,t,st.cell 0 rfl hCt,ha,O_,h,⟨it.l,it.long,it.n⟩,?_,fun b1 w2 hb1 hw2=> ?_⟩
  ·rw [Int.toNat_natCast]; exact hc
  have sto:=st.alloc hb1 hw2
  have st:=sti.alloc hb1 hw2
  clear sti
  refine⟨st.writable 0 rfl (by simp),fun w3 hw3=> ?_⟩
  have sto:St w0 ((b1,zn it)::((b,C)::(cs++l))) w3:=sto.put0 hw3
  have st:St w0 ((b1,zn it)::(it.cs++(((b,C)::tb)++((itsC d++itsC r)++l)))) w3:=st.put0 hw3
  refine⟨it.long,st.cell 0 rfl rfl,it.l,st.cell 0 rfl rfl,fun hne=> ?_,fun _=> ?_⟩
  ·exfalso
   rw [hll,i64_in _ O_ O_] at hne
   simp at hne
  refine⟨fun k w'=>∃(q:Nat),k=(q:Int)∧q≤it.long.len∧St w0 ((b1,zn it)::((b,C)::(cs++l))) w'∧St w0 ((b1,zn it)::(it.cs++(((b,C)::tb)++((itsC d++itsC r)++l)))) w',fun k _=>it.long.len - k.toNat,⟨0,rfl,O_,sto,st⟩,?_⟩
  clear st sto
  rintro k4 w4 ⟨q,rfl,hq,sto,st⟩
  have hsrc:zh w4 it.long 3 ((List.replicate (it.l.len+70) (zG it.n)).flatMap z0)∧zh w4 it.l 3 ((List.replicate it.l.len (zG it.n)).flatMap z0):=by
   have s1:=st.drop1
   rw [hcs,List.append_assoc] at s1
   refine⟨hg.src s1,?_⟩
   rcases hor with hp | hsrc
   ·exact zie z7 (hg.src s1) hp rfl O_ hll
   ·exact hsrc _ _ _ s1.drop
  have rep:∀(s:Slc) (p i:Nat),zh w4 s 3 ((List.replicate p (zG it.n)).flatMap z0)→i<s.len→IsAt s.ptr∧ze w4 (pblk s.ptr) (poff s.ptr+i*3) (z0 (zG it.n)):=fun s p i hs hi=>by
   obtain⟨a,x,hx,hc⟩:=zh.getN hs z7 D_ (i:=(i:Int)) O_ O_
   rw [Int.toNat_natCast] at hx hc
   rw [(List.mem_replicate.1 (List.mem_of_getElem? hx)).2] at hc
   exact⟨a,hc⟩
  unfold F_F
  refine⟨it.long,st.cell 0 rfl rfl,fun hk=> ?_,fun hk=> ?_⟩
  ·have hk:=of_decide_eq_true hk
   obtain⟨a,hc1⟩:=rep it.long _ q hsrc.1 O_
   refine⟨it.long,st.cell 0 rfl rfl,a,O_,hk,zG it.n,by rw [Int.toNat_natCast]; exact hc1,it.n,st.cell 0 rfl rfl,true,fun w' e=>s_w hN (ht.ext (st.ext.trans e)),fun hh=>(by cases hh),fun _=> ?_⟩
   have wq:IntKind.i64.wrap ((q:Int)+1)=((q+1:Nat):Int):=by rw [i64_in _ O_ O_]; omega
   have fin:∀ w',Ext w4 w'→(∃(q':Nat),((q+1:Nat):Int)=(q':Int)∧q'≤it.long.len∧St w0 ((b1,zn it)::((b,C)::(cs++l))) w'∧St w0 ((b1,zn it)::(it.cs++(((b,C)::tb)++((itsC d++itsC r)++l)))) w'):=fun w' e=>⟨q+1,rfl,O_,sto.keep e,st.keep e⟩
   refine⟨it.l,st.cell 0 rfl rfl,fun hk2=> ?_,fun hk2 w10 e10=> ?_⟩
   ·have hk2:=of_decide_eq_true hk2
    obtain⟨a2,hc2⟩:=rep it.l _ q hsrc.2 O_
    refine⟨it.l,st.cell 0 rfl rfl,a2,O_,hk2,zG it.n,by rw [Int.toNat_natCast]; exact hc2,it.n,st.cell 0 rfl rfl,true,fun w' e=>s_w hN (ht.ext (st.ext.trans e)),fun w9 e9=> ?_⟩
    unfold F_b
    refine⟨fun hh=>(by cases hh),fun _=> ?_⟩
    rw [wq]
    exact⟨fin _ e9,by show _ - _<_ - _; omega⟩
   ·unfold F_b
    refine⟨fun hh=>(by cases hh),fun _=> ?_⟩
    rw [wq]
    exact⟨fin _ e10,by show _ - _<_ - _; omega⟩
  ·have wj:IntKind.i64.wrap ((j:Int)+1)=((j+1:Nat):Int):=by rw [i64_in _ O_ O_]; omega
   rw [wj]
   exact⟨⟨j+1,rfl,O_,sto.drop1⟩,by show _ - _<_ - _; omega⟩
 ·exact k _ st
end
theorem s_P {w0:Base} {w:World} {l sc cs:List zf} {C:List Value} {b:Nat} {n:Int} {t s:Slc} {its:List Item} {xs:List Value} {R:WP} (o:zbb t its zW cs) (r:RowC 3 s xs sc) (st:St w0 ((b,C)::(cs++(sc++l))) w) (hC0:C[0]? =some (Vi n)) (hCt:C[6]? =some (Vs t)) (hn:0≤n∧n≤2000000000) (hl:its.length≤2000000000) (hs:s.len≤1099511627776)
    (k:∀ t' its' cs' w',zbb t' its' zW cs'→its'.length=its.length+1→St w0 ((b,(C.set 0 (Vi (n+1))).set 6 (Vs t'))::(cs'++l)) w'→R w'):C_lb (some ⟨b,0,none⟩) s w R:=by
 apply S_S
 unfold F_Mc
 exact s_X o r st hC0 hCt hn hl hs k
abbrev zob (v:T_d):List Value:=[Value.string v.Key,Vs v.Versions]
abbrev zT (n:Int):T_d:=⟨zUl n,⟨none,0,0⟩⟩
theorem zlb (x:T_d):(zob x).length=2:=rfl
/-! ### Held -/
def zwb (it:Item):Prop:=OkN it.n∧it.l.len≤1099511627776∧∃ xs,RowC 2 it.l xs it.cs
def zWb (it:Item):Prop:=OkN it.n∧it.l.len≤1099511627776∧RowC 2 it.l ((List.replicate it.l.len (zT it.n)).flatMap zob) it.cs
def zFf (k:Nat) (it:Item) (long:Slc):Prop :=
 OkN it.n∧it.l.len≤1099511627776∧long.len=it.l.len+k∧∃ c1 c2,it.cs=c1++c2∧RowC 2 long ((List.replicate (it.l.len+k) (zT it.n)).flatMap zob) c1 ∧
  (long.ptr=it.l.ptr∨∀ w0 l w,St w0 (c2++l) w→zh w it.l 2 ((List.replicate it.l.len (zT it.n)).flatMap zob))
def zGc (it:Item):Prop:=zFf 70 it it.long
section
variable {w0:Base} {w:World} {l cs:List zf} {C:List Value} {b:Nat} {n:Int} {t:Slc} {its:List Item}
theorem s_B {R:T_d→WP} (hn:OkN n) (ht:Tab w) (k:∀ w',Ext w w'→R (zT n) w'):C_6 n w R:=by
 apply S_Kb
 unfold F_Jd
 intro b w1 hb hw
 have st:=(St.start w).alloc hb hw
 refine s_Fc hn (ht.ext st.ext) fun w2 e2=> ?_
 have st:=st.keep e2
 refine⟨st.writable 0 rfl (by simp),fun w2 hw2=> ?_⟩
 have st:St ⟨w,[]⟩ [(b,zob (zT n))] w2:=st.put0 hw2
 exact⟨zT n,(st.get 0 rfl).all,k w2 st.ext⟩
theorem s_Oc (hn:OkN n) (ht:Tab w):C_G (zT n) n w (fun(v44':Bool) w''=>v44'=true∧Ext w w''):=by
 apply S_Sb
 unfold F_Td
 intro b w1 hb hw w2 hd
 have st:St ⟨w,[]⟩ [(b,zob (zT n))] w2:=((St.start w).alloc hb hw).drew hd
 refine⟨zUl n,st.cell 0 rfl rfl,s_Fc hn (ht.ext st.ext) fun w3 e3=> ?_⟩
 have st:=st.keep e3
 refine⟨st.cell 0 rfl rfl,fun _=>⟨⟨none,0,0⟩,st.cell 0 rfl rfl,rfl,st.ext⟩,fun h=> ?_⟩
 rw [beq_self_eq_true] at h; cases h
theorem s_J {R:Bool→WP} (hn:OkN n) (ht:Tab w) (k:∀ w',Ext w w'→R true w'):C_G (zT n) n w R :=
 Calls.mono (s_Oc hn ht) (by rintro e w' ⟨r,rfl,rfl,h⟩; exact⟨true,rfl,k w' h⟩)
theorem s_Kb {s:Slc} {xs:List Value} {sc:List zf} {R:WP} (o:zbb t its zwb cs) (r:RowC 2 s xs sc) (st:St w0 ((b,C)::(cs++(sc++l))) w) (hC0:C[0]? =some (Vi n)) (hCt:C[8]? =some (Vs t))
    (hn:0≤n∧n≤2000000000) (hl:its.length≤2000000000) (hs:s.len≤1099511627776) (k:∀ t' its' cs' w',zbb t' its' zwb cs'→its'.length=its.length+1→St w0 ((b,(C.set 0 (Vi (n+1))).set 8 (Vs t'))::(cs'++l)) w'→R w'):C_mb (some ⟨b,0,none⟩) s w R:=by
 apply S_T
 unfold F_Nc
 have htl:=o.len
 obtain⟨tb,ro,rfl,hph⟩:=o
 have wn:IntKind.i64.wrap (n+1)=n+1:=i64_in _ O_ O_
 have hCl:8<C.length:=(List.getElem?_eq_some_iff.1 hCt).1
 refine⟨rfl,n,st.cell 0 rfl hC0,st.writable 0 rfl (by show 0+1≤_; omega),fun w1 hw1 w2 e2=> ?_⟩
 rw [wn] at hw1
 have st:=(st.put0 hw1).drew e2
 have e0:putL (poff (some ⟨b,0,none⟩:OA)) [Vi (n+1)] C=C.set 0 (Vi (n+1)):=ztb ..
 rw [e0] at st
 have hCt':(C.set 0 (Vi (n+1)))[8]? =some (Vs t):=by rw [List.getElem?_set_ne D_]; exact hCt
 have hC0':(C.set 0 (Vi (n+1)))[0]? =some (Vi (n+1)):=List.getElem?_set_self O_
 have hCt'':(C.set 0 (Vi (n+1)))[0+8]? =some (Vs t):=by rw [Nat.zero_add]; exact hCt'
 refine⟨rfl,t,st.cell 0 rfl hCt'',rfl,n+1,st.cell 0 rfl hC0',fun b1 w3 hb1 hw3=> ?_⟩
 have st:=st.alloc hb1 hw3
 refine⟨st.cell 1 rfl hCt'',_,zY hb1 hw3 rfl,?_⟩
 have st:St w0 (tb++((b,C.set 0 (Vi (n+1)))::(itsC its++(sc++l)))) w3:=by
  have h:St w0 ((b,C.set 0 (Vi (n+1)))::(tb++(itsC its++(sc++l)))) w3:=by have:=st.drop1; simpa using this
  exact h.mid
 refine ro.append st rfl rfl rfl (by rw [htl]; omega) fun t' tb' w4 ro' st hlen=> ?_
 have st:=st.unmid
 refine⟨rfl,st.writable 0 rfl (by rw [List.length_set]; show 0+8+1≤_; omega),fun w5 hw5=> ?_⟩
 have st:=st.put0 hw5
 have e1:putL (poff (some ⟨b,0,none⟩:OA)+8) [Vs t'] (C.set 0 (Vi (n+1)))=(C.set 0 (Vi (n+1))).set 8 (Vs t'):=by rw [ztb]; rw [show poff (some ⟨b,0,none⟩:OA)+8=8 from Nat.zero_add _]
 rw [e1] at st
 refine k t' (its++[⟨s,⟨none,0,0⟩,n+1,sc⟩]) (tb'++itsC (its++[⟨s,⟨none,0,0⟩,n+1,sc⟩])) w5 ⟨tb',?_,rfl,fun it hit=> ?_⟩ (by simp) ?_
 ·rw [List.flatMap_append]; exact ro'
 ·rcases List.mem_append.1 hit with hit | hit
  ·exact hph it hit
  ·rw [List.mem_singleton] at hit
   rw [hit]
   exact⟨⟨by show 0≤n+1; omega,by show n+1≤9000000000; omega⟩,hs,xs,r⟩
 ·rw [zWd its _ []]
  unfold itsC at st ⊢
  simpa using st
theorem s_Lb {R:WP} (ht:Tab w0.w) (o:zbb t its zwb cs) (st:St w0 ((b,C)::(cs++l)) w) (hCt:C[0+8]? =some (Vs t)) (hm:its.length≤2000000000)
    (k:∀ its' cs' w',zbb t its' zWb cs'→its'.length=its.length→St w0 ((b,C)::(cs'++l)) w'→R w'):C_db (some ⟨b,0,none⟩) w R:=by
 apply S_L
 unfold F_Ec
 generalize hml:its.length=m at *
 refine⟨fun i w'=>∃(j:Nat) (cs:List zf),i=(j:Int)∧j≤m∧zBb t m j zwb zWb cs∧St w0 ((b,C)::(cs++l)) w',fun i _=>m - i.toNat,⟨0,cs,rfl,O_,by rw [←hml]; exact zBb.start o,st⟩,?_⟩
 clear o st
 rintro i w1 ⟨j,cs,rfl,hj,o,st⟩
 unfold F_ab
 have htl:=o.len
 refine⟨rfl,t,st.cell 0 rfl hCt,fun h=> ?_,fun h=> ?_⟩
 ·have h:=of_decide_eq_true h
  obtain⟨d,it,r,tb,h1,h2,ro,h3,⟨hN,hlen,xs,hx⟩,h4,ha,hc,sti⟩:=o.at_ st O_
  refine⟨rfl,t,st.cell 0 rfl hCt,ha,O_,h,⟨it.l,it.long,it.n⟩,?_,fun b1 w2 hb1 hw2=> ?_⟩
  ·rw [Int.toNat_natCast]; exact hc
  have st:=sti.alloc hb1 hw2
  clear sti
  refine⟨st.writable 0 rfl (by simp),fun w3 hw3=> ?_⟩
  have st:=st.put0 hw3
  have st:St w0 ((b1,zn it)::(it.cs++(((b,C)::tb)++((itsC d++itsC r)++l)))) w3:=st
  refine⟨fun k w'=>∃(q:Nat) (ys:List Value) (cs:List zf),k=(q:Int)∧q≤it.l.len∧RowC 2 it.l ((List.replicate q (zT it.n)).flatMap zob++ys) cs∧St w0 ((b1,zn it)::(cs++(((b,C)::tb)++((itsC d++itsC r)++l)))) w',fun k _=>it.l.len - k.toNat,⟨0,xs,it.cs,rfl,O_,by simpa using hx,st⟩,?_⟩
  clear st
  rintro k4 w4 ⟨q,ys,cs,rfl,hq,hr,st⟩
  unfold F_9
  refine⟨it.l,st.cell 0 rfl rfl,fun hk=> ?_,fun hk=> ?_⟩
  ·have hk:=of_decide_eq_true hk
   intro w5 e5
   have st:=st.drew e5
   refine⟨it.l,st.cell 0 rfl rfl,it.n,st.cell 0 rfl rfl,s_B hN (ht.ext st.ext) fun w6 e6=> ?_⟩
   have st:=st.keep e6
   refine⟨st.cell 0 rfl rfl,?_⟩
   have hqs:(q+1)*2≤it.l.len*2:=Nat.mul_le_mul_right _ O_
   obtain⟨a,wr,hset⟩:=hr.putN (l:=(b1,zn it)::(((b,C)::tb)++((itsC d++itsC r)++l))) (vs:=zob (zT it.n)) (i:=q*2) st.mid (by rw [zlb]; decide) (by rw [zlb]; omega)
   rw [zlb] at wr hset
   skip
   refine⟨a,O_,hk,?_,fun w7 hw7=> ?_⟩
   ·rw [Int.toNat_natCast]; exact wr
   rw [Int.toNat_natCast] at hw7
   obtain⟨cs',hr',st⟩:=hset w7 hw7
   have wq:IntKind.i64.wrap ((q:Int)+1)=((q+1:Nat):Int):=by rw [i64_in _ O_ O_]; omega
   rw [wq]
   have hrl:((List.replicate q (zT it.n)).flatMap zob).length=q*2:=zfd zlb q _
   refine⟨⟨q+1,ys.drop 2,cs',rfl,O_,?_,st.unmid⟩,by show _ - _<_ - _; omega⟩
   skip
   rw [List.take_left' hrl,rep_succ,List.drop_append,hrl,List.drop_eq_nil_of_le O_,List.nil_append,show q*2+2 - q*2=2 from by omega] at hr'
   exact hr'
  ·have hk:=of_decide_eq_false hk
   have hqe:q=it.l.len:=O_
   subst hqe
   have hr:=hr.trimB (zfd zlb _ _)
   have wj:IntKind.i64.wrap ((j:Int)+1)=((j+1:Nat):Int):=by rw [i64_in _ O_ O_]; omega
   rw [wj]
   obtain⟨cs',o',st'⟩:=zBb.next (it:=⟨it.l,it.long,it.n,cs⟩) (Ph:=zwb) (Ph':=zWb) h1 h2 (by simpa [zn] using ro) h3 ⟨hN,hlen,hr⟩ h4 st.drop1
   exact⟨⟨j+1,cs',rfl,O_,o',st'⟩,by show _ - _<_ - _; omega⟩
 ·have h:=of_decide_eq_false h
  have:j=m:=O_
  subst this
  obtain⟨its',hl',o'⟩:=o.done
  exact k its' cs _ o' hl' st
theorem s_Mb {R:WP} (ht:Tab w0.w) (o:zbb t its zWb cs) (st:St w0 ((b,C)::(cs++l)) w) (hCt:C[0+8]? =some (Vs t)) (hm:its.length≤2000000000)
    (k:∀ its' cs' w',zbb t its' zGc cs'→its'.length=its.length→St w0 ((b,C)::(cs'++l)) w'→R w'):C_gb (some ⟨b,0,none⟩) w R:=by
 apply S_O
 unfold F_Hc
 generalize hml:its.length=m at *
 refine⟨fun i w'=>∃(j:Nat) (cs:List zf),i=(j:Int)∧j≤m∧zBb t m j zWb zGc cs∧St w0 ((b,C)::(cs++l)) w',fun i _=>m - i.toNat,⟨0,cs,rfl,O_,by rw [←hml]; exact zBb.start o,st⟩,?_⟩
 clear o st
 rintro i w1 ⟨j,cs,rfl,hj,o,st⟩
 unfold F_eb
 have htl:=o.len
 refine⟨rfl,t,st.cell 0 rfl hCt,fun h=> ?_,fun h=> ?_⟩
 ·have h:=of_decide_eq_true h
  obtain⟨d,it,r,tb,h1,h2,ro,h3,⟨hN,hlen,hx⟩,h4,ha,hc,sti⟩:=o.at_ st O_
  refine⟨rfl,t,st.cell 0 rfl hCt,ha,O_,h,⟨it.l,it.long,it.n⟩,?_,fun b1 w2 hb1 hw2=> ?_⟩
  ·rw [Int.toNat_natCast]; exact hc
  have st:=sti.alloc hb1 hw2
  clear sti
  refine⟨st.writable 0 rfl (by simp),fun w3 hw3=> ?_⟩
  have st:=st.put0 hw3
  have st:St w0 ((b1,zn it)::(it.cs++(((b,C)::tb)++((itsC d++itsC r)++l)))) w3:=st
  refine⟨it.l,st.cell 0 rfl rfl,fun long k w'=>∃(q:Nat) (cs:List zf),k=(q:Int)∧q≤70∧zFf q ⟨it.l,long,it.n,cs⟩ long∧St w0 ((b1,zn it)::(cs++(((b,C)::tb)++((itsC d++itsC r)++l)))) w',fun _ k _=>70 - k.toNat,⟨0,it.cs,rfl,O_,⟨hN,hlen,rfl,it.cs,[],by simp,hx,.inl rfl⟩,st⟩,?_⟩
  clear st
  rintro long k4 w4 ⟨q,cs,rfl,hq,hg,st⟩
  unfold F_db
  refine⟨fun hk=> ?_,fun hk=> ?_⟩
  ·have hk:=of_decide_eq_true hk
   refine⟨it.n,st.cell 0 rfl rfl,s_B hN (ht.ext st.ext) fun w5 e5 b2 w6 hb2 hw6=> ?_⟩
   have st:=((st.keep e5).alloc hb2 hw6).drop1
   refine⟨_,zY hb2 hw6 rfl,?_⟩
   have wq:IntKind.i64.wrap ((q:Int)+1)=((q+1:Nat):Int):=by rw [i64_in _ O_ O_]; omega
   rw [wq]
   obtain⟨_,_,hll,c1,c2,hcs,hg,hor⟩:=hg
   have hll:long.len=it.l.len+q:=hll
   have hcs:cs=c1++c2:=hcs
   subst hcs
   have st:St w0 (c1++(c2++((b1,zn it)::(((b,C)::tb)++((itsC d++itsC r)++l))))) w6:=by have:=st.mid; rwa [List.append_assoc] at this
   refine hg.appendK (by_:=40) st rfl O_ rfl rfl (by rw [hll]; omega) fun s' bs' l' w7 hr7 st hl7 hcase=> ?_
   have hr7:RowC 2 s' ((List.replicate (it.l.len+q) (zT it.n)).flatMap zob++zob (zT it.n)) bs':=hr7
   rw [rep_succ] at hr7
   have st:St w0 ((b1,zn it)::((bs'++(l'++c2))++(((b,C)::tb)++((itsC d++itsC r)++l)))) w7:=by
    refine St.unmid ?_
    simpa only [List.append_assoc] using st
   refine⟨⟨q+1,bs'++(l'++c2),rfl,O_,⟨hN,hlen,by show s'.len=it.l.len+(q+1); omega,bs',l'++c2,rfl,hr7,?_⟩,st⟩,by show _ - _<_ - _; omega⟩
   rcases hcase with ⟨hp7,rfl⟩ | hb7
   ·rcases hor with hp | hsrc
    ·exact .inl (hp7.trans hp)
    ·exact .inr hsrc
   ·have hb7':l'=c1:=hb7
    subst hb7'
    refine .inr fun w0 l w st=> ?_
    rw [List.append_assoc] at st
    rcases hor with hp | hsrc
    ·exact zie zlb (hg.src st) hp rfl (by show it.l.len≤it.l.len+q; omega) hll
    ·exact hsrc w0 l w st.drop
  ·have hk:=of_decide_eq_false hk
   obtain rfl:q=70:=O_
   have hcell:w4.cell? ⟨b,0+8,none⟩=some (Vs t):=st.drop1.drop.cell 0 rfl hCt
   have st:St w0 (tb++((b,C)::(cs++((itsC d++itsC r)++l)))) w4:=by
    have h:=st.drop1.swap
    exact St.mid h
   have hlt:j*3+1<t.len*3:=O_
   obtain⟨a,wr,hset⟩:=ro.setN (v:=Vs long) (i:=j*3+1) st hlt
   refine⟨rfl,t,hcell,a,O_,h,?_,fun w8 hw8=> ?_⟩
   ·rw [Int.toNat_natCast,Nat.add_assoc]; exact wr
   rw [Int.toNat_natCast,Nat.add_assoc] at hw8
   obtain⟨tb',ro',st⟩:=hset w8 hw8
   rw [zdh (cs:=cs) h1] at ro'
   have wj:IntKind.i64.wrap ((j:Int)+1)=((j+1:Nat):Int):=by rw [i64_in _ O_ O_]; omega
   rw [wj]
   have st:St w0 (cs++(((b,C)::tb')++((itsC d++itsC r)++l))) w8:=by
    have h:St w0 (((b,C)::tb')++(cs++((itsC d++itsC r)++l))) w8:=St.unmid st
    exact h.swap
   obtain⟨cs',o',st'⟩:=zBb.next (it:=⟨it.l,long,it.n,cs⟩) (Ph:=zWb) (Ph':=zGc) h1 h2 ro' h3 hg h4 st
   exact⟨⟨j+1,cs',rfl,O_,o',st'⟩,by show _ - _<_ - _; omega⟩
 ·have h:=of_decide_eq_false h
  have:j=m:=O_
  subst this
  obtain⟨its',hl',o'⟩:=o.done
  exact k its' cs _ o' hl' st
theorem s_Nb {R:Bool→WP} (ht:Tab w0.w) (o:zbb t its zGc cs) (st:St w0 ((b,C)::(cs++l)) w) (hCt:C[0+8]? =some (Vs t)) (hm:its.length≤2000000000)
    (k:∀ w',St w0 ((b,C)::(cs++l)) w'→R true w'):C_jb (some ⟨b,0,none⟩) w R:=by
 apply S_R
 unfold F_Kc
 generalize hml:its.length=m at *
 have hI:∀ j,j≤m→zBb t m j zGc zGc cs:=fun j hj=>by
  obtain⟨tb,ro,rfl,hph⟩:=o
  refine⟨its.take j,its.drop j,tb,by rw [List.length_take]; omega,by rw [List.length_take,List.length_drop]; omega,by rw [List.take_append_drop]; exact ro,by rw [List.take_append_drop],fun it hit=>hph it (List.mem_of_mem_take hit),fun it hit=>hph it (List.mem_of_mem_drop hit)⟩
 refine⟨fun i w'=>∃(j:Nat),i=(j:Int)∧j≤m∧St w0 ((b,C)::(cs++l)) w',fun i _=>m - i.toNat,⟨0,rfl,O_,st⟩,?_⟩
 clear st
 rintro i w1 ⟨j,rfl,hj,st⟩
 unfold F_ib
 have o:=hI j hj
 have htl:=o.len
 refine⟨rfl,t,st.cell 0 rfl hCt,fun h=> ?_,fun h=> ?_⟩
 ·have h:=of_decide_eq_true h
  obtain⟨d,it,r,tb,h1,h2,ro,h3,⟨hN,hlen,hll,c1,c2,hcs,hg,hor⟩,h4,ha,hc,sti⟩:=o.at_ st O_
  refine⟨rfl,t,st.cell 0 rfl hCt,ha,O_,h,⟨it.l,it.long,it.n⟩,?_,fun b1 w2 hb1 hw2=> ?_⟩
  ·rw [Int.toNat_natCast]; exact hc
  have sto:=st.alloc hb1 hw2
  have st:=sti.alloc hb1 hw2
  clear sti
  refine⟨st.writable 0 rfl (by simp),fun w3 hw3=> ?_⟩
  have sto:St w0 ((b1,zn it)::((b,C)::(cs++l))) w3:=sto.put0 hw3
  have st:St w0 ((b1,zn it)::(it.cs++(((b,C)::tb)++((itsC d++itsC r)++l)))) w3:=st.put0 hw3
  refine⟨it.long,st.cell 0 rfl rfl,it.l,st.cell 0 rfl rfl,fun hne=> ?_,fun _=> ?_⟩
  ·exfalso
   rw [hll,i64_in _ O_ O_] at hne
   simp at hne
  refine⟨fun k w'=>∃(q:Nat),k=(q:Int)∧q≤it.long.len∧St w0 ((b1,zn it)::((b,C)::(cs++l))) w'∧St w0 ((b1,zn it)::(it.cs++(((b,C)::tb)++((itsC d++itsC r)++l)))) w',fun k _=>it.long.len - k.toNat,⟨0,rfl,O_,sto,st⟩,?_⟩
  clear st sto
  rintro k4 w4 ⟨q,rfl,hq,sto,st⟩
  have hsrc:zh w4 it.long 2 ((List.replicate (it.l.len+70) (zT it.n)).flatMap zob)∧zh w4 it.l 2 ((List.replicate it.l.len (zT it.n)).flatMap zob):=by
   have s1:=st.drop1
   rw [hcs,List.append_assoc] at s1
   refine⟨hg.src s1,?_⟩
   rcases hor with hp | hsrc
   ·exact zie zlb (hg.src s1) hp rfl O_ hll
   ·exact hsrc _ _ _ s1.drop
  have rep:∀(s:Slc) (p i:Nat),zh w4 s 2 ((List.replicate p (zT it.n)).flatMap zob)→i<s.len→IsAt s.ptr∧ze w4 (pblk s.ptr) (poff s.ptr+i*2) (zob (zT it.n)):=fun s p i hs hi=>by
   obtain⟨a,x,hx,hc⟩:=zh.getN hs zlb D_ (i:=(i:Int)) O_ O_
   rw [Int.toNat_natCast] at hx hc
   rw [(List.mem_replicate.1 (List.mem_of_getElem? hx)).2] at hc
   exact⟨a,hc⟩
  unfold F_hb
  refine⟨it.long,st.cell 0 rfl rfl,fun hk=> ?_,fun hk=> ?_⟩
  ·have hk:=of_decide_eq_true hk
   obtain⟨a,hc1⟩:=rep it.long _ q hsrc.1 O_
   have wq:IntKind.i64.wrap ((q:Int)+1)=((q+1:Nat):Int):=by rw [i64_in _ O_ O_]; omega
   have fin:∀ w',Ext w4 w'→(∃(q':Nat),((q+1:Nat):Int)=(q':Int)∧q'≤it.long.len∧St w0 ((b1,zn it)::((b,C)::(cs++l))) w'∧St w0 ((b1,zn it)::(it.cs++(((b,C)::tb)++((itsC d++itsC r)++l)))) w'):=fun w' e=>⟨q+1,rfl,O_,sto.keep e,st.keep e⟩
   intro w6 hd6
   have e6:Ext w4 w6:=Qt.ext hd6
   have st6:=st.keep e6
   refine⟨it.long,st6.cell 0 rfl rfl,a,O_,hk,zT it.n,by rw [Int.toNat_natCast]; exact e6.cells hc1,it.n,st6.cell 0 rfl rfl,s_J hN (ht.ext st6.ext) fun w7 e7=>⟨fun hh=>(by cases hh),fun _=> ?_⟩⟩
   have st7:=st6.keep e7
   refine⟨it.l,st7.cell 0 rfl rfl,fun hk2=> ?_,fun hk2=> ?_⟩
   ·have hk2:=of_decide_eq_true hk2
    obtain⟨a2,hc2⟩:=rep it.l _ q hsrc.2 O_
    refine⟨it.l,st7.cell 0 rfl rfl,a2,O_,hk2,zT it.n,by rw [Int.toNat_natCast]; exact(e6.trans e7).cells hc2,it.n,st7.cell 0 rfl rfl,s_J hN (ht.ext st7.ext) fun w9 e9=> ?_⟩
    unfold F_e
    refine⟨fun hh=>(by cases hh),fun _=> ?_⟩
    rw [wq]
    exact⟨fin _ ((e6.trans e7).trans e9),by show _ - _<_ - _; omega⟩
   ·unfold F_e
    refine⟨fun hh=>(by cases hh),fun _=> ?_⟩
    rw [wq]
    exact⟨fin _ (e6.trans e7),by show _ - _<_ - _; omega⟩
  ·have wj:IntKind.i64.wrap ((j:Int)+1)=((j+1:Nat):Int):=by rw [i64_in _ O_ O_]; omega
   rw [wj]
   exact⟨⟨j+1,rfl,O_,sto.drop1⟩,by show _ - _<_ - _; omega⟩
 ·exact k _ st
end
section
variable {w0:Base} {w:World} {l:List zf} {C:List Value} {b:Nat}
theorem s_Ob {R:WP} (st:St w0 ((b,C)::l) w) (hC:C[0+1]? =some (Vs ⟨none,0,0⟩)) (k:R w):C_bb (some ⟨b,0,none⟩) w R:=by
 apply S_J
 unfold F_Cc
 refine⟨fun i w'=>i=0∧w'=w,fun _ _=>0,⟨rfl,rfl⟩,?_⟩
 rintro i w' ⟨rfl,rfl⟩
 unfold F_7
 exact⟨rfl,⟨none,0,0⟩,st.cell 0 rfl hC,fun h=>(by simp at h),fun _=>k⟩
theorem s_Pb {R:WP} (st:St w0 ((b,C)::l) w) (hC:C[0+1]? =some (Vs ⟨none,0,0⟩)) (k:R w):C_eb (some ⟨b,0,none⟩) w R:=by
 apply S_M
 unfold F_Fc
 refine⟨fun i w'=>i=0∧w'=w,fun _ _=>0,⟨rfl,rfl⟩,?_⟩
 rintro i w' ⟨rfl,rfl⟩
 unfold F_bb
 exact⟨rfl,⟨none,0,0⟩,st.cell 0 rfl hC,fun h=>(by simp at h),fun _=>k⟩
theorem s_Qb {R:Bool→WP} (st:St w0 ((b,C)::l) w) (hC:C[0+1]? =some (Vs ⟨none,0,0⟩)) (k:R true w):C_hb (some ⟨b,0,none⟩) w R:=by
 apply S_P
 unfold F_Ic
 refine⟨fun i w'=>i=0∧w'=w,fun _ _=>0,⟨rfl,rfl⟩,?_⟩
 rintro i w' ⟨rfl,rfl⟩
 unfold F_fb
 exact⟨rfl,⟨none,0,0⟩,st.cell 0 rfl hC,fun h=>(by simp at h),fun _=>k⟩
theorem s_Rb {R:WP} (st:St w0 ((b,C)::l) w) (hC:C[0+3]? =some (Vs ⟨none,0,0⟩)) (k:R w):C_cb (some ⟨b,0,none⟩) w R:=by
 apply S_K
 unfold F_Dc
 refine⟨fun i w'=>i=0∧w'=w,fun _ _=>0,⟨rfl,rfl⟩,?_⟩
 rintro i w' ⟨rfl,rfl⟩
 unfold F_8
 exact⟨rfl,⟨none,0,0⟩,st.cell 0 rfl hC,fun h=>(by simp at h),fun _=>k⟩
theorem s_Sb {R:WP} (st:St w0 ((b,C)::l) w) (hC:C[0+3]? =some (Vs ⟨none,0,0⟩)) (k:R w):C_fb (some ⟨b,0,none⟩) w R:=by
 apply S_N
 unfold F_Gc
 refine⟨fun i w'=>i=0∧w'=w,fun _ _=>0,⟨rfl,rfl⟩,?_⟩
 rintro i w' ⟨rfl,rfl⟩
 unfold F_cb
 exact⟨rfl,⟨none,0,0⟩,st.cell 0 rfl hC,fun h=>(by simp at h),fun _=>k⟩
theorem s_Tb {R:Bool→WP} (st:St w0 ((b,C)::l) w) (hC:C[0+3]? =some (Vs ⟨none,0,0⟩)) (k:R true w):C_ib (some ⟨b,0,none⟩) w R:=by
 apply S_Q
 unfold F_Jc
 refine⟨fun i w'=>i=0∧w'=w,fun _ _=>0,⟨rfl,rfl⟩,?_⟩
 rintro i w' ⟨rfl,rfl⟩
 unfold F_gb
 exact⟨rfl,⟨none,0,0⟩,st.cell 0 rfl hC,fun h=>(by simp at h),fun _=>k⟩
theorem s_vb {R:WP} (st:St w0 ((b,C)::l) w) (hC:C[0+4]? =some (Vs ⟨none,0,0⟩)) (k:R w):C_V (some ⟨b,0,none⟩) w R:=by
 apply S_A
 unfold F_lc
 refine⟨fun i w'=>i=0∧w'=w,fun _ _=>0,⟨rfl,rfl⟩,?_⟩
 rintro i w' ⟨rfl,rfl⟩
 unfold F_W
 exact⟨rfl,⟨none,0,0⟩,st.cell 0 rfl hC,fun h=>(by simp at h),fun _=>k⟩
theorem s_wb {R:WP} (st:St w0 ((b,C)::l) w) (hC:C[0+4]? =some (Vs ⟨none,0,0⟩)) (k:R w):C_Y (some ⟨b,0,none⟩) w R:=by
 apply S_D
 unfold F_oc
 refine⟨fun i w'=>i=0∧w'=w,fun _ _=>0,⟨rfl,rfl⟩,?_⟩
 rintro i w' ⟨rfl,rfl⟩
 unfold F_Z
 exact⟨rfl,⟨none,0,0⟩,st.cell 0 rfl hC,fun h=>(by simp at h),fun _=>k⟩
theorem s_xb {R:Bool→WP} (st:St w0 ((b,C)::l) w) (hC:C[0+4]? =some (Vs ⟨none,0,0⟩)) (k:R true w):C_1 (some ⟨b,0,none⟩) w R:=by
 apply S_G
 unfold F_rc
 refine⟨fun i w'=>i=0∧w'=w,fun _ _=>0,⟨rfl,rfl⟩,?_⟩
 rintro i w' ⟨rfl,rfl⟩
 unfold F_2
 exact⟨rfl,⟨none,0,0⟩,st.cell 0 rfl hC,fun h=>(by simp at h),fun _=>k⟩
theorem s_yb {R:WP} (st:St w0 ((b,C)::l) w) (hC:C[0+5]? =some (Vs ⟨none,0,0⟩)) (k:R w):C_W (some ⟨b,0,none⟩) w R:=by
 apply S_B
 unfold F_mc
 refine⟨fun i w'=>i=0∧w'=w,fun _ _=>0,⟨rfl,rfl⟩,?_⟩
 rintro i w' ⟨rfl,rfl⟩
 unfold F_X
 exact⟨rfl,⟨none,0,0⟩,st.cell 0 rfl hC,fun h=>(by simp at h),fun _=>k⟩
theorem s_zb {R:WP} (st:St w0 ((b,C)::l) w) (hC:C[0+5]? =some (Vs ⟨none,0,0⟩)) (k:R w):C_Z (some ⟨b,0,none⟩) w R:=by
 apply S_E
 unfold F_pc
 refine⟨fun i w'=>i=0∧w'=w,fun _ _=>0,⟨rfl,rfl⟩,?_⟩
 rintro i w' ⟨rfl,rfl⟩
 unfold F_0
 exact⟨rfl,⟨none,0,0⟩,st.cell 0 rfl hC,fun h=>(by simp at h),fun _=>k⟩
theorem s_Ab {R:Bool→WP} (st:St w0 ((b,C)::l) w) (hC:C[0+5]? =some (Vs ⟨none,0,0⟩)) (k:R true w):C_2 (some ⟨b,0,none⟩) w R:=by
 apply S_H
 unfold F_sc
 refine⟨fun i w'=>i=0∧w'=w,fun _ _=>0,⟨rfl,rfl⟩,?_⟩
 rintro i w' ⟨rfl,rfl⟩
 unfold F_3
 exact⟨rfl,⟨none,0,0⟩,st.cell 0 rfl hC,fun h=>(by simp at h),fun _=>k⟩
theorem s_oc {R:WP} (st:St w0 ((b,C)::l) w) (hC:C[0+7]? =some (Vs ⟨none,0,0⟩)) (k:R w):C_rb (some ⟨b,0,none⟩) w R:=by
 apply S_W
 unfold F_Uc
 refine⟨fun i w'=>i=0∧w'=w,fun _ _=>0,⟨rfl,rfl⟩,?_⟩
 rintro i w' ⟨rfl,rfl⟩
 unfold F_nb
 exact⟨rfl,⟨none,0,0⟩,st.cell 0 rfl hC,fun h=>(by simp at h),fun _=>k⟩
theorem s_pc {R:WP} (st:St w0 ((b,C)::l) w) (hC:C[0+7]? =some (Vs ⟨none,0,0⟩)) (k:R w):C_tb (some ⟨b,0,none⟩) w R:=by
 apply S_Y
 unfold F_Wc
 refine⟨fun i w'=>i=0∧w'=w,fun _ _=>0,⟨rfl,rfl⟩,?_⟩
 rintro i w' ⟨rfl,rfl⟩
 unfold F_qb
 exact⟨rfl,⟨none,0,0⟩,st.cell 0 rfl hC,fun h=>(by simp at h),fun _=>k⟩
theorem s_qc {R:Bool→WP} (st:St w0 ((b,C)::l) w) (hC:C[0+7]? =some (Vs ⟨none,0,0⟩)) (k:R true w):C_vb (some ⟨b,0,none⟩) w R:=by
 apply S_0
 unfold F_Yc
 refine⟨fun i w'=>i=0∧w'=w,fun _ _=>0,⟨rfl,rfl⟩,?_⟩
 rintro i w' ⟨rfl,rfl⟩
 unfold F_tb
 exact⟨rfl,⟨none,0,0⟩,st.cell 0 rfl hC,fun h=>(by simp at h),fun _=>k⟩
theorem s_Q {R:WP} (st:St w0 ((b,C)::l) w) (hC:C[0+9]? =some (Vs ⟨none,0,0⟩)) (k:R w):C_D (some ⟨b,0,none⟩) w R:=by
 apply S_o
 unfold F_Wb
 refine⟨fun i w'=>i=0∧w'=w,fun _ _=>0,⟨rfl,rfl⟩,?_⟩
 rintro i w' ⟨rfl,rfl⟩
 unfold F_y
 exact⟨rfl,⟨none,0,0⟩,st.cell 0 rfl hC,fun h=>(by simp at h),fun _=>k⟩
theorem s_R {R:WP} (st:St w0 ((b,C)::l) w) (hC:C[0+9]? =some (Vs ⟨none,0,0⟩)) (k:R w):C_E (some ⟨b,0,none⟩) w R:=by
 apply S_p
 unfold F_Xb
 refine⟨fun i w'=>i=0∧w'=w,fun _ _=>0,⟨rfl,rfl⟩,?_⟩
 rintro i w' ⟨rfl,rfl⟩
 unfold F_z
 exact⟨rfl,⟨none,0,0⟩,st.cell 0 rfl hC,fun h=>(by simp at h),fun _=>k⟩
theorem s_S {R:Bool→WP} (st:St w0 ((b,C)::l) w) (hC:C[0+9]? =some (Vs ⟨none,0,0⟩)) (k:R true w):C_F (some ⟨b,0,none⟩) w R:=by
 apply S_q
 unfold F_Yb
 refine⟨fun i w'=>i=0∧w'=w,fun _ _=>0,⟨rfl,rfl⟩,?_⟩
 rintro i w' ⟨rfl,rfl⟩
 unfold F_A
 exact⟨rfl,⟨none,0,0⟩,st.cell 0 rfl hC,fun h=>(by simp at h),fun _=>k⟩
theorem s_Bb {R:WP} (st:St w0 ((b,C)::l) w) (hC:C[0+10]? =some (Vs ⟨none,0,0⟩)) (k:R w):C_X (some ⟨b,0,none⟩) w R:=by
 apply S_C
 unfold F_nc
 refine⟨fun i w'=>i=0∧w'=w,fun _ _=>0,⟨rfl,rfl⟩,?_⟩
 rintro i w' ⟨rfl,rfl⟩
 unfold F_Y
 exact⟨rfl,⟨none,0,0⟩,st.cell 0 rfl hC,fun h=>(by simp at h),fun _=>k⟩
theorem s_Cb {R:WP} (st:St w0 ((b,C)::l) w) (hC:C[0+10]? =some (Vs ⟨none,0,0⟩)) (k:R w):C_0 (some ⟨b,0,none⟩) w R:=by
 apply S_F
 unfold F_qc
 refine⟨fun i w'=>i=0∧w'=w,fun _ _=>0,⟨rfl,rfl⟩,?_⟩
 rintro i w' ⟨rfl,rfl⟩
 unfold F_1
 exact⟨rfl,⟨none,0,0⟩,st.cell 0 rfl hC,fun h=>(by simp at h),fun _=>k⟩
theorem s_Db {R:Bool→WP} (st:St w0 ((b,C)::l) w) (hC:C[0+10]? =some (Vs ⟨none,0,0⟩)) (k:R true w):C_3 (some ⟨b,0,none⟩) w R:=by
 apply S_I
 unfold F_tc
 refine⟨fun i w'=>i=0∧w'=w,fun _ _=>0,⟨rfl,rfl⟩,?_⟩
 rintro i w' ⟨rfl,rfl⟩
 unfold F_4
 exact⟨rfl,⟨none,0,0⟩,st.cell 0 rfl hC,fun h=>(by simp at h),fun _=>k⟩
theorem s_7 {R:WP} (st:St w0 ((b,C)::l) w) (hC:C[0+11]? =some (Vs ⟨none,0,0⟩)) (k:R w):C_O (some ⟨b,0,none⟩) w R:=by
 apply S_w
 unfold F_ec
 refine⟨fun i w'=>i=0∧w'=w,fun _ _=>0,⟨rfl,rfl⟩,?_⟩
 rintro i w' ⟨rfl,rfl⟩
 unfold F_Q
 exact⟨rfl,⟨none,0,0⟩,st.cell 0 rfl hC,fun h=>(by simp at h),fun _=>k⟩
theorem s_8 {R:WP} (st:St w0 ((b,C)::l) w) (hC:C[0+11]? =some (Vs ⟨none,0,0⟩)) (k:R w):C_P (some ⟨b,0,none⟩) w R:=by
 apply S_x
 unfold F_fc
 refine⟨fun i w'=>i=0∧w'=w,fun _ _=>0,⟨rfl,rfl⟩,?_⟩
 rintro i w' ⟨rfl,rfl⟩
 unfold F_R
 exact⟨rfl,⟨none,0,0⟩,st.cell 0 rfl hC,fun h=>(by simp at h),fun _=>k⟩
theorem s_9 {R:Bool→WP} (st:St w0 ((b,C)::l) w) (hC:C[0+11]? =some (Vs ⟨none,0,0⟩)) (k:R true w):C_Q (some ⟨b,0,none⟩) w R:=by
 apply S_y
 unfold F_gc
 refine⟨fun i w'=>i=0∧w'=w,fun _ _=>0,⟨rfl,rfl⟩,?_⟩
 rintro i w' ⟨rfl,rfl⟩
 unfold F_S
 exact⟨rfl,⟨none,0,0⟩,st.cell 0 rfl hC,fun h=>(by simp at h),fun _=>k⟩
end
def zeb (n:Int) (t0 t1 t2:Slc):List Value:=[Vi n,Vs ⟨none,0,0⟩,Vs t0,Vs ⟨none,0,0⟩,Vs ⟨none,0,0⟩,Vs ⟨none,0,0⟩,Vs t1,Vs ⟨none,0,0⟩,Vs t2,Vs ⟨none,0,0⟩,Vs ⟨none,0,0⟩,Vs ⟨none,0,0⟩]
theorem s_Ub {w0:Base} {w:World} {l cs0 cs1 cs2:List zf} {b:Nat} {n:Int} {t0 t1 t2:Slc} {its0 its1 its2:List Item} {R:Bool→WP} (ht:Tab w0.w) (o0:zbb t0 its0 zPb cs0) (hm0:its0.length≤2000000000) (o1:zbb t1 its1 zW cs1) (hm1:its1.length≤2000000000) (o2:zbb t2 its2 zwb cs2) (hm2:its2.length≤2000000000) (st:St w0 ((b,zeb n t0 t1 t2)::(cs0++(cs1++(cs2++l)))) w)
    (k:∀ cs0 cs1 cs2 w',St w0 ((b,zeb n t0 t1 t2)::(cs0++(cs1++(cs2++l)))) w'→R true w'):C_h (some ⟨b,0,none⟩) w R:=by
 apply S_gb
 unfold F_hd
 refine s_Ob st rfl ?_
 refine s_lc ht o0 st rfl O_ fun its0 cs0 w o0 hl0 st=> ?_
 have hm0:its0.length≤2000000000:=O_
 refine s_Rb st rfl ?_
 refine s_vb st rfl ?_
 refine s_yb st rfl ?_
 have st:St w0 ((b,zeb n t0 t1 t2)::(cs1++(cs0++(cs2++l)))) w:=st.pq
 refine s_Y ht o1 st rfl O_ fun its1 cs1 w o1 hl1 st=> ?_
 have hm1:its1.length≤2000000000:=O_
 have st:St w0 ((b,zeb n t0 t1 t2)::(cs0++(cs1++(cs2++l)))) w:=st.pq
 refine s_oc st rfl ?_
 have st:St w0 ((b,zeb n t0 t1 t2)::(cs2++(cs0++(cs1++l)))) w:=st.pq
 refine s_Lb ht o2 st rfl O_ fun its2 cs2 w o2 hl2 st=> ?_
 have hm2:its2.length≤2000000000:=O_
 have st:St w0 ((b,zeb n t0 t1 t2)::(cs0++(cs1++(cs2++l)))) w:=st.pq
 refine s_Q st rfl ?_
 refine s_Bb st rfl ?_
 refine s_7 st rfl ?_
 refine s_Pb st rfl ?_
 refine s_mc ht o0 st rfl O_ fun its0 cs0 w o0 hl0 st=> ?_
 have hm0:its0.length≤2000000000:=O_
 refine s_Sb st rfl ?_
 refine s_wb st rfl ?_
 refine s_zb st rfl ?_
 have st:St w0 ((b,zeb n t0 t1 t2)::(cs1++(cs0++(cs2++l)))) w:=st.pq
 refine s_Z ht o1 st rfl O_ fun its1 cs1 w o1 hl1 st=> ?_
 have hm1:its1.length≤2000000000:=O_
 have st:St w0 ((b,zeb n t0 t1 t2)::(cs0++(cs1++(cs2++l)))) w:=st.pq
 refine s_pc st rfl ?_
 have st:St w0 ((b,zeb n t0 t1 t2)::(cs2++(cs0++(cs1++l)))) w:=st.pq
 refine s_Mb ht o2 st rfl O_ fun its2 cs2 w o2 hl2 st=> ?_
 have hm2:its2.length≤2000000000:=O_
 have st:St w0 ((b,zeb n t0 t1 t2)::(cs0++(cs1++(cs2++l)))) w:=st.pq
 refine s_R st rfl ?_
 refine s_Cb st rfl ?_
 refine s_8 st rfl ?_
 refine s_Qb st rfl ?_
 refine⟨fun _=> ?_,fun h=>(by cases h)⟩
 refine s_nc ht o0 st rfl O_ fun w st=> ?_
 refine⟨fun _=> ?_,fun h=>(by cases h)⟩
 refine s_Tb st rfl ?_
 refine⟨fun _=> ?_,fun h=>(by cases h)⟩
 refine s_xb st rfl ?_
 refine⟨fun _=> ?_,fun h=>(by cases h)⟩
 refine s_Ab st rfl ?_
 refine⟨fun _=> ?_,fun h=>(by cases h)⟩
 have st:St w0 ((b,zeb n t0 t1 t2)::(cs1++(cs0++(cs2++l)))) w:=st.pq
 refine s_0 ht o1 st rfl O_ fun w st=> ?_
 have st:St w0 ((b,zeb n t0 t1 t2)::(cs0++(cs1++(cs2++l)))) w:=st.pq
 refine⟨fun _=> ?_,fun h=>(by cases h)⟩
 refine s_qc st rfl ?_
 refine⟨fun _=> ?_,fun h=>(by cases h)⟩
 have st:St w0 ((b,zeb n t0 t1 t2)::(cs2++(cs0++(cs1++l)))) w:=st.pq
 refine s_Nb ht o2 st rfl O_ fun w st=> ?_
 have st:St w0 ((b,zeb n t0 t1 t2)::(cs0++(cs1++(cs2++l)))) w:=st.pq
 refine⟨fun _=> ?_,fun h=>(by cases h)⟩
 refine s_S st rfl ?_
 refine⟨fun _=> ?_,fun h=>(by cases h)⟩
 refine s_Db st rfl ?_
 refine⟨fun _=> ?_,fun h=>(by cases h)⟩
 refine s_9 st rfl ?_
 exact k _ _ _ _ st
section
variable {w0:Base} {w:World} {l:List zf} {b:Nat} {n:Int} {t0 t1 t2:Slc} {its0 its1 its2:List Item} {cs0 cs1 cs2:List zf} {R:WP}
theorem s_ab {sl:Slc} {hs:List Hd} {hc:List zf} (o1:zbb t1 its1 zW cs1) (o2:zbb t2 its2 zwb cs2) (hh:HdsO sl hs hc)
    (st:St w0 ((b,zeb n t0 t1 t2)::(cs1++(cs2++(hc++l)))) w) (hn:0≤n∧n+hs.length≤1999999999) (h1:its1.length+hs.length≤1999999999) (h2:its2.length≤1999999999) (hb:∀ h∈hs,h.2.length≤1048576) (hl:hs.length≤16777216)
    (k:∀ t1' its1' cs1' t2' its2' cs2' w',zbb t1' its1' zW cs1'→its1'.length=its1.length+hs.length→zbb t2' its2' zwb cs2'→its2'.length=its2.length+1→St w0 ((b,zeb (n+hs.length+1) t0 t1' t2')::(cs1'++(cs2'++l))) w'→R w'):C_Cb (some ⟨b,0,none⟩) sl w R:=by
 apply S_ib
 obtain⟨vsl,tb,wb,rfl,r,ps⟩:=hh
 have hll:=ps.len
 have hzl:(hs.zip vsl).length=hs.length:=by rw [List.length_zip,hll,Nat.min_self]
 have hsl:sl.len=hs.length:=by have:=r.len; rw [zq (sz:=2) (fun _=>rfl),hzl] at this; omega
 refine⟨fun i w'=>∃(p:Nat) (t1:Slc) (its1':List Item) (cs1 wb:List zf),i=(p:Int)∧p≤sl.len∧zbb t1 its1' zW cs1∧its1'.length=its1.length+p∧zXb InV (hs.drop p) (vsl.drop p) wb∧St w0 ((b,zeb (n+p) t0 t1 t2)::(cs1++(cs2++(tb++(wb++l))))) w',fun i _=>sl.len - i.toNat,⟨0,t1,its1,cs1,wb,rfl,O_,o1,rfl,by simpa using ps,by simpa using st⟩,?_⟩
 clear st o1 ps
 rintro i w1 ⟨p,t1,its1',cs1,wb,rfl,hp,o1,hl1,ps,st⟩
 unfold F_Kb
 refine⟨fun hi=> ?_,fun hi=> ?_⟩
 ·have hi:=of_decide_eq_true hi
  have hpl:p<hs.length:=O_
  have st':St w0 (tb++((b,zeb (n+p) t0 t1 t2)::(cs1++(cs2++(wb++l))))) w1:=st.pq
  obtain⟨a,x,hx,hc⟩:=zh.getN (r.src st') (fun _=>rfl) D_ (i:=(p:Int)) O_ O_
  rw [Int.toNat_natCast] at hx hc
  obtain⟨hx1,hx2⟩:=List.getElem?_zip_eq_some.1 hx
  obtain⟨g1,g1'⟩:=List.getElem?_eq_some_iff.1 hx1
  obtain⟨g2,g2'⟩:=List.getElem?_eq_some_iff.1 hx2
  rw [List.drop_eq_getElem_cons g1,List.drop_eq_getElem_cons g2,g1',g2'] at ps
  obtain⟨c,wb',rfl,hi2,ps⟩:=ps.cons
  have wp:IntKind.i64.wrap ((p:Int)+1)=((p+1:Nat):Int):=by rw [i64_in _ O_ O_]; omega
  have hsm:=hb _ (List.mem_of_getElem? hx1)
  have hi2:RowC 3 x.2 (x.1.2.flatMap verV) c:=hi2
  have htw:x.2.len=x.1.2.length:=by have:=hi2.len; rw [zq (sz:=3) (fun _=>rfl)] at this; omega
  refine⟨a,O_,hi,x.2,by rw [Int.toNat_natCast]; exact hc.2.1,?_⟩
  have st2:St w0 ((b,zeb (n+p) t0 t1 t2)::(cs1++(c++(cs2++(tb++(wb'++l)))))) w1:=st.pq
  refine s_P o1 hi2 st2 rfl rfl O_ O_ O_ fun t1' its1'' cs1' w2 o1' hl1' st3=> ?_
  have st3:St w0 ((b,zeb (n+p+1) t0 t1' t2)::(cs1'++(cs2++(tb++(wb'++l))))) w2:=st3
  rw [wp]
  have e:n+((p+1:Nat):Int)=n+p+1:=O_
  exact⟨⟨p+1,t1',its1'',cs1',wb',rfl,O_,o1',O_,ps,by rw [e]; exact st3⟩,by show _ - _<_ - _; omega⟩
 ·have hi:=of_decide_eq_false hi
  obtain rfl:p=hs.length:=O_
  rw [List.drop_length,List.drop_of_length_le O_] at ps
  obtain rfl:wb=[]:=ps
  have st2:St w0 ((b,zeb (n+hs.length) t0 t1 t2)::(cs2++(tb++(cs1++l)))) w1:=st.pq
  refine s_Kb o2 r st2 rfl rfl O_ O_ O_ fun t2' its2' cs2' w2 o2' hl2 st3=> ?_
  have st3:St w0 ((b,zeb (n+hs.length+1) t0 t1 t2')::(cs2'++(cs1++l))) w2:=st3
  exact k t1 its1' cs1 t2' its2' cs2' w2 o1 hl1 o2' hl2 (st3.pq)
theorem s_q {sv:T_b} {xs:List Value} {hs:List Hd} {rb hc:List zf} (o0:zbb t0 its0 zPb cs0) (o1:zbb t1 its1 zW cs1) (o2:zbb t2 its2 zwb cs2) (ri:RowC 1 sv.Beyond xs rb) (hh:HdsO sv.Held hs hc)
    (st:St w0 ((b,zeb n t0 t1 t2)::(cs0++(cs1++(cs2++(rb++(hc++l)))))) w) (hn:0≤n∧n+hs.length≤1999999998) (h0:its0.length≤1999999999) (h1:its1.length+hs.length≤1999999999) (h2:its2.length≤1999999999) (hbl:sv.Beyond.len≤1099511627776) (hb:∀ h∈hs,h.2.length≤1048576) (hl:hs.length≤16777216)
    (k:∀ t0' its0' cs0' t1' its1' cs1' t2' its2' cs2' w',zbb t0' its0' zPb cs0'→its0'.length=its0.length+1→zbb t1' its1' zW cs1'→its1'.length=its1.length+hs.length→zbb t2' its2' zwb cs2'→its2'.length=its2.length+1→St w0 ((b,zeb (n+1+hs.length+1) t0' t1' t2')::(cs0'++(cs1'++(cs2'++l)))) w'→R w'):C_n (some ⟨b,0,none⟩) sv w R:=by
 apply S_hb
 unfold F_id
 intro b5 w1 hb5 hw1
 have st1:=st.alloc (cs:=svT sv) hb5 hw1
 refine⟨sv.Beyond,st1.cell 0 rfl rfl,?_⟩
 have st1:St w0 ((b,zeb n t0 t1 t2)::(cs0++(rb++((b5,svT sv)::(cs1++(cs2++(hc++l))))))) w1:=st1.pq
 refine s_Jb o0 ri st1 rfl rfl O_ O_ hbl fun t0' its0' cs0' w2 o0' hl0 st2=> ?_
 have st2:St w0 ((b,zeb (n+1) t0' t1 t2)::(cs0'++((b5,svT sv)::(cs1++(cs2++(hc++l)))))) w2:=st2
 have st2:St w0 ((b5,svT sv)::(b,zeb (n+1) t0' t1 t2)::(cs1++(cs2++(hc++(cs0'++l))))) w2:=st2.pq
 refine⟨sv.Held,st2.cell 0 rfl rfl,?_⟩
 refine s_ab o1 o2 hh st2.drop1 O_ h1 h2 hb hl fun t1' its1' cs1' t2' its2' cs2' w3 o1' hl1 o2' hl2 st3=> ?_
 exact k t0' its0' cs0' t1' its1' cs1' t2' its2' cs2' w3 o0' hl0 o1' hl1 o2' hl2 (st3.pq)
end
abbrev prC (d s r t:OA):List Value:=[Vp d,Vp s,Vp r,Vp t]
abbrev opV (o:T_e):List Value:=[Value.int .u8 o.Kind,Vi o.Saved.Mark,Vs o.Saved.Beyond,Vs o.Saved.Held,Vi o.Slot,Vi o.At,Vs o.B,Vi o.N]
def PrO (b:Nat) (n:Nat) (cs:List zf):Prop:=∃(d s r t:OA) (mo:Option DM) (so:Option SvrM) (bd br sb tb:List zf),
 cs=(b,prC d s r t)::(bd++(br++(sb++tb)))∧DpO d mo bd∧RpO r mo br∧wrX mo≤n∧SpO d s so sb∧SqO r t so tb∧SvD mo so
section
variable {w0:Base} {w:World} {fr cs:List zf} {b n:Nat} {o:T_e} {R:Bool→WP}
set_option maxHeartbeats 1000000 in
theorem s_rc {v:SvM} {os:List HO} (hT:Tab w0.w) (pr:PrO b n cs) (st:St w0 (cs++fr) w) (ha:SvAt w0.w o.Saved v os) (hS:o.Saved.Beyond.len+hsS os≤1048576) (hk:o.Kind=1)
    (k:∀ cs' w',PrO b n cs'→St w0 (cs'++fr) w'→R true w'):C_N (some ⟨b,0,none⟩) o w R:=by
 apply S_l
 unfold F_cc
 obtain⟨d,s,r,t,mo,so,bd,br,sb,tb,rfl,od,or,hw,os1,ot1,hsd⟩:=pr
 have hol:=ha.held.slen
 obtain⟨z1,z2,z3⟩:=z1i (os:=os) O_
 have hbl:v.bey.length=o.Saved.Beyond.len:=by have:=ha.bey.len_eq; omega
 have hml:v.held.length=os.length:=by rw [←ha.hos,List.length_map]
 have hmv:∀ h∈v.held,h.2.length≤1048576:=fun h hh=>by
  rw [←ha.hos] at hh
  obtain⟨x,hx,rfl⟩:=List.mem_map.1 hh
  exact(z2 x hx).2
 have henc:=zSl (v:=v) ha.hos O_
 intro bo w1 hbo hw1
 have st1:St w0 ((bo,opV o)::(b,prC d s r t)::(bd++(br++(sb++(tb++fr))))) w1:=(st.alloc (cs:=opV o) hbo hw1).pq
 refine⟨o.Kind,st1.cell 0 rfl rfl,fun _=> ?_,fun h=>(by rw [hk] at h; cases h)⟩
 refine⟨o.Saved,⟨st1.cell 0 rfl rfl,st1.cell 0 rfl rfl,st1.cell 0 rfl rfl,trivial⟩,?_⟩
 refine s_Hb st1 ha O_ O_ fun tw ts rb2 tb2 vb2 w2 tS st2 b1 w3 hb1 hw3=> ?_
 have st3:=st2.alloc (cs:=svT ⟨0,⟨none,0,0⟩,⟨none,0,0⟩⟩) hb1 hw3
 refine⟨st3.writable 0 rfl D_,fun w4 hw4 w5 hd5=> ?_⟩
 have st4:St w0 ((b1,svT tw)::(rb2++(tb2++(vb2++((bo,opV o)::(b,prC d s r t)::(bd++(br++(sb++(tb++fr))))))))) w4:=st3.put0 hw4
 have st5:=st4.drew hd5
 have stc:St w0 ((bo,opV o)::(b,prC d s r t)::(b1,svT tw)::(rb2++(tb2++(vb2++(bd++(br++(sb++(tb++fr)))))))) w5:=st5.pq
 refine⟨rfl,d,stc.cell 1 rfl rfl,tw,(stc.get 2 rfl).all,?_⟩
 have st6:St w0 (bd++(rb2++(tb2++(vb2++((bo,opV o)::(b,prC d s r t)::(b1,svT tw)::(br++(sb++(tb++fr)))))))) w5:=stc.pq
 refine s_Ad st6 od (os:=twO os ts) (fun l w' st'=> ?_) henc fun s' sb' w6 os' st7=> ?_
 ·have stx:St w0 (rb2++(tb2++(vb2++(l++((bo,opV o)::(b,prC d s r t)::(b1,svT tw)::(br++(sb++(tb++fr)))))))) w':=st'.pq
  exact tS.svA stx ha.hos O_ z1 fun x hx=>(z2 x hx).2
 intro w7 hd7
 have st7:=st7.drew hd7
 have stc:St w0 ((bo,opV o)::(b,prC d s r t)::(b1,svT tw)::(rb2++(tb2++(vb2++(bd++(sb'++(br++(sb++(tb++fr))))))))) w7:=st7.pq
 refine⟨rfl,r,stc.cell 1 rfl rfl,o.Saved,⟨stc.cell 0 rfl rfl,stc.cell 0 rfl rfl,stc.cell 0 rfl rfl,trivial⟩,?_⟩
 have st8:St w0 (br++((bo,opV o)::(b,prC d s r t)::(b1,svT tw)::(rb2++(tb2++(vb2++(bd++(sb'++(sb++(tb++fr))))))))) w7:=stc.pq
 refine s_Bd st8 or (fun l w' st'=>ha.ext st'.ext) henc fun t' tb' w8 ot' st9=> ?_
 have stc:St w0 ((bo,opV o)::(b,prC d s r t)::(b1,svT tw)::(rb2++(tb2++(vb2++(bd++(sb'++(br++(tb'++(sb++(tb++fr)))))))))) w8:=st9.pq
 refine⟨tw,(stc.get 2 rfl).all,o.Saved,⟨stc.cell 0 rfl rfl,stc.cell 0 rfl rfl,stc.cell 0 rfl rfl,trivial⟩,?_⟩
 have st10:St w0 (rb2++(tb2++(vb2++((bo,opV o)::(b,prC d s r t)::(b1,svT tw)::(bd++(sb'++(br++(tb'++(sb++(tb++fr)))))))))) w8:=stc.pq
 refine s_Ib tS st10 ha O_ O_ fun w9 st11 b2 w10 hb2 hw10=> ?_
 have st12:=st11.alloc (cs:=zeb 0 ⟨none,0,0⟩ ⟨none,0,0⟩ ⟨none,0,0⟩) hb2 hw10
 refine⟨st12.writable 0 rfl D_,fun w11 hw11=> ?_⟩
 have st13:St w0 ((b2,zeb 0 ⟨none,0,0⟩ ⟨none,0,0⟩ ⟨none,0,0⟩)::(rb2++(tb2++(vb2++((bo,opV o)::(b,prC d s r t)::(b1,svT tw)::(bd++(sb'++(br++(tb'++(sb++(tb++fr))))))))))) w11:=st12.put0 hw11
 have st13b:St w0 ((b1,svT tw)::(b2,zeb 0 ⟨none,0,0⟩ ⟨none,0,0⟩ ⟨none,0,0⟩)::([]++([]++([]++(rb2++((tb2++vb2)++((bo,opV o)::(b,prC d s r t)::(bd++(sb'++(br++(tb'++(sb++(tb++fr))))))))))))) w11:=st13.pq
 refine⟨tw,(st13b.get 0 rfl).all,?_⟩
 have hbl2:tw.Beyond.len=v.bey.length:=tS.bey.len
 refine s_q kind_new kind_new kind_new tS.bey.row (tS.hds ha.hos) st13b.drop1 O_ (by simp) (by simp; omega) (by simp) O_ hmv O_ fun t0' its0' cs0' t1' its1' cs1' t2' its2' cs2' w12 o0 l0 o1 l1 o2 l2 st14=> ?_
 simp only [List.length_nil] at l0 l1 l2
 obtain⟨N,hN⟩:∃ N:Int,N=0+1+(v.held.length:Int)+1:=⟨_,rfl⟩
 rw [←hN] at st14
 have st15:St w0 ((b,prC d s r t)::(b2,zeb N t0' t1' t2')::(cs0'++(cs1'++(cs2'++((bo,opV o)::(bd++(sb'++(br++(tb'++(sb++(tb++fr))))))))))) w12:=st14.pq
 refine⟨rfl,st15.writable 0 rfl (Nat.le_of_ble_eq_true rfl),fun w13 hw13=> ?_⟩
 have st16:St w0 ((b,prC d s' r t)::(b2,zeb N t0' t1' t2')::(cs0'++(cs1'++(cs2'++((bo,opV o)::(bd++(sb'++(br++(tb'++(sb++(tb++fr))))))))))) w13:=st15.put0 hw13
 refine⟨rfl,st16.writable 0 rfl (Nat.le_of_ble_eq_true rfl),fun w14 hw14=> ?_⟩
 have st17:St w0 ((b,prC d s' r t')::(b2,zeb N t0' t1' t2')::(cs0'++(cs1'++(cs2'++((bo,opV o)::(bd++(sb'++(br++(tb'++(sb++(tb++fr))))))))))) w14:=st16.put0 hw14
 rw [beq_self_eq_true,os'.isNone,ot'.isNone,beq_self_eq_true,Bool.true_and]
 refine⟨fun _=>⟨fun _=> ?_,fun h=>(by cases h)⟩,fun h=>(by cases h)⟩
 have st18:St w0 ((b2,zeb N t0' t1' t2')::(cs0'++(cs1'++(cs2'++((b,prC d s' r t')::(bo,opV o)::(bd++(sb'++(br++(tb'++(sb++(tb++fr))))))))))) w14:=st17.pq
 refine s_Ub hT o0 O_ o1 O_ o2 O_ st18 fun c0 c1 c2 w15 st19=> ?_
 refine k ((b,prC d s' r t')::(bd++(br++(sb'++tb')))) w15 ⟨d,s',r,t',mo,svrN mo v,bd,br,sb',tb',rfl,od,or,hw,os',ot',ztk mo v⟩ (st19.weak ((b2,zeb N t0' t1' t2')::(bo,opV o)::(c0++(c1++(c2++(sb++tb))))) (zc fun f_=>by simp <;> omega))
set_option maxHeartbeats 1000000 in
theorem s_Md {v:SvM} {os:List HO} {yl:List UInt8} (hT:Tab w0.w) (pr:PrO b n cs) (st:St w0 (cs++fr) w) (hn:n≤2000000) (ha:SvAt w0.w o.Saved v os) (hS:o.Saved.Beyond.len+hsS os≤1048576) (hs:zh w0.w o.B 1 (yl.map bV)) (hN:o.N≤9223372036854775807)
    (k:∀ cs' w',PrO b (n+1) cs'→St w0 (cs'++fr) w'→R true w'):C_N (some ⟨b,0,none⟩) o w R:=by
 by_cases hk:o.Kind=1
 ·refine s_rc hT pr st ha hS hk fun cs' w' pr' st'=>k cs' w' ?_ st'
  obtain⟨d,s,r,t,mo,so,bd,br,sb,tb,e,od,or,hw,x⟩:=pr'
  exact⟨d,s,r,t,mo,so,bd,br,sb,tb,e,od,or,O_,x⟩
 apply S_l
 unfold F_cc
 obtain⟨d,s,r,t,mo,so,bd,br,sb,tb,rfl,od,or,hw,os1,ot1,hsd⟩:=pr
 intro bo w1 hbo hw1
 have st1:St w0 ((bo,opV o)::(b,prC d s r t)::(bd++(br++(sb++(tb++fr))))) w1:=(st.alloc (cs:=opV o) hbo hw1).pq
 refine⟨o.Kind,st1.cell 0 rfl rfl,fun h=>absurd (beq_iff_eq.1 h) hk,fun _=>⟨fun _ w2 hd2=> ?_,fun _=>⟨fun _ w2 hd2=> ?_,fun _=>⟨fun _ w2 hd2=> ?_,fun _=>⟨fun _ w2 hd2=> ?_,fun _ w2 hd2=> ?_⟩⟩⟩⟩⟩
 all_goals
  have stc:=st1.drew hd2
  have std:St w0 (bd++((bo,opV o)::(b,prC d s r t)::(br++(sb++(tb++fr))))) w2:=stc.pq
 ·refine⟨rfl,d,stc.cell 1 rfl rfl,o.Slot,stc.cell 0 rfl rfl,o.At,stc.cell 0 rfl rfl,o.B,stc.cell 0 rfl rfl,rfl,r,stc.cell 1 rfl rfl,o.Slot,stc.cell 0 rfl rfl,o.At,stc.cell 0 rfl rfl,o.B,stc.cell 0 rfl rfl,?_⟩
  refine s_Kc std od O_ (fun l' w' st'=>st'.ext.src hs) fun bd' w3 od' st3=> ?_
  have stc:St w0 ((bo,opV o)::(b,prC d s r t)::(bd'++(br++(sb++(tb++fr))))) w3:=st3.pq
  have str:St w0 (br++((bo,opV o)::(b,prC d s r t)::(bd'++(sb++(tb++fr))))) w3:=stc.pq
  refine⟨stc.cell 0 rfl rfl,stc.cell 0 rfl rfl,stc.cell 0 rfl rfl,stc.cell 1 rfl rfl,s_Lc str or O_ (fun l' w' st'=>st'.ext.src hs) fun br' w4 or' st4=> ?_⟩
  rw [beq_self_eq_true]
  exact k ((b,prC d s r t)::(bd'++(br'++(sb++tb)))) w4 ⟨d,s,r,t,_,so,bd',br',sb,tb,rfl,od',or',by have:=z4i mo o.Slot o.At yl; omega,os1,ot1,fun h=>hsd (by cases mo with | none=>rfl | some m=>cases h)⟩ (st4.wq [(bo,opV o)])
 ·refine⟨rfl,d,stc.cell 1 rfl rfl,o.Slot,stc.cell 0 rfl rfl,rfl,r,stc.cell 1 rfl rfl,o.Slot,stc.cell 0 rfl rfl,?_⟩
  refine s_Mc std od O_ fun bd' w3 od' st3=> ?_
  have stc:St w0 ((bo,opV o)::(b,prC d s r t)::(bd'++(br++(sb++(tb++fr))))) w3:=st3.pq
  have str:St w0 (br++((bo,opV o)::(b,prC d s r t)::(bd'++(sb++(tb++fr))))) w3:=stc.pq
  refine⟨stc.cell 0 rfl rfl,stc.cell 1 rfl rfl,s_Nc str or O_ fun br' w4 or' st4=> ?_⟩
  rw [beq_self_eq_true]
  exact k ((b,prC d s r t)::(bd'++(br'++(sb++tb)))) w4 ⟨d,s,r,t,_,so,bd',br',sb,tb,rfl,od',or',by have:=z5i mo o.Slot; omega,os1,ot1,fun h=>hsd (by
   cases mo with
   | none=>rfl
   | some m=>unfold zVd at h; simp only at h; split at h <;> cases h)⟩ (st4.wq [(bo,opV o)])
 ·refine⟨rfl,d,stc.cell 1 rfl rfl,o.N,stc.cell 0 rfl rfl,rfl,r,stc.cell 1 rfl rfl,o.N,stc.cell 0 rfl rfl,?_⟩
  refine s_yd std od hN fun bd' w3 od' st3=> ?_
  have stc:St w0 ((bo,opV o)::(b,prC d s r t)::(bd'++(br++(sb++(tb++fr))))) w3:=st3.pq
  have str:St w0 (br++((bo,opV o)::(b,prC d s r t)::(bd'++(sb++(tb++fr))))) w3:=stc.pq
  refine⟨stc.cell 0 rfl rfl,stc.cell 1 rfl rfl,s_zd str or hN fun br' w4 or' st4=> ?_⟩
  rw [beq_self_eq_true]
  exact k ((b,prC d s r t)::(bd'++(br'++(sb++tb)))) w4 ⟨d,s,r,t,_,so,bd',br',sb,tb,rfl,od',or',by have:=zTl mo o.N; omega,os1,ot1,fun h=>hsd (by
   cases mo with
   | none=>rfl
   | some m=>unfold cutX at h; simp only at h; split at h <;> cases h)⟩ (st4.wq [(bo,opV o)])
 ·refine⟨rfl,d,stc.cell 1 rfl rfl,rfl,r,stc.cell 1 rfl rfl,?_⟩
  refine s_dd std od fun bd' w3 od' st3=> ?_
  have stc:St w0 ((bo,opV o)::(b,prC d s r t)::(bd'++(br++(sb++(tb++fr))))) w3:=st3.pq
  have str:St w0 (br++((bo,opV o)::(b,prC d s r t)::(bd'++(sb++(tb++fr))))) w3:=stc.pq
  refine⟨stc.cell 1 rfl rfl,s_ed str or fun br' w4 or' st4=> ?_⟩
  rw [beq_self_eq_true]
  exact k ((b,prC d s r t)::(bd'++(br'++(sb++tb)))) w4 ⟨d,s,r,t,_,so,bd',br',sb,tb,rfl,od',or',by have:=zsk mo; omega,os1,ot1,fun h=>hsd (by cases mo with | none=>rfl | some m=>cases h)⟩ (st4.wq [(bo,opV o)])
 ·refine⟨rfl,s,stc.cell 1 rfl rfl,rfl,t,stc.cell 1 rfl rfl,?_⟩
  have std:St w0 (bd++(sb++((bo,opV o)::(b,prC d s r t)::(br++(tb++fr))))) w2:=stc.pq
  refine s_ld std od os1 hsd O_ fun bd' sb' w3 od' os' st3=> ?_
  have stc:St w0 ((bo,opV o)::(b,prC d s r t)::(bd'++(br++(sb'++(tb++fr))))) w3:=st3.pq
  have str:St w0 (br++(tb++((bo,opV o)::(b,prC d s r t)::(bd'++(sb'++fr))))) w3:=stc.pq
  refine⟨stc.cell 1 rfl rfl,s_md str or ot1 hsd O_ fun br' tb' w4 or' ot' st4=> ?_⟩
  rw [beq_self_eq_true]
  exact k ((b,prC d s r t)::(bd'++(br'++(sb'++tb')))) w4 ⟨d,s,r,t,_,_,bd',br',sb',tb',rfl,od',or',by have:=zuk mo so; omega,os',ot',z6i hsd⟩ (st4.wq [(bo,opV o)])
end
section
variable {w:World} {a b:Slc}
theorem s_sc {xs:List T_c} {R:Bool→WP} (ha:zh w a 3 (xs.flatMap verT)) (hb:zh w b 3 (xs.flatMap verT)) (hl:a.len≤4611686018427387904)
    (k:∀ w',Ext w w'→R true w'):C_Ab a b w R:=by
 apply S_5
 unfold F_3c
 have la:=ha.1
 have lb:=hb.1
 rw [zq (sz:=3) (fun _=>rfl)] at la lb
 refine⟨fun h=>absurd h (by rw [bne_iff_ne]; omega),fun _=> ?_⟩
 refine⟨fun i w'=>Ext w w'∧∃ p:Nat,i=(p:Int)∧p≤a.len,fun i _=>a.len - i.toNat,⟨Ext.refl _,0,rfl,O_⟩,?_⟩
 rintro i w1 ⟨e,p,rfl,h1⟩
 unfold F_zb
 refine⟨fun hi=> ?_,fun _=>k w1 e⟩
 have hi:=of_decide_eq_true hi
 obtain⟨pa,x,hx,hc⟩:=zh.getN (e.src ha) (fun _=>rfl) D_ (i:=(p:Int)) O_ O_
 obtain⟨pb,y,hy,hd⟩:=zh.getN (e.src hb) (fun _=>rfl) D_ (i:=(p:Int)) O_ O_
 obtain rfl:x=y:=by rw [hx] at hy; exact Option.some.inj hy
 have wi:IntKind.i64.wrap ((p:Int)+1)=((p+1:Nat):Int):=by rw [i64_in _ O_ O_]; omega
 refine⟨pa,O_,hi,x,hc,pb,O_,O_,x,hd,fun w2 e2=>⟨fun hne=>(by rw [zej,beq_self_eq_true,beq_self_eq_true] at hne; cases hne),fun _=> ?_⟩⟩
 rw [wi]
 exact⟨⟨e.trans e2,p+1,rfl,O_⟩,by show _ - _<_ - _; omega⟩
theorem s_Vb {x y:T_d} {vs:List T_c} {R:Bool→WP} (hk:x.Key=y.Key) (ha:zh w x.Versions 3 (vs.flatMap verT)) (hb:zh w y.Versions 3 (vs.flatMap verT)) (hl:x.Versions.len≤4611686018427387904)
    (k:∀ w',Ext w w'→R true w'):C_5b x y w R:=by
 apply S_Nb
 unfold F_Md
 intro b w1 hb1 hw b1 w2 hb2 hw1
 have st2:St ⟨w,[]⟩ [(b1,hldT (y.Key,y.Versions)),(b,hldT (x.Key,x.Versions))] w2:=((St.start w).alloc (cs:=hldT (x.Key,x.Versions)) hb1 hw).alloc (cs:=hldT (y.Key,y.Versions)) hb2 hw1
 refine⟨x.Key,st2.cell 1 rfl rfl,y.Key,st2.cell 0 rfl rfl,fun _=>⟨x.Versions,st2.cell 1 rfl rfl,y.Versions,st2.cell 0 rfl rfl,?_⟩,fun h=> ?_⟩
 ·exact s_sc (st2.ext.src ha) (st2.ext.src hb) hl fun w3 e3=>k w3 (st2.keep e3).ext
 ·rw [hk,beq_self_eq_true] at h; cases h
/-- Two rows of held keys that say the same. -/
theorem s_Wb {xs ys:List (ByteArray×Slc)} {R:Bool→WP} (ha:zh w a 2 (xs.flatMap hldT)) (hb:zh w b 2 (ys.flatMap hldT)) (hl:a.len≤4611686018427387904) (hxy:xs.length=ys.length)
    (at_:∀(i:Nat) x y,xs[i]? =some x→ys[i]? =some y→x.1=y.1∧x.2.len≤4611686018427387904∧∃ vs:List T_c,zh w x.2 3 (vs.flatMap verT)∧zh w y.2 3 (vs.flatMap verT))
    (k:∀ w',Ext w w'→R true w'):C_R a b w R:=by
 apply S_Ab
 unfold F_Ad
 have la:=ha.1
 have lb:=hb.1
 rw [zq (sz:=2) (fun _=>rfl)] at la lb
 refine⟨fun h=>absurd h (by rw [bne_iff_ne]; omega),fun _=> ?_⟩
 refine⟨fun i w'=>Ext w w'∧∃ p:Nat,i=(p:Int)∧p≤a.len,fun i _=>a.len - i.toNat,⟨Ext.refl _,0,rfl,O_⟩,?_⟩
 rintro i w1 ⟨e,p,rfl,h1⟩
 unfold F_Qb
 refine⟨fun hi=> ?_,fun _=>k w1 e⟩
 have hi:=of_decide_eq_true hi
 obtain⟨pa,x,hx,hc⟩:=zh.getN (e.src ha) (fun _=>rfl) D_ (i:=(p:Int)) O_ O_
 obtain⟨pb,y,hy,hd⟩:=zh.getN (e.src hb) (fun _=>rfl) D_ (i:=(p:Int)) O_ O_
 rw [Int.toNat_natCast] at hx hy
 obtain⟨h3,h4,vs,h5,h6⟩:=at_ p x y hx hy
 have wi:IntKind.i64.wrap ((p:Int)+1)=((p+1:Nat):Int):=by rw [i64_in _ O_ O_]; omega
 refine⟨pa,O_,hi,⟨x.1,x.2⟩,hc,pb,O_,O_,⟨y.1,y.2⟩,hd,true,fun w' e'=> ?_,fun w2 e2=>⟨fun hne=>(by simp at hne),fun _=> ?_⟩⟩
 ·exact s_Vb (x:=⟨x.1,x.2⟩) (y:=⟨y.1,y.2⟩) h3 ((e.trans e').src h5) ((e.trans e').src h6) h4 fun w'' e''=>⟨rfl,e''⟩
 rw [wi]
 exact⟨⟨e.trans e2,p+1,rfl,O_⟩,by show _ - _<_ - _; omega⟩
end
section
variable {w:World}
theorem s_tc {s t:Slc} {xs:List Int} {R:Bool→WP} (h1:zh w s 1 (xs.map Vi)) (h2:zh w t 1 (xs.map Vi)) (hl:s.len≤17592186043904) (k:∀ w',Ext w w'→R true w'):C_2b s t w R:=by
 apply S_Jb
 unfold F_Id
 have l1:=h1.len_eq
 have l2:=h2.len_eq
 refine⟨fun h=> ?_,fun _=>⟨fun i w'=>∃ p:Nat,i=(p:Int)∧p≤s.len∧Ext w w',fun i _=>s.len - i.toNat,⟨0,rfl,O_,Ext.refl _⟩,?_⟩⟩
 ·have h:¬ ((s.len:Nat):Int)=((t.len:Nat):Int):=by simpa using h
  omega
 rintro i w1 ⟨p,rfl,hp,e⟩
 unfold F_Vb
 refine⟨fun hi=> ?_,fun hi=>k w1 e⟩
 have hi:=of_decide_eq_true hi
 obtain⟨a1,x1,hx1,hc1⟩:=zh.get (e.src h1) (i:=(p:Int)) O_ hi
 obtain⟨a2,x2,hx2,hc2⟩:=zh.get (e.src h2) (i:=(p:Int)) O_ O_
 obtain rfl:x1=x2:=by rw [hx1] at hx2; exact Option.some.inj hx2
 have wp:IntKind.i64.wrap ((p:Int)+1)=((p+1:Nat):Int):=by rw [i64_in _ O_ O_]; omega
 refine⟨a1,O_,hi,x1,hc1,a2,O_,O_,x1,hc2,fun w2 e2=>⟨fun h=>by simp at h,fun _=> ?_⟩⟩
 rw [wp]
 exact⟨⟨p+1,rfl,O_,e.trans e2⟩,by show _ - _<_ - _; omega⟩
end
theorem s_Xb {w:World} {a b:Slc} {hs:List Hd} {ca cb la lb:List zf} {wa wb:Base} {R:Bool→WP} (oa:HdsO a hs ca) (ob:HdsO b hs cb) (sa:St wa (ca++la) w) (sb:St wb (cb++lb) w) (hl:hs.length≤4611686018427387904) (hv:∀ h∈hs,h.2.length≤4611686018427387904)
    (k:∀ w',Ext w w'→R true w'):C_R a b w R:=by
 obtain⟨va,ta,pa,rfl,ra,psa⟩:=oa
 obtain⟨vb,tb,pb,rfl,rb,psb⟩:=ob
 have la1:=psa.len
 have lb1:=psb.len
 have za:((hs.zip va).flatMap fun p=>hdV p.1.1 p.2)=((hs.zip va).map fun p=>(p.1.1,p.2)).flatMap hldT:=by rw [List.flatMap_map]
 have zb:((hs.zip vb).flatMap fun p=>hdV p.1.1 p.2)=((hs.zip vb).map fun p=>(p.1.1,p.2)).flatMap hldT:=by rw [List.flatMap_map]
 have sra:=ra.src (show St wa (ta++(pa++la)) w from sa.pq)
 have srb:=rb.src (show St wb (tb++(pb++lb)) w from sb.pq)
 rw [za] at sra
 rw [zb] at srb
 have hal:a.len=hs.length:=by have:=sra.1; rw [zq (sz:=2) (fun _=>rfl),List.length_map,List.length_zip,la1,Nat.min_self] at this; omega
 refine s_Wb sra srb O_ (by rw [List.length_map,List.length_map,List.length_zip,List.length_zip,la1,lb1]) (fun i x y hx hy=> ?_) k
 rw [List.getElem?_map,Option.map_eq_some_iff] at hx hy
 obtain⟨p,hp,rfl⟩:=hx
 obtain⟨q,hq,rfl⟩:=hy
 obtain⟨p1,p2⟩:=List.getElem?_zip_eq_some.1 hp
 obtain⟨q1,q2⟩:=List.getElem?_zip_eq_some.1 hq
 have e:p.1=q.1:=by rw [p1] at q1; exact Option.some.inj q1
 obtain⟨xa,ca,ya,ea,ia⟩:=psa.at_ p1 p2
 obtain⟨xb,cb,yb,eb,ib⟩:=psb.at_ q1 q2
 subst ea eb
 have ia:RowC 3 p.2 (p.1.2.flatMap verV) ca:=ia
 have ib:RowC 3 q.2 (q.1.2.flatMap verV) cb:=ib
 have hpl:p.2.len=p.1.2.length:=by have:=ia.len; rw [zq (sz:=3) (fun _=>rfl)] at this; omega
 refine⟨congrArg (·.1) e,by have:=hv p.1 (List.mem_of_getElem? p1); show p.2.len≤_; omega,p.1.2,ia.src (show St wa (ca++(ta++(xa++(ya++la)))) w from sa.pq),?_⟩
 rw [e]
 exact ib.src (show St wb (cb++(tb++(xb++(yb++lb)))) w from sb.pq)
theorem s_Yb {w:World} {a b:T_b} {m:SvM} {ea ha eb hb la lb:List zf} {wa wb:Base} {R:Bool→WP} (oa:SavO a m ea ha) (ob:SavO b m eb hb) (sa:St wa (ea++(ha++la)) w) (sb:St wb (eb++(hb++lb)) w) (h1:m.bey.length≤1048576) (h2:m.held.length≤4611686018427387904) (hv:∀ h∈m.held,h.2.length≤4611686018427387904)
    (k:∀ w',Ext w w'→R true w'):C_Pb a b w R:=by
 apply S_ub
 unfold F_ud
 obtain⟨ma,ia,da⟩:=oa
 obtain⟨mb,ib,db⟩:=ob
 intro b1 w1 hb1 hw1 b2 w2 hb2 hw2
 have e1:Ext w w1:=Ext.new hw1
 have e2:Ext w1 w2:=Ext.new hw2
 have c1:ze w1 b1 0 (svT a):=(Blk.new hb1 hw1).all
 have c1:ze w2 b1 0 (svT a):=e2.cells c1
 have c2:ze w2 b2 0 (svT b):=(Blk.new hb2 hw2).all
 have e:=e1.trans e2
 have hal:a.Beyond.len=m.bey.length:=by have:=ia.len; rw [List.length_map,Nat.mul_one] at this; exact this.symm
 refine⟨a.Mark,c1.1,b.Mark,c2.1,fun _=> ?_,fun h=> ?_⟩
 rotate_left
 ·rw [ma,mb,beq_self_eq_true] at h; cases h
 refine⟨a.Beyond,c1.2.1,b.Beyond,c2.2.1,?_⟩
 refine s_tc (xs:=m.bey) (ia.src (sa.keep e)) (ib.src (sb.keep e)) O_ fun w3 e3=>⟨fun _=> ?_,fun h=>(by cases h)⟩
 have e':=e.trans e3
 have c1:=e3.cells c1
 have c2:=e3.cells c2
 refine⟨a.Held,c1.2.2.1,b.Held,c2.2.2.1,?_⟩
 have sa':St wa (ha++(ea++la)) w3:=(sa.keep e').pq
 have sb':St wb (hb++(eb++lb)) w3:=(sb.keep e').pq
 exact s_Xb da db sa' sb' h2 hv fun w4 e4=>k w4 (e'.trans e4)
section
variable {w0:Base} {w:World} {fr bs:List zf}
theorem s_Zb {a b:Slc} {xs ys:List UInt8} {R:Bool→WP} (ha:zh w a 1 (xs.map bV)) (hb:zh w b 1 (ys.map bV)) (hl:a.len≤4611686018427387904)
    (k:∀ w',Ext w w'→R (decide (xs=ys)) w'):C_Rb a b w R:=by
 apply S_vb
 unfold F_vd
 have la:=ha.len_eq
 have lb:=hb.len_eq
 refine⟨fun h=> ?_,fun h=> ?_⟩
 ·have h:xs.length≠ys.length:=by
    rw [la,lb] at h
    have:(xs.length:Int)≠(ys.length:Int):=by simpa using h
    omega
  have:=k w (Ext.refl _)
  rw [decide_eq_false (fun e=>h (by rw [e]))] at this
  exact this
 have h:xs.length=ys.length:=by
  rw [la,lb] at h
  have:(xs.length:Int)=(ys.length:Int):=by simpa using h
  omega
 refine⟨fun i w'=>Ext w w'∧0≤i∧i≤a.len∧∀ j,j<i.toNat→xs[j]? =ys[j]?,fun i _=>a.len - i.toNat,⟨Ext.refl _,O_,O_,fun j hj=>by omega⟩,?_⟩
 rintro i w1 ⟨e,h0,h1,hj⟩
 unfold F_Mb
 refine⟨fun hi=> ?_,fun hi=> ?_⟩
 ·have hi:=of_decide_eq_true hi
  obtain⟨pa,x,hx,hc⟩:=(e.src ha).get h0 hi
  obtain⟨pb,y,hy,hd⟩:=(e.src hb).get h0 (show i<((b.len:Nat):Int) by omega)
  have wi:IntKind.i64.wrap (i+1)=i+1:=zkd h0 hi O_
  refine⟨pa,h0,hi,_,hc,pb,h0,O_,_,hd,fun w2 e2=>⟨fun hne=> ?_,fun heq=> ?_⟩⟩
  ·have hne:x≠y:=fun e=>by rw [e] at hne; simp at hne
   have:=k w2 (e.trans e2)
   rw [decide_eq_false (fun e=>hne (by rw [e,hy] at hx; exact(Option.some.inj hx).symm))] at this
   exact this
  ·have heq:x=y:=by
     have:(x.toNat:Int)=(y.toNat:Int):=by simpa using heq
     exact UInt8.toNat_inj.1 O_
   rw [wi]
   refine⟨⟨e.trans e2,O_,O_,fun j hjlt=> ?_⟩,by show _ - _<_ - _; omega⟩
   rw [zMc h0] at hjlt
   by_cases hji:j=i.toNat
   ·rw [hji,hx,hy,heq]
   ·exact hj j O_
 ·have hi:=of_decide_eq_false hi
  have:=k w1 e
  rw [decide_eq_true (List.ext_getElem? fun j=>by
   by_cases hjl:j<xs.length
   ·exact hj j O_
   ·rw [List.getElem?_eq_none O_,List.getElem?_eq_none O_])] at this
  exact this
end
def BkS (b q:Nat) (cs:List zf):Prop:=∃(n:Int) (t0 t1 t2:Slc) (its0 its1 its2:List Item) (cs0 cs1 cs2:List zf),cs=(b,zeb n t0 t1 t2)::(cs0++(cs1++cs2))∧zbb t0 its0 zPb cs0∧its0.length≤q∧zbb t1 its1 zW cs1∧its1.length≤16777216*q ∧
 zbb t2 its2 zwb cs2∧its2.length≤q∧0≤n∧n≤16777218*(q:Int)
theorem BkS.new {b:Nat}:BkS b 0 [(b,zeb 0 ⟨none,0,0⟩ ⟨none,0,0⟩ ⟨none,0,0⟩)]:=⟨0,_,_,_,[],[],[],[],[],[],rfl,kind_new,Nat.le_refl _,kind_new,Nat.le_refl _,kind_new,Nat.le_refl _,Int.le_refl _,Int.le_refl _⟩
section
variable {w0:Base} {w:World} {fr cs kb:List zf} {b bk n q:Nat} {R:Bool→WP}
theorem BkS.apart (hT:Tab w0.w) (h:BkS bk q kb) (hq:q≤17) (st:St w0 (kb++fr) w) (k:∀ kb' w',St w0 (kb'++fr) w'→R true w'):C_h (some ⟨bk,0,none⟩) w R:=by
 obtain⟨N,t0,t1,t2,its0,its1,its2,cs0,cs1,cs2,rfl,o0,l0,o1,l1,o2,l2,n0,n1⟩:=h
 have st':St w0 ((bk,zeb N t0 t1 t2)::(cs0++(cs1++(cs2++fr)))) w:=st.pq
 exact s_Ub hT o0 O_ o1 O_ o2 O_ st' fun c0 c1 c2 w' st''=>k ((bk,zeb N t0 t1 t2)::(c0++(c1++c2))) w' (st''.pq)
theorem BkS.saved {sv:T_b} {m:SvM} {eb hc:List zf} {R:WP} (h:BkS bk q kb) (hq:q≤17) (o:SavO sv m eb hc) (hs:zZc m) (st:St w0 (kb++(eb++(hc++fr))) w) (k:∀ kb' w',BkS bk (q+1) kb'→St w0 (kb'++fr) w'→R w'):C_n (some ⟨bk,0,none⟩) sv w R:=by
 obtain⟨N,t0,t1,t2,its0,its1,its2,cs0,cs1,cs2,rfl,o0,l0,o1,l1,o2,l2,n0,n1⟩:=h
 obtain⟨s1,s2,s3⟩:=hs
 obtain⟨ma,ia,da⟩:=o
 have hal:sv.Beyond.len=m.bey.length:=by have:=ia.len; rw [List.length_map,Nat.mul_one] at this; exact this.symm
 have st':St w0 ((bk,zeb N t0 t1 t2)::(cs0++(cs1++(cs2++(eb++(hc++fr)))))) w:=st.pq
 refine s_q o0 o1 o2 ia da st' O_ O_ O_ O_ O_ s3 s2 fun t0' its0' cs0' t1' its1' cs1' t2' its2' cs2' w' p0 k0 p1 k1 p2 k2 st''=> ?_
 exact k ((bk,zeb (N+1+m.held.length+1) t0' t1' t2')::(cs0'++(cs1'++cs2'))) w' ⟨_,t0',t1',t2',its0',its1',its2',cs0',cs1',cs2',rfl,p0,O_,p1,O_,p2,O_,O_,O_⟩ (st''.pq)
set_option maxHeartbeats 2000000 in
theorem s_0b (pr:PrO b n cs) (hk:BkS bk q kb) (hq:q≤17) (st:St w0 (cs++(kb++fr)) w)
    (k:∀ kb' w',BkS bk (q+1) kb'→St w0 (cs++(kb'++fr)) w'→R true w'):C_H (some ⟨b,0,none⟩) (some ⟨bk,0,none⟩) w R:=by
 apply S_ob
 unfold F_gd
 obtain⟨d,s,r,t,mo,so,bd,br,sb,tb,rfl,od,or,hw,os1,ot1,hsd⟩:=pr
 have hsm:=zHi od
 obtain⟨C,hC⟩:∃ C,C=(b,prC d s r t):=⟨_,rfl⟩
 have stc:St w0 (C::(bd++(br++(sb++(tb++(kb++fr)))))) w:=by subst hC; exact st.pq
 have cel:∀ {l:List zf} {w':World} {i:Nat} {v:Value},St w0 (C::l) w'→(prC d s r t)[i]? =some v→w'.cell? ⟨b,i,none⟩=some v:=fun {l w' i v} st' hi=>by subst hC; exact st'.cell 0 rfl hi
 refine⟨rfl,d,cel stc rfl,?_⟩
 have st1:St w0 (bd++(C::(br++(sb++(tb++(kb++fr)))))) w:=stc.pq
 refine s_ic st1 od fun s1 eb hc w1 oS st1 b1 w2 hb1 hw2=> ?_
 have st2:=st1.alloc (cs:=svT ⟨0,⟨none,0,0⟩,⟨none,0,0⟩⟩) hb1 hw2
 refine⟨st2.writable 0 rfl D_,fun w3 hw3=> ?_⟩
 have st3:St w0 ((b1,svT s1)::(eb++(hc++(bd++(C::(br++(sb++(tb++(kb++fr))))))))) w3:=st2.put0 hw3
 have stc:St w0 (C::(b1,svT s1)::(eb++(hc++(bd++(br++(sb++(tb++(kb++fr)))))))) w3:=st3.pq
 refine⟨rfl,r,cel stc rfl,?_⟩
 have st4:St w0 (br++(C::(b1,svT s1)::(eb++(hc++(bd++(sb++(tb++(kb++fr)))))))) w3:=stc.pq
 refine s_jc st4 or fun s2 eb2 hc2 w4 oS2 st5 b2 w5 hb2 hw5=> ?_
 have st6:=st5.alloc (cs:=svT ⟨0,⟨none,0,0⟩,⟨none,0,0⟩⟩) hb2 hw5
 refine⟨st6.writable 0 rfl D_,fun w6 hw6 w14 hd14=> ?_⟩
 have st7:St w0 ((b2,svT s2)::(eb2++(hc2++(br++(C::(b1,svT s1)::(eb++(hc++(bd++(sb++(tb++(kb++fr))))))))))) w6:=st6.put0 hw6
 have st8:=st7.drew hd14
 have hcond:(((((((newX mo).gen:Nat):Int) != (((newX mo).gen:Nat):Int))||((newX mo).slot != (newX mo).slot))||(!((newX mo).ok==(newX mo).ok)))||(nwE mo != nwE mo))=false:=by simp
 rw [hcond]
 have stc:St w0 (C::(b1,svT s1)::(b2,svT s2)::(eb++(hc++(eb2++(hc2++(bd++(br++(sb++(tb++(kb++fr)))))))))) w14:=st8.pq
 refine⟨fun h=>(by cases h),fun _=>⟨s1,(stc.get 1 rfl).all,s2,(stc.get 2 rfl).all,?_⟩⟩
 have sa:St w0 (eb++(hc++(C::(b1,svT s1)::(b2,svT s2)::(eb2++(hc2++(bd++(br++(sb++(tb++(kb++fr)))))))))) w14:=stc.pq
 have sb':St w0 (eb2++(hc2++(C::(b1,svT s1)::(b2,svT s2)::(eb++(hc++(bd++(br++(sb++(tb++(kb++fr)))))))))) w14:=stc.pq
 refine s_Yb oS oS2 sa sb' (by have:=hsm.1; omega) (by have:=hsm.2.1; omega) (fun h hh=>by have:=hsm.2.2 h hh; omega) fun w15 e15=>⟨fun h=>(by cases h),fun _=> ?_⟩
 have stc:=stc.keep e15
 refine⟨rfl,s,cel stc rfl,rfl,t,cel stc rfl,?_⟩
 have st9:St w0 (sb++(C::(b1,svT s1)::(b2,svT s2)::(eb++(hc++(eb2++(hc2++(bd++(br++(tb++(kb++fr)))))))))) w15:=stc.pq
 refine s_jd st9 os1 ⟨cel stc rfl,?_⟩
 have st10:St w0 (tb++(C::(b1,svT s1)::(b2,svT s2)::(eb++(hc++(eb2++(hc2++(bd++(br++(sb++(kb++fr)))))))))) w15:=stc.pq
 refine s_kd st10 ot1 fun w17 st11=> ?_
 have stc:St w0 (C::(b1,svT s1)::(b2,svT s2)::(eb++(hc++(eb2++(hc2++(bd++(br++(sb++(tb++(kb++fr)))))))))) w17:=st11.pq
 have std:St w0 (bd++(C::(b1,svT s1)::(b2,svT s2)::(eb++(hc++(eb2++(hc2++(br++(sb++(tb++(kb++fr)))))))))) w17:=stc.pq
 have str:St w0 (br++(C::(b1,svT s1)::(b2,svT s2)::(eb++(hc++(eb2++(hc2++(bd++(sb++(tb++(kb++fr)))))))))) w17:=stc.pq
 refine⟨fun h=>absurd h (by simp),fun _=>⟨rfl,d,cel stc rfl,rfl,r,cel stc rfl,s_fd std od ⟨cel stc rfl,s_gd str or ⟨fun h=>absurd h (by simp),fun _=> ?_⟩⟩⟩⟩
 refine⟨rfl,d,cel stc rfl,rfl,r,cel stc rfl,s_gc std od ⟨cel stc rfl,s_hc str or ?_⟩⟩
 unfold F_d
 refine⟨fun h=>absurd h (by simp),fun _=> ?_⟩
 have stk:St w0 ((b1,svT s1)::(kb++(eb++(hc++(C::(b2,svT s2)::(eb2++(hc2++(bd++(br++(sb++(tb++fr))))))))))) w17:=stc.pq
 refine⟨s1,(stk.get 0 rfl).all,hk.saved hq oS hsm stk.drop1 fun kb' w8 hk' st12=> ?_⟩
 have st13:St w0 (C::(bd++(br++(sb++(tb++(kb'++fr)))))) w8:=st12.wq ((b2,svT s2)::(eb2++hc2))
 refine⟨fun i w'=>∃ p:Nat,i=(p:Int)∧p≤2∧St w0 (C::(bd++(br++(sb++(tb++(kb'++fr)))))) w',fun i _=>(2 - i).toNat,⟨0,rfl,O_,st13⟩,?_⟩
 clear st st1 st2 st3 st4 st5 st6 st7 st8 st9 st10 st11 st12 st13 stc std str stk sa sb'
 rintro i w9 ⟨p,rfl,hp,st⟩
 unfold F_Ib
 refine⟨fun hi=> ?_,fun _=>k kb' w9 hk' (by subst hC; exact st.pq)⟩
 have hi:=of_decide_eq_true hi
 have hp2:(p:Int)=0∨(p:Int)=1:=O_
 have wp:IntKind.i64.wrap ((p:Int)+1)=((p+1:Nat):Int):=by rw [i64_in _ O_ O_]; omega
 have std:St w0 (bd++(C::(br++(sb++(tb++(kb'++fr)))))) w9:=st.pq
 refine⟨rfl,d,cel st rfl,s_hd std od hp2 fun x rb w10 rx hxl st2=> ?_⟩
 have stc:St w0 (C::(rb++(bd++(br++(sb++(tb++(kb'++fr))))))) w10:=st2.pq
 have str:St w0 (br++(C::(rb++(bd++(sb++(tb++(kb'++fr))))))) w10:=stc.pq
 refine⟨rfl,r,cel stc rfl,s_id str or hp2 fun y hy=>⟨fun h=>absurd h (by simp),fun _=> ?_⟩⟩
 refine s_Zb (rx.src st2) hy O_ fun w11 e11=> ?_
 rw [decide_eq_true rfl]
 unfold F_I
 refine⟨fun h=>(by cases h),fun _=> ?_⟩
 rw [wp]
 exact⟨⟨p+1,rfl,O_,(stc.keep e11).wq rb⟩,by show Int.toNat _<Int.toNat _; omega⟩
end
section
variable {w:World}
theorem zGf:∀ {hs:List T_d},(∀ x∈hs,O_c w x)→∃ os:List HO,os.length=hs.length∧(os.flatMap hoT=hs.flatMap fun x=>hldT (x.Key,x.Versions)) ∧
    ∀ o∈os,(zh w o.2.2 3 (o.2.1.flatMap verT)∧o.2.2.len*32≤140737488351232)∧o.1.size≤140737488351232∧∀ v∈o.2.1,v.Val.size≤140737488351232
 | [],_=>⟨[],rfl,rfl,fun o h=>(by cases h)⟩
 | x::hs,h=>by
  obtain⟨os,h0,h1,h2⟩:=zGf (hs:=hs) fun y hy=>h y (List.mem_cons_of_mem _ hy)
  obtain⟨hk,hx⟩:=h x (List.mem_cons_self ..)
  obtain⟨vs,g1,g2,g3,g4,g5⟩:=zag (f:=verT) (Pr:=O_b w) hx (fun es ⟨e,he,hb⟩=>⟨e,he,hb⟩) (fun _=>rfl) D_
  refine⟨(x.Key,vs,x.Versions)::os,by rw [List.length_cons,List.length_cons,h0],by rw [List.flatMap_cons,List.flatMap_cons,h1],fun o ho=> ?_⟩
  rcases List.mem_cons.1 ho with rfl | ho
  ·exact⟨⟨g1,by show x.Versions.len*32≤_; omega⟩,hk,fun v hv=>(g5 v hv).2.1⟩
  ·exact h2 o ho
theorem zQt {x:T_b} (h:O_d w x):∃ m os,SvAt w x m os∧SzOk os:=by
 obtain⟨_,hb,hh⟩:=h
 obtain⟨xs,b1,b2,b3,b4,b5⟩:=zag (f:=fun x:Int=>[Vi x]) (Pr:=fun e_:Int=> -9223372036854775808≤e_∧e_≤9223372036854775807) hb (fun es ⟨e,he,hb⟩=>⟨e,he,hb⟩) (fun _=>rfl) D_
 obtain⟨hs,h1,h2,h3,h4,h5⟩:=zag (f:=fun x:T_d=>hldT (x.Key,x.Versions)) (Pr:=O_c w) hh (fun es ⟨e,he,hb⟩=>⟨e,he,hb⟩) (fun _=>rfl) D_
 obtain⟨os,g0,g1,g2⟩:=zGf h5
 have e:∀ xs:List Int,(xs.flatMap fun x=>[Vi x])=xs.map Vi:=fun xs=>by
  induction xs with
  | nil=>rfl
  | cons a r ih=>rw [List.flatMap_cons,List.map_cons,ih]; rfl
 refine⟨⟨x.Mark,xs,os.map hoD⟩,os,⟨rfl,by rw [←e]; exact b1,⟨by rw [g1]; exact h1,fun o ho=>(g2 o ho).1⟩,rfl,O_,O_,fun o ho=>by have:=(g2 o ho).1.2; omega⟩,fun o ho=>(g2 o ho).2⟩
end
theorem s_Pc {w:World} {s:Slc} {ops:List T_e} {R:Bool→WP} (hs:zh w s 8 (ops.flatMap opV)) (hl:s.len≤140737488351232) (hok:∀ o∈ops,O_a w o)
    (k1:∀ w',Ext w w'→R true w') (k0:∀ w',Ext w w'→s.len≤1048576→(∀ o∈ops,∃ v os,SvAt w o.Saved v os∧o.Saved.Beyond.len+hsS os≤1048576)→R false w'):C_ac s w R:=by
 apply S_Xb
 refine⟨fun n i w'=>∃ p q:Nat,i=(p:Int)∧n=(q:Int)∧p≤s.len∧p≤q∧q≤1048576∧Ext w w'∧∀(j:Nat) (o:T_e),j<p→ops[j]? =some o→∃ v os,SvAt w o.Saved v os∧o.Saved.Beyond.len+hsS os≤1048576,
  fun _ i _=>s.len - i.toNat,⟨0,0,rfl,rfl,O_,O_,O_,Ext.refl _,fun j o h=>by omega⟩,?_⟩
 rintro n i w1 ⟨p,q,rfl,rfl,hp,hpq,hq,e,hall⟩
 unfold F_bc
 have hol:ops.length=s.len:=by have:=hs.1; rw [zq (sz:=8) (fun _=>rfl)] at this; omega
 refine⟨fun hi w2 hd2=> ?_,fun hi=> ?_⟩
 ·have hi:=of_decide_eq_true hi
  have e2:Ext w w2:=e.trans (Qt.ext hd2)
  obtain⟨a,o,ho,hc⟩:=zh.getN (e2.src hs) (fun _=>rfl) D_ (i:=(p:Int)) O_ hi
  have hmem:=List.mem_of_getElem? ho
  obtain⟨hk,hsv,hsl,ha,hB,hN⟩:=hok o hmem
  obtain⟨yl,hys,hyl,hyc,hyn⟩:=z7h hB
  obtain⟨v,os,hv,hz⟩:=zQt hsv
  have hol:=hv.held.slen
  have h1:=hv.blen
  have h2:=hv.hlen
  refine⟨a,O_,hi,o.B,zI.1 hc 6 _ rfl,a,O_,hi,o.Saved,⟨zI.1 hc 1 _ rfl,zI.1 hc 2 _ rfl,zI.1 hc 3 _ rfl,trivial⟩,?_⟩
  refine s_ub (hv.ext e2) hz fun w3 e3 hbig=>⟨e3.cell (zI.1 hc 6 _ rfl),?_⟩
  have wp:IntKind.i64.wrap ((p:Int)+1)=((p+1:Nat):Int):=by rw [i64_in _ O_ O_]; omega
  obtain⟨Z,hZ⟩:∃ Z,Z=o.Saved.Beyond.len+hsS os:=⟨_,rfl⟩
  rw [←hZ] at hbig ⊢
  have wn:IntKind.i64.wrap (IntKind.i64.wrap (IntKind.i64.wrap ((q:Int)+1)+((o.B.len:Nat):Int))+(Z:Int))=((q+1+o.B.len+Z:Nat):Int):=by
   rw [i64_in ((q:Int)+1) O_ O_,i64_in ((q:Int)+1+((o.B.len:Nat):Int)) O_ O_,i64_in _ O_ O_]; omega
  rw [wn,wp]
  refine⟨fun _=>k1 w3 (e2.trans e3),fun h=> ?_⟩
  have h:=of_decide_eq_false h
  refine⟨⟨p+1,q+1+o.B.len+Z,rfl,rfl,O_,O_,O_,e2.trans e3,fun j x hj hx=> ?_⟩,by show _ - _<_ - _; omega⟩
  by_cases hjp:j=p
  ·subst hjp
   rw [Int.toNat_natCast] at ho
   obtain rfl:=Option.some.inj (ho.symm.trans hx)
   exact⟨v,os,hv,O_⟩
  ·exact hall j x O_ hx
 ·have hi:=of_decide_eq_false hi
  refine k0 w1 e O_ fun o ho=> ?_
  obtain⟨j,hj⟩:=List.mem_iff_getElem?.1 ho
  exact hall j o (by have:=(List.getElem?_eq_some_iff.1 hj).1; omega) hj
theorem z6o (p:Nat):Int.tmod (p:Int) 16=((p % 16:Nat):Int):=by
 rw [Int.tmod_eq_emod_of_nonneg O_]; omega
set_option maxHeartbeats 1000000 in
theorem zHf {w0 w:World} {x1:Slc} {ops:List T_e} {d r:OA} {mo:Option DM} {bd br:List zf} (hT:Tab w0) (hs:zh w0 x1 8 (ops.flatMap opV)) (hl:x1.len≤1048576) (hok:∀ o∈ops,O_a w0 o)
    (hsz:∀ o∈ops,∃ v os,SvAt w0 o.Saved v os∧o.Saved.Beyond.len+hsS os≤1048576) (od:DpO d mo bd) (or:RpO r mo br) (hw:wrX mo=0) (st:St ⟨w0,[]⟩ (bd++(br++[])) w) :
    F_n x1 (fun b w'=>b=true∧RowKit.Below w0.heap.size w0 w') d r false w:=by
 unfold F_n
 refine⟨fun h=>(by cases h),fun _ b w1 hb hw1 b1 w2 hb1 hw2 b2 w3 hb2 hw3=> ?_⟩
 have st1:=st.alloc (cs:=prC d none r none) hb hw1
 have st2:=st1.alloc (cs:=zSvr) hb1 hw2
 have st3:=st2.alloc (cs:=zeb 0 ⟨none,0,0⟩ ⟨none,0,0⟩ ⟨none,0,0⟩) hb2 hw3
 have pr:PrO b 0 ((b,prC d none r none)::(bd++(br++([]++[])))):=⟨d,none,r,none,mo,none,bd,br,[],[],rfl,od,or,O_,⟨rfl,rfl⟩,⟨rfl,rfl⟩,fun _=>rfl⟩
 obtain⟨cs,hcs⟩:∃ cs,cs=(b,prC d none r none)::(bd++(br++([]++[]))):=⟨_,rfl⟩
 rw [←hcs] at pr
 have st4:St ⟨w0,[]⟩ (cs++([(b2,zeb 0 ⟨none,0,0⟩ ⟨none,0,0⟩ ⟨none,0,0⟩)]++[(b1,zSvr)])) w3:=by subst hcs; exact st3.pq
 refine⟨fun k_ i w'=>∃(p bk:Nat) (cs kb:List zf),k_=some ⟨bk,0,none⟩∧i=(p:Int)∧p≤x1.len∧PrO b p cs∧BkS bk (p % 16) kb∧St ⟨w0,[]⟩ (cs++(kb++[(b1,zSvr)])) w',fun _ i _=>x1.len - i.toNat,⟨0,b2,cs,_,rfl,rfl,O_,pr,BkS.new,st4⟩,?_⟩
 clear st st1 st2 st3 st4 pr hcs
 rintro k_ i w4 ⟨p,bk,cs,kb,rfl,rfl,hp,pr,ob,st⟩
 unfold F_Hb
 refine⟨fun hi=> ?_,fun hi=> ?_⟩
 ·have hi:=of_decide_eq_true hi
  obtain⟨a,o,ho,hc⟩:=zh.getN (st.ext.src hs) (fun _=>rfl) D_ (i:=(p:Int)) O_ hi
  have hmem:=List.mem_of_getElem? ho
  obtain⟨hk,hsv,hsl,ha,hB,hN⟩:=hok o hmem
  obtain⟨yl,hys,hyl,hyc,hyn⟩:=z7h hB
  obtain⟨v,os,hv,hS⟩:=hsz o hmem
  have wp:IntKind.i64.wrap ((p:Int)+1)=((p+1:Nat):Int):=by rw [i64_in _ O_ O_]; omega
  refine⟨a,O_,hi,o,hc,s_Md (w0:=⟨w0,[]⟩) hT pr st O_ hv hS hys hN.2 fun cs' w5 pr' st5=>⟨fun h=>(by cases h),fun _=> ?_⟩⟩
  refine s_0b pr' ob O_ st5 fun kb' w6 ob' st6=> ?_
  unfold F_H
  refine⟨fun h=>(by cases h),fun _=> ?_⟩
  rw [z6o]
  refine⟨fun h15=> ?_,fun h15=> ?_⟩
  ·have h15:p % 16=15:=by have:=beq_iff_eq.1 h15; omega
   have st7:St ⟨w0,[]⟩ (kb'++(cs'++[(b1,zSvr)])) w6:=st6.pq
   refine ob'.apart hT O_ st7 fun kb2 w7 st8=>⟨fun h=>(by cases h),fun _ b3 w8 hb3 hw8=> ?_⟩
   have st9:=st8.alloc (cs:=zeb 0 ⟨none,0,0⟩ ⟨none,0,0⟩ ⟨none,0,0⟩) hb3 hw8
   unfold F_m
   rw [wp]
   refine⟨⟨p+1,b3,cs',_,rfl,rfl,O_,pr',?_,(st9.wq kb2:St ⟨w0,[]⟩ (cs'++([(b3,zeb 0 ⟨none,0,0⟩ ⟨none,0,0⟩ ⟨none,0,0⟩)]++[(b1,zSvr)])) w8)⟩,by show _ - _<_ - _; omega⟩
   rw [show(p+1) % 16=0 from by omega]
   exact BkS.new
  ·have h15:p % 16≠15:=fun h=>by rw [h] at h15; simp at h15
   unfold F_m
   rw [wp]
   refine⟨⟨p+1,bk,cs',kb',rfl,rfl,O_,pr',?_,st6⟩,by show _ - _<_ - _; omega⟩
   rw [show(p+1) % 16=p % 16+1 from by omega]
   exact ob'
 ·refine s_0b pr ob O_ st fun kb' w6 ob' st6=>⟨fun _=> ?_,fun h=>(by cases h)⟩
  have st7:St ⟨w0,[]⟩ (kb'++(cs++[(b1,zSvr)])) w6:=st6.pq
  refine ob'.apart hT O_ st7 fun kb2 w7 st8=>⟨fun _=> ?_,fun h=>(by cases h)⟩
  have st9:St ⟨w0,[]⟩ ((b1,zSvr)::(kb2++cs)) w7:=st8.pq
  exact s_dc st9 ⟨fun _=>s_cc st9 ⟨rfl,st9.below⟩,fun h=>(by cases h)⟩
theorem zwf (x0:Int) (x1:Slc) (w:World) (h0:(-9223372036854775808)≤x0∧x0≤9223372036854775807) (h1:OkSl w x1 8 112 (fun es=>∃ e_:T_e,es=opV e_∧(O_a w e_))) (hT:Tab w) :
    C_mc x0 x1 w (fun b w'=>b=true∧RowKit.Below w.heap.size w w'):=by
 apply S_pb
 unfold F_fd
 obtain⟨ops,hs,hcl,hcap,hlen,hok⟩:=zag (f:=opV) h1 (fun es ⟨e,h,h'⟩=>⟨e,h,h'⟩) (fun _=>rfl) D_
 have st:=St.start w
 refine s_Pc hs O_ hok (fun w1 e1=>⟨fun _=>⟨rfl,(st.keep e1).below⟩,fun h=>(by cases h)⟩) fun w1 e1 hl hsz=>⟨fun h=>(by cases h),fun _=> ?_⟩
 have st:=st.keep e1
 refine s_vc st (fun hbad=> ?_) fun hc0 hc1 d bd w2 od st=> ?_
 ·refine s_mb st (fun _=>⟨fun h=>by simp at h,fun _=> ?_⟩) fun _ _=>by omega
  exact zHf (mo:=none) (bd:=[]) (br:=[]) hT hs hl hok hsz ⟨rfl,rfl⟩ ⟨rfl,rfl⟩ rfl st
 ·refine s_mb st (fun _=>by omega) fun _ _ r br w3 or st=>⟨fun h=>by simp at h,fun _=> ?_⟩
  have e:(!(d.isNone==r.isNone))=false:=by
   obtain⟨_,_,_,_,_,rfl,_⟩:=od
   obtain⟨_,_,_,_,_,rfl,_⟩:=or
   rfl
  rw [e]
  exact zHf (mo:=some _) hT hs hl hok hsz od or rfl (st.pq)
end Go.Proofs.YtjlfdepkphibgaaGreatDoor
