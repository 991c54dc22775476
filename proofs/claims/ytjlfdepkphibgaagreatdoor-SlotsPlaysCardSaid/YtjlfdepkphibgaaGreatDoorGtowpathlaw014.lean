/- WRITTEN BY PROGRAM (dec.py): for each Go function the clean formula F, the call's contract C, and the proof S that F gives C. -/
import Derived.Test.YtjlfdepkphibgaaGreatDoorRows
import Derived.Test.YtjlfdepkphibgaaGreatDoorGF
namespace Go.Proofs.YtjlfdepkphibgaaGreatDoor
open Go
set_option linter.unusedVariables false
set_option maxRecDepth 100000
set_option maxHeartbeats 4000000
noncomputable section

/-! ### (*towpath/towpathlaw01.Book).lookEvent (function 70) -/

theorem S_I {b_:OA} {w:World} {R:Bool→WP} (h:F_tc b_ R w):C_3 b_ w R:=by
 unfold F_tc at h
 refine Yh Tryz.func70 ?_
 ·refine Yp P1 [0] (Ys (Yp P1 [0,3] (Yd 0 ?_)))
  obtain⟨I,μ,h0,hr⟩:=h
  refine zN (fun m l w=>∃(i:Int),l=[(0,Vp b_),(3,Vi i)]∧I i w∧μ i w=m) ⟨0,rfl,h0,rfl⟩ ?_
  rintro _ _ w1 ⟨i,rfl,hI,rfl⟩
  obtain⟨again_,again__h,h⟩:∃ again_:Int→WP,(∀ i' w',again_ i' w'→I i' w'∧μ i' w'<μ i w1)∧F_4 b_ R again_ i w1:=⟨_,fun _ _ h=>h,hr i w1 hI⟩
  clear h0 hI
  unfold F_4 at h
  refine Ys (Yt (Yn P2 ?_))
  refine Yv 7 h fun hp_7 h=> ?_
  refine Yn P1 (Yn P1 ?_)
  refine Yl h fun v10 h=> ?_
  refine Yf P2 [0,3,12] ?_
  refine Yc h (fun h=> ?_) fun h=> ?_
  ·exact h.elim
  ·refine zM 0 (Yp P1 [2] ?_)
   exact YS ⟨true,rfl,h⟩

/-! ### (*towpath/towpathlaw01.Book).lookAnswer (function 71) -/

theorem S_y {b_:OA} {w:World} {R:Bool→WP} (h:F_gc b_ R w):C_Q b_ w R:=by
 unfold F_gc at h
 refine Yh Tryz.func71 ?_
 ·refine Yp P1 [0] (Ys (Yp P1 [0,3] (Yd 0 ?_)))
  obtain⟨I,μ,h0,hr⟩:=h
  refine zN (fun m l w=>∃(i:Int),l=[(0,Vp b_),(3,Vi i)]∧I i w∧μ i w=m) ⟨0,rfl,h0,rfl⟩ ?_
  rintro _ _ w1 ⟨i,rfl,hI,rfl⟩
  obtain⟨again_,again__h,h⟩:∃ again_:Int→WP,(∀ i' w',again_ i' w'→I i' w'∧μ i' w'<μ i w1)∧F_S b_ R again_ i w1:=⟨_,fun _ _ h=>h,hr i w1 hI⟩
  clear h0 hI
  unfold F_S at h
  refine Ys (Yt (Yn P2 ?_))
  refine Yv 7 h fun hp_7 h=> ?_
  refine Yn P1 (Yn P1 ?_)
  refine Yl h fun v10 h=> ?_
  refine Yf P2 [0,3,12] ?_
  refine Yc h (fun h=> ?_) fun h=> ?_
  ·exact h.elim
  ·refine zM 0 (Yp P1 [2] ?_)
   exact YS ⟨true,rfl,h⟩

/-! ### towpath/towpathlaw01.HeldsSize (function 72) -/
def zwu:=cb_ Tryz.f72
def zxu:=cr_ zwu
def zyu:=cr_ zxu
def zzu:=cl_ zyu
def zEq:=cr_ zzu
def zFq:=cl_ zEq
def zGq:=cl_ zFq
def zHq:=cr_ zGq
def zIq:=cl_ zHq
def zJq:=cl_ zIq
def zKq:=co_ zJq

theorem S_wb {l_:Slc} {w:World} {R:Int→WP} (h:F_re l_ R w):C_Sb l_ w R:=by
 unfold F_re at h
 refine Yh Tryz.func72 ?_
 ·refine Yp P1 [0] (Yp P3 [0,3] (Ys (Yp P1 [0,3,4] (Yd 0 ?_))))
  obtain⟨I,μ,h0,hr⟩:=h
  refine zN (fun m l w=>∃(n_:Int) (i:Int),l=[(0,sv_ l_),(3,Vi n_),(4,Vi i)]∧I n_ i w∧μ n_ i w=m) ⟨((l_.len:Nat):Int),0,rfl,h0,rfl⟩ ?_
  rintro _ _ w1 ⟨n_,i,rfl,hI,rfl⟩
  obtain⟨again_,again__h,h⟩:∃ again_:Int→Int→WP,(∀ n_' i' w',again_ n_' i' w'→I n_' i' w'∧μ n_' i' w'<μ n_ i w1)∧F_Nb l_ R again_ n_ i w1:=⟨_,fun _ _ _ h=>h,hr n_ i w1 hI⟩
  clear h0 hI
  unfold F_Nb at h
  refine Ys (Yp [.plain,.plain,.plain,.plain,.plain,.plain,.plain,.pick] [0,3,4,14] ?_)
  refine Yc h (fun h=> ?_) fun h=> ?_
  ·refine zg (Ys (Yd 1 ?_))
   refine zO (id:=5) (ops:=zKq) K_ K_ K_ ?_
   refine Qn P3 ?_
   obtain⟨hp_6,h⟩:=h
   refine Qu 18 (fun pp=> .slice pp l_.len l_.cap) hp_6 ?_
   refine Qi h fun h=> ?_
   refine Qn P1 ?_
   refine Ql h fun v22 h=> ?_
   refine Qn P4 ?_
   obtain⟨hp_7,h⟩:=h
   refine Qu 25 (fun pp=> .slice pp l_.len l_.cap) hp_7 ?_
   refine Qi h fun h=> ?_
   refine Qn P1 ?_
   refine Ql h fun v29 h=> ?_
   obtain⟨v30,hq,h⟩:=h
   refine zLb (op:=(Op.call (Call.mk (Callee.value (Operand.func 116)) #[(Operand.tmp 29)] #[126]))) (ty:=3) (dst:=some 30) 116 #[sv_ v29] (Vi v30) K_ (fun ww=>by kernel_rfl) (fun w' he=>Calls.mono (hq w' he) (by rintro _ w'' ⟨_,rfl,rfl,hE⟩; exact⟨rfl,hE⟩)) ?_
   clear hq
   refine Qf P2 [0,3,4] h fun w3 h=> ?_
   refine Yr (Yf P3 [0,3,4] ?_)
   have hb_:=again__h _ _ _ h
   exact⟨_,hb_.2,_,Sub.mk K_,(IntKind.i64.wrap ((IntKind.i64.wrap (n_+((v22.size:Nat):Int)))+v30)),(IntKind.i64.wrap (i+1)),rfl,hb_.1,rfl⟩
  ·refine zM 0 (Yp P2 [2] ?_)
   exact YS ⟨n_,rfl,h⟩

/-! ### towpath/towpathlaw01.TwinInts (function 73) -/

theorem S_Hb {l_:Slc} {w:World} {R:Slc→WP} (h:F_Fd l_ R w):C_0b l_ w R:=by
 unfold F_Fd at h
 refine Yh Tryz.func73 ?_
 ·refine Yp P1 [0] (Yt (Yn P3 ?_))
  obtain⟨h0,h1,h2,h⟩:=h
  refine z5c (t:=56) (e:=3) (lo:=(Operand.const (Value.int IntKind.i64 0))) (co:=(Operand.tmp 7)) (l:=0) (c:=(IntKind.i64.wrap (((l_.len:Nat):Int)+1))) (sz:=1) (by_:=8) (zs:=[Vi 0]) (ty:=56) (dst:=some 8) K_ K_ K_ K_ K_ K_ K_ K_ K_ h0 h1 h2 (fun b_ w1 hb hw=> ?_)
  replace h:=h b_ w1 hb hw
  clear hb hw
  refine Yf P1 [0,3] (Ys (Yp P1 [0,3,4] (Yd 0 ?_)))
  obtain⟨I,μ,h0,hr⟩:=h
  refine zN (fun m l w=>∃(t_:Slc) (i:Int),l=[(0,sv_ l_),(3,sv_ t_),(4,Vi i)]∧I t_ i w∧μ t_ i w=m) ⟨(Slc.mk (some ⟨b_,0,none⟩) 0 ((IntKind.i64.wrap (((l_.len:Nat):Int)+1)).toNat)),0,rfl,h0,rfl⟩ ?_
  rintro _ _ w2 ⟨t_,i,rfl,hI,rfl⟩
  obtain⟨again_,again__h,h⟩:∃ again_:Slc→Int→WP,(∀ t_' i' w',again_ t_' i' w'→I t_' i' w'∧μ t_' i' w'<μ t_ i w2)∧F_Tb l_ R again_ t_ i w2:=⟨_,fun _ _ _ h=>h,hr t_ i w2 hI⟩
  clear h0 hI
  unfold F_Tb at h
  refine Ys (Yp P4 [0,3,4,12] ?_)
  refine Yc h (fun h=> ?_) fun h=> ?_
  ·refine zg (Ys (Yd 1 (Yr (Yn P3 ?_))))
   obtain⟨hp_3,h⟩:=h
   refine Yu 16 (fun pp=> .slice pp l_.len l_.cap) hp_3 ?_
   refine Yi1 h fun h=> ?_
   refine Yl h fun v19 h=> ?_
   refine Yw (sl_ 1 1) h fun b_1 w3 h=> ?_
   obtain⟨src,hs,h⟩:=h
   refine zH (t:=56) (tx:=56) (e:=3) (a:=(Operand.tmp 15)) (xo:=(Operand.tmp 20)) (s:=t_) (x:=(Slc.mk (some ⟨b_1,0,none⟩) 1 1)) (sz:=1) (by_:=8) (zs:=[Vi 0]) (ty:=56) (dst:=some 21)  src K_ K_ K_ K_ K_ K_ K_ K_ K_ hs (zj.mono h (fun t_1 w4 h=> ?_))
   refine Yf P1 [0,3,4] (Yr (Yf P3 [0,3,4] ?_))
   have hb_:=again__h _ _ _ h
   exact⟨_,hb_.2,_,Sub.mk K_,t_1,(IntKind.i64.wrap (i+1)),rfl,hb_.1,rfl⟩
  ·refine zM 0 (Yt (Yn P1 ?_))
   refine Yw (sl_ 1 1) h fun b_2 w5 h=> ?_
   obtain⟨src,hs,h⟩:=h
   refine zH (t:=56) (tx:=56) (e:=3) (a:=(Operand.tmp 22)) (xo:=(Operand.tmp 23)) (s:=t_) (x:=(Slc.mk (some ⟨b_2,0,none⟩) 1 1)) (sz:=1) (by_:=8) (zs:=[Vi 0]) (ty:=56) (dst:=some 24)  src K_ K_ K_ K_ K_ K_ K_ K_ K_ hs (zj.mono h (fun v24 w6 h=> ?_))
   refine Yn P2 ?_
   obtain⟨h0,h1,h⟩:=h
   refine zyb (t:=56) (e:=3) (x:=(Operand.tmp 24)) (hi:=(Operand.tmp 26)) (p:=v24.ptr) (l:=v24.len) (c:=v24.cap) (sz:=1) (k:= .i64) (j:=((l_.len:Nat):Int)) (ty:=56) (dst:=some 27) K_ K_ K_ K_ K_ h0 h1 ?_
   refine Yf P1 [2] ?_
   exact YS ⟨(Slc.mk v24.ptr (((l_.len:Nat):Int).toNat) v24.cap),rfl,h⟩

/-! ### towpath/towpathlaw01.TwinHelds (function 74) -/

theorem S_xb {l_:Slc} {w:World} {R:Slc→WP} (h:F_wd l_ R w):C_Tb l_ w R:=by
 unfold F_wd at h
 refine Yh Tryz.func74 ?_
 ·refine Yp P1 [0] (Yt (Yn P3 ?_))
  obtain⟨h0,h1,h2,h⟩:=h
  refine z5c (t:=57) (e:=141) (lo:=(Operand.const (Value.int IntKind.i64 0))) (co:=(Operand.tmp 7)) (l:=0) (c:=(IntKind.i64.wrap (((l_.len:Nat):Int)+1))) (sz:=2) (by_:=40) (zs:=[Value.string ByteArray.empty,Value.slice none 0 0]) (ty:=57) (dst:=some 8) K_ K_ K_ K_ K_ K_ K_ K_ K_ h0 h1 h2 (fun b_ w1 hb hw=> ?_)
  replace h:=h b_ w1 hb hw
  clear hb hw
  refine Yf P1 [0,3] (Ys (Yp P1 [0,3,4] (Yd 0 ?_)))
  obtain⟨I,μ,h0,hr⟩:=h
  refine zN (fun m l w=>∃(t_:Slc) (i:Int),l=[(0,sv_ l_),(3,sv_ t_),(4,Vi i)]∧I t_ i w∧μ t_ i w=m) ⟨(Slc.mk (some ⟨b_,0,none⟩) 0 ((IntKind.i64.wrap (((l_.len:Nat):Int)+1)).toNat)),0,rfl,h0,rfl⟩ ?_
  rintro _ _ w2 ⟨t_,i,rfl,hI,rfl⟩
  obtain⟨again_,again__h,h⟩:∃ again_:Slc→Int→WP,(∀ t_' i' w',again_ t_' i' w'→I t_' i' w'∧μ t_' i' w'<μ t_ i w2)∧F_Ob l_ R again_ t_ i w2:=⟨_,fun _ _ _ h=>h,hr t_ i w2 hI⟩
  clear h0 hI
  unfold F_Ob at h
  refine Ys (Yp P4 [0,3,4,12] ?_)
  refine Yc h (fun h=> ?_) fun h=> ?_
  ·refine zg (Ys (Yd 1 (Yr (Yn P3 ?_))))
   obtain⟨hp_3,h⟩:=h
   refine Yu 16 (fun pp=> .slice pp l_.len l_.cap) hp_3 ?_
   refine Yi h fun h=> ?_
   refine YL h fun v19 h=> ?_
   refine Ym1 h fun v20 w3 h=> ?_
   refine Yw (sl_ 1 1) h fun b_1 w4 h=> ?_
   obtain⟨src,hs,h⟩:=h
   refine zH (t:=57) (tx:=57) (e:=141) (a:=(Operand.tmp 15)) (xo:=(Operand.tmp 21)) (s:=t_) (x:=(Slc.mk (some ⟨b_1,0,none⟩) 1 1)) (sz:=2) (by_:=40) (zs:=[Value.string ByteArray.empty,Value.slice none 0 0]) (ty:=57) (dst:=some 22)  src K_ K_ K_ K_ K_ K_ K_ K_ K_ hs (zj.mono h (fun t_1 w5 h=> ?_))
   refine Yf P1 [0,3,4] (Yr (Yf P3 [0,3,4] ?_))
   have hb_:=again__h _ _ _ h
   exact⟨_,hb_.2,_,Sub.mk K_,t_1,(IntKind.i64.wrap (i+1)),rfl,hb_.1,rfl⟩
  ·refine zM 0 (Yt (Yn P2 ?_))
   refine Yw (sl_ 1 1) h fun b_2 w6 h=> ?_
   obtain⟨src,hs,h⟩:=h
   refine zH (t:=57) (tx:=57) (e:=141) (a:=(Operand.tmp 23)) (xo:=(Operand.tmp 25)) (s:=t_) (x:=(Slc.mk (some ⟨b_2,0,none⟩) 1 1)) (sz:=2) (by_:=40) (zs:=[Value.string ByteArray.empty,Value.slice none 0 0]) (ty:=57) (dst:=some 26)  src K_ K_ K_ K_ K_ K_ K_ K_ K_ hs (zj.mono h (fun v26 w7 h=> ?_))
   refine Yn P2 ?_
   obtain⟨h0,h1,h⟩:=h
   refine zyb (t:=57) (e:=141) (x:=(Operand.tmp 26)) (hi:=(Operand.tmp 28)) (p:=v26.ptr) (l:=v26.len) (c:=v26.cap) (sz:=2) (k:= .i64) (j:=((l_.len:Nat):Int)) (ty:=57) (dst:=some 29) K_ K_ K_ K_ K_ h0 h1 ?_
   refine Yf P1 [2] ?_
   exact YS ⟨(Slc.mk v26.ptr (((l_.len:Nat):Int).toNat) v26.cap),rfl,h⟩

/-! ### towpath/towpathlaw01.LeftInts (function 81) -/
def zAu:=cb_ Tryz.f81
def zBu:=cr_ zAu
def zLq:=cr_ zBu
def zMq:=cl_ zLq
def zNq:=cr_ zMq
def zOq:=cl_ zNq
def zPq:=cl_ zOq
def zQq:=cr_ zPq
def zRq:=cl_ zQq
def zSq:=cl_ zRq
def zTq:=cl_ zSq
def zUq:=co_ zTq

theorem S_Ib {t_:Slc} {l_:Slc} {w:World} {R:Bool→WP} (h:F_Gd t_ l_ R w):C_1b t_ l_ w R:=by
 unfold F_Gd at h
 refine Yh Tryz.func81 ?_
 ·refine Yp P1 [0,1] (Ys (Yp [.plain,.plain,.plain,.plain,.plain,.plain,.plain,.plain,.plain,.plain,.plain,.pick] [0,1,18] ?_))
  refine Yc h (fun h=> ?_) fun h=> ?_
  ·refine Yp P1 [4] ?_
   exact YS ⟨false,rfl,h⟩
  ·refine zg (Ys (Yp P1 [0,1,5] (Yd 0 ?_)))
   obtain⟨I,μ,h0,hr⟩:=h
   refine zN (fun m l w=>∃(i:Int),l=[(0,sv_ t_),(1,sv_ l_),(5,Vi i)]∧I i w∧μ i w=m) ⟨0,rfl,h0,rfl⟩ ?_
   rintro _ _ w1 ⟨i,rfl,hI,rfl⟩
   obtain⟨again_,again__h,h⟩:∃ again_:Int→WP,(∀ i' w',again_ i' w'→I i' w'∧μ i' w'<μ i w1)∧F_Ub t_ l_ R again_ i w1:=⟨_,fun _ _ h=>h,hr i w1 hI⟩
   clear h0 hI
   unfold F_Ub at h
   refine Ys (Yp P4 [0,1,5,22] ?_)
   refine Yc h (fun h=> ?_) fun h=> ?_
   ·refine zg (Ys (Yd 1 (Ys ?_)))
    refine zO (id:=6) (ops:=zUq) K_ K_ K_ ?_
    refine Qn P2 ?_
    obtain⟨hp_14,h⟩:=h
    refine Qu 25 (fun pp=> .slice pp t_.len t_.cap) hp_14 ?_
    refine Qi1 h fun h=> ?_
    refine Ql h fun v28 h=> ?_
    refine Qn P2 ?_
    obtain⟨hp_15,h⟩:=h
    refine Qu 29 (fun pp=> .slice pp l_.len l_.cap) hp_15 ?_
    refine Qi1 h fun h=> ?_
    refine Ql h fun v32 h=> ?_
    refine Qf P1 [0,1,5,33] h fun w2 h=> ?_
    refine Yc h (fun h=> ?_) fun h=> ?_
    ·refine Yp P1 [4] ?_
     exact YS ⟨false,rfl,h⟩
    ·refine zg (Yr (Yf P3 [0,1,5] ?_))
     have hb_:=again__h _ _ h
     exact⟨_,hb_.2,_,Sub.mk K_,(IntKind.i64.wrap (i+1)),rfl,hb_.1,rfl⟩
   ·refine zM 0 (Yt (Yn P4 ?_))
    obtain⟨h0,h1,h⟩:=h
    refine zyb (t:=56) (e:=3) (x:=(Operand.tmp 34)) (hi:=(Operand.tmp 37)) (p:=t_.ptr) (l:=t_.len) (c:=t_.cap) (sz:=1) (k:= .i64) (j:=(IntKind.i64.wrap (((l_.len:Nat):Int)+1))) (ty:=56) (dst:=some 38) K_ K_ K_ K_ K_ h0 h1 ?_
    refine Yn P2 ?_
    obtain⟨hp_17,h⟩:=h
    refine Yu 38 (fun pp=> .slice pp ((IntKind.i64.wrap (((l_.len:Nat):Int)+1)).toNat) t_.cap) hp_17 ?_
    refine Yi1 h fun h=> ?_
    refine Yl h fun x h=> ?_
    refine Yf P1 [6] (Yp P3 [4] ?_)
    exact YS ⟨(x==7777),rfl,h⟩

/-! ### towpath/towpathlaw01.LeftHelds (function 82) -/
def zCu:=cb_ Tryz.f82
def zDu:=cr_ zCu
def zVq:=cr_ zDu
def zWq:=cl_ zVq
def zXq:=cr_ zWq
def zYq:=cl_ zXq
def zZq:=cl_ zYq
def z0q:=cr_ zZq
def z1q:=cl_ z0q
def z2q:=cl_ z1q
def z3q:=cl_ z2q
def z4q:=co_ z3q

theorem S_yb {t_:Slc} {l_:Slc} {w:World} {R:Bool→WP} (h:F_yd t_ l_ R w):C_Ub t_ l_ w R:=by
 unfold F_yd at h
 refine Yh Tryz.func82 ?_
 ·refine Yp P1 [0,1] (Ys (Yp [.plain,.plain,.plain,.plain,.plain,.plain,.plain,.plain,.plain,.plain,.plain,.pick] [0,1,18] ?_))
  refine Yc h (fun h=> ?_) fun h=> ?_
  ·refine Yp P1 [4] ?_
   exact YS ⟨false,rfl,h⟩
  ·refine zg (Ys (Yp P1 [0,1,5] (Yd 0 ?_)))
   obtain⟨I,μ,h0,hr⟩:=h
   refine zN (fun m l w=>∃(i:Int),l=[(0,sv_ t_),(1,sv_ l_),(5,Vi i)]∧I i w∧μ i w=m) ⟨0,rfl,h0,rfl⟩ ?_
   rintro _ _ w1 ⟨i,rfl,hI,rfl⟩
   obtain⟨again_,again__h,h⟩:∃ again_:Int→WP,(∀ i' w',again_ i' w'→I i' w'∧μ i' w'<μ i w1)∧F_Pb t_ l_ R again_ i w1:=⟨_,fun _ _ h=>h,hr i w1 hI⟩
   clear h0 hI
   unfold F_Pb at h
   refine Ys (Yp P4 [0,1,5,22] ?_)
   refine Yc h (fun h=> ?_) fun h=> ?_
   ·refine zg (Ys (Yd 1 (Ys ?_)))
    refine zO (id:=6) (ops:=z4q) K_ K_ K_ ?_
    refine Qn P2 ?_
    obtain⟨hp_14,h⟩:=h
    refine Qu 25 (fun pp=> .slice pp t_.len t_.cap) hp_14 ?_
    refine Qi h fun h=> ?_
    refine QL h fun v28 h=> ?_
    refine Qn P2 ?_
    obtain⟨hp_15,h⟩:=h
    refine Qu 29 (fun pp=> .slice pp l_.len l_.cap) hp_15 ?_
    refine Qi h fun h=> ?_
    refine QL h fun v32 h=> ?_
    obtain⟨v33,hq,h⟩:=h
    refine zLb (op:=(Op.call (Call.mk (Callee.value (Operand.func 132)) #[(Operand.tmp 28),(Operand.tmp 32)] #[141,141]))) (ty:=4) (dst:=some 33) 132 #[Value.agg #[Value.string v28.Key,sv_ v28.Versions],Value.agg #[Value.string v32.Key,sv_ v32.Versions]] (Vo v33) K_ (fun ww=>by kernel_rfl) (fun w' he=>Calls.mono (hq w' he) (by rintro _ w'' ⟨_,rfl,rfl,hE⟩; exact⟨rfl,hE⟩)) ?_
    clear hq
    refine Qf P1 [0,1,5,34] h fun w3 h=> ?_
    refine Yc h (fun h=> ?_) fun h=> ?_
    ·refine Yp P1 [4] ?_
     exact YS ⟨false,rfl,h⟩
    ·refine zg (Yr (Yf P3 [0,1,5] ?_))
     have hb_:=again__h _ _ h
     exact⟨_,hb_.2,_,Sub.mk K_,(IntKind.i64.wrap (i+1)),rfl,hb_.1,rfl⟩
   ·refine zM 0 (Yt (Yn P4 ?_))
    obtain⟨h0,h1,h⟩:=h
    refine zyb (t:=57) (e:=141) (x:=(Operand.tmp 35)) (hi:=(Operand.tmp 38)) (p:=t_.ptr) (l:=t_.len) (c:=t_.cap) (sz:=2) (k:= .i64) (j:=(IntKind.i64.wrap (((l_.len:Nat):Int)+1))) (ty:=57) (dst:=some 39) K_ K_ K_ K_ K_ h0 h1 ?_
    refine Yn P2 ?_
    obtain⟨hp_17,h⟩:=h
    refine Yu 39 (fun pp=> .slice pp ((IntKind.i64.wrap (((l_.len:Nat):Int)+1)).toNat) t_.cap) hp_17 ?_
    refine Yi h fun h=> ?_
    refine YL h fun v43 h=> ?_
    refine Yw pv_ h fun b_ w4 h=> ?_
    refine Yo h fun w5 h=> ?_
    refine Yf [] [6] (Yt (Yn P1 ?_))
    refine Yl h fun v45 h=> ?_
    refine Yf P2 [4] ?_
    exact YS ⟨(v45.toList==(ByteArray.mk #[115,112,97,114,101]).toList),rfl,h⟩

/-! ### (*towpath/towpathlaw01.Book).Ints (function 83) -/

theorem S_zb {b_:OA} {l_:Slc} {w:World} {R:WP} (h:F_zd b_ l_ R w):C_Vb b_ l_ w R:=by
 unfold F_zd at h
 refine Yh Tryz.func83 ?_
 ·refine Yr (Yn P2 ?_)
  refine Ym0 h fun w1 h=> ?_
  refine Yf [] [] ?_
  repeat (first | refine zK ?_ | refine zA ?_ | refine zL ?_ | refine zB ?_ | refine zv K_ ?_)
  refine zw ?_
  repeat (first | refine zC ?_ | refine zp ?_ | refine zu ?_ | refine zE ?_)
  exact retT (rs:=[]) (vs:=[]) K_ (trivial) K_ ⟨rfl,h⟩

/-! ### (*towpath/towpathlaw01.Book).Helds (function 84) -/

theorem S_ib {b_:OA} {l_:Slc} {w:World} {R:WP} (h:F_ke b_ l_ R w):C_Cb b_ l_ w R:=by
 unfold F_ke at h
 refine Yh Tryz.func84 ?_
 ·refine Ys (Yp P1 [0,1,4] (Yd 0 ?_))
  obtain⟨I,μ,h0,hr⟩:=h
  refine zN (fun m l w=>∃(i:Int),l=[(0,Vp b_),(1,sv_ l_),(4,Vi i)]∧I i w∧μ i w=m) ⟨0,rfl,h0,rfl⟩ ?_
  rintro _ _ w1 ⟨i,rfl,hI,rfl⟩
  obtain⟨again_,again__h,h⟩:∃ again_:Int→WP,(∀ i' w',again_ i' w'→I i' w'∧μ i' w'<μ i w1)∧F_Kb b_ l_ R again_ i w1:=⟨_,fun _ _ h=>h,hr i w1 hI⟩
  clear h0 hI
  unfold F_Kb at h
  refine Ys (Yp P4 [0,1,4,8] ?_)
  refine Yc h (fun h=> ?_) fun h=> ?_
  ·refine zg (Ys (Yd 1 (Yr (Yn P3 ?_))))
   obtain⟨hp_3,h⟩:=h
   refine Yu 12 (fun pp=> .slice pp l_.len l_.cap) hp_3 ?_
   refine Yi h fun h=> ?_
   refine Yn P1 ?_
   refine Yl h fun v16 h=> ?_
   refine Ym0 h fun w2 h=> ?_
   refine Yf [] [0,1,4] (Yr (Yf P3 [0,1,4] ?_))
   have hb_:=again__h _ _ h
   exact⟨_,hb_.2,_,Sub.mk K_,(IntKind.i64.wrap (i+1)),rfl,hb_.1,rfl⟩
  ·refine zM 0 (Yr (Yn P2 ?_))
   refine Ym0 h fun w3 h=> ?_
   refine Yf [] [] ?_
   repeat (first | refine zK ?_ | refine zA ?_ | refine zL ?_ | refine zB ?_ | refine zv K_ ?_)
   refine zw ?_
   repeat (first | refine zC ?_ | refine zp ?_ | refine zu ?_ | refine zE ?_)
   exact retT (rs:=[]) (vs:=[]) K_ (trivial) K_ ⟨rfl,h⟩

/-! ### towpath/towpathlaw01.SameInts (function 90) -/
def zEu:=cb_ Tryz.f90
def zFu:=cr_ zEu
def z5q:=cr_ zFu
def z6q:=cl_ z5q
def z7q:=cr_ z6q
def z8q:=cl_ z7q
def z9q:=cl_ z8q
def zar:=cr_ z9q
def zbr:=cl_ zar
def zcr:=cl_ zbr
def zdr:=cl_ zcr
def zer:=co_ zdr

theorem S_Jb {a_:Slc} {b_:Slc} {w:World} {R:Bool→WP} (h:F_Id a_ b_ R w):C_2b a_ b_ w R:=by
 unfold F_Id at h
 refine Yh Tryz.func90 ?_
 ·refine Yp P1 [0,1] (Ys (Yp (Pl 5) [0,1,10] ?_))
  refine Yc h (fun h=> ?_) fun h=> ?_
  ·refine Yp P1 [4] ?_
   exact YS ⟨false,rfl,h⟩
  ·refine zg (Ys (Yp P1 [0,1,5] (Yd 0 ?_)))
   obtain⟨I,μ,h0,hr⟩:=h
   refine zN (fun m l w=>∃(i:Int),l=[(0,sv_ a_),(1,sv_ b_),(5,Vi i)]∧I i w∧μ i w=m) ⟨0,rfl,h0,rfl⟩ ?_
   rintro _ _ w1 ⟨i,rfl,hI,rfl⟩
   obtain⟨again_,again__h,h⟩:∃ again_:Int→WP,(∀ i' w',again_ i' w'→I i' w'∧μ i' w'<μ i w1)∧F_Vb a_ b_ R again_ i w1:=⟨_,fun _ _ h=>h,hr i w1 hI⟩
   clear h0 hI
   unfold F_Vb at h
   refine Ys (Yp P4 [0,1,5,14] ?_)
   refine Yc h (fun h=> ?_) fun h=> ?_
   ·refine zg (Ys (Yd 1 (Ys ?_)))
    refine zO (id:=6) (ops:=zer) K_ K_ K_ ?_
    refine Qn P2 ?_
    obtain⟨hp_14,h⟩:=h
    refine Qu 17 (fun pp=> .slice pp a_.len a_.cap) hp_14 ?_
    refine Qi1 h fun h=> ?_
    refine Ql h fun v20 h=> ?_
    refine Qn P2 ?_
    obtain⟨hp_15,h⟩:=h
    refine Qu 21 (fun pp=> .slice pp b_.len b_.cap) hp_15 ?_
    refine Qi1 h fun h=> ?_
    refine Ql h fun v24 h=> ?_
    refine Qf P1 [0,1,5,25] h fun w2 h=> ?_
    refine Yc h (fun h=> ?_) fun h=> ?_
    ·refine Yp P1 [4] ?_
     exact YS ⟨false,rfl,h⟩
    ·refine zg (Yr (Yf P3 [0,1,5] ?_))
     have hb_:=again__h _ _ h
     exact⟨_,hb_.2,_,Sub.mk K_,(IntKind.i64.wrap (i+1)),rfl,hb_.1,rfl⟩
   ·refine zM 0 (Yp P1 [4] ?_)
    exact YS ⟨true,rfl,h⟩
end
end Go.Proofs.YtjlfdepkphibgaaGreatDoor
