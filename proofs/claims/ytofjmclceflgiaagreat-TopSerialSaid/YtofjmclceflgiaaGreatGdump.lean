/- WRITTEN BY PROGRAM (dec.py): for each Go function the clean formula F, the call's contract C, and the proof S that F gives C. -/
import Derived.Test.YtofjmclceflgiaaGreatRows
import Derived.Test.YtofjmclceflgiaaGreatGF
namespace Go.Proofs.YtofjmclceflgiaaGreat
open Go
set_option linter.unusedVariables false
set_option maxRecDepth 100000
set_option maxHeartbeats 4000000
noncomputable section

/-! ### towpath/dump.Split (function 41) -/
def zrw:=cb_ Tryz.f41
def zsw:=cr_ zrw
def zhv:=cr_ zsw
def ziv:=cr_ zhv
def zjv:=cr_ ziv
def zkv:=cl_ zjv
def zlv:=cr_ zkv
def zmv:=cl_ zlv
def znv:=cl_ zmv
def zov:=cr_ znv
def zpv:=cr_ zov
def zqv:=cl_ zpv
def zrv:=cl_ zqv
def zsv:=cr_ zrv
def ztv:=cr_ zsv
def zuv:=cr_ ztv
def zvv:=co_ zuv
def zlf:List Nat:=[0,1,2,3,4,5,6,7,8,9,10,11,12,13,14,15]

theorem S_Tb {c:T_f} {s:T_e} {w:World} {R:Slc→Int→WP} (h:F_ud c s R w):C_Xb c s w R:=by
 unfold F_ud at h
 refine Yh Tryz.func41 ?_
 ·refine Yt ?_
  refine Yw pv_ h fun b_ w1 h=> ?_
  refine Yw pv_ h fun b_1 w2 h=> ?_
  refine Yf P2 [2,3] (Ys (Yt ?_))
  refine YL h fun v13 h=> ?_
  refine Ym1 h fun v14 w3 h=> ?_
  refine Yf P1 [2,3,6] (Yp P2 [2,3,6,16] ?_)
  refine Yc h (fun h=> ?_) fun h=> ?_
  ·refine Yp P3 [4,5] ?_
   exact YT2 ⟨(Slc.mk none 0 0),v14,rfl,h⟩
  ·refine zk (Ys (Yt ?_))
   refine YL h fun v18 h=> ?_
   refine Ym1 h fun v19 w4 h=> ?_
   refine Yf P1 [2,3,7] (Yp P2 [2,3,7,21] ?_)
   refine Yc h (fun h=> ?_) fun h=> ?_
   ·refine Yp P3 [4,5] ?_
    exact YT2 ⟨(Slc.mk none 0 0),v19,rfl,h⟩
   ·refine zk (Yt (Yn P1 ?_))
    refine Yl h fun v24 h=> ?_
    obtain⟨h0,h1,h2,h⟩:=h
    refine zQd (t:=127) (e:=57) (lo:=(Operand.tmp 24)) (co:=(Operand.tmp 24)) (l:=v24) (c:=v24) (sz:=1) (by_:=24) (zs:=[Value.slice none 0 0]) (ty:=127) (dst:=some 25) K_ K_ K_ K_ K_ K_ K_ K_ K_ h0 h1 h2 (fun b_2 w5 hb hw=> ?_)
    replace h:=h b_2 w5 hb hw
    clear hb hw
    refine Yf P1 [2,3,8] (Ys (Yt (Yn P1 ?_)))
    refine Yl h fun v27 h=> ?_
    refine Yf P2 [2,3,8,28,29] (Yd 0 ?_)
    obtain⟨I,μ,h0,hr⟩:=h
    refine znb (fun m l w=>∃(t29:Int),l=[(2,pv_ b_),(3,pv_ b_1),(8,Value.slice (some ⟨b_2,0,none⟩) v24.toNat v24.toNat),(28,Vi ((v27.len:Nat):Int)),(29,Vi t29)]∧I t29 w∧μ t29 w=m) ⟨0,rfl,h0,rfl⟩ ?_
    rintro _ _ w6 ⟨t29,rfl,hI,rfl⟩
    obtain⟨again_,again__h,h⟩:∃ again_:Int→WP,(∀ t29' w',again_ t29' w'→I t29' w'∧μ t29' w'<μ t29 w6)∧F_vc R b_ b_1 v24 b_2 v27 again_ t29 w6:=⟨_,fun _ _ h=>h,hr t29 w6 hI⟩
    clear h0 hI
    unfold F_vc at h
    refine Yp P1 [2,3,8,28,29,30] (Ys ?_)
    refine Yc h (fun h=> ?_) fun h=> ?_
    ·refine zk (Ys (Yd 1 (Yp P2 [2,3,8,9,28,29] (Yt (Yn P1 ?_)))))
     refine Yl h fun v33 h=> ?_
     refine Yn P1 ?_
     obtain⟨hp_7,h⟩:=h
     refine Yu 33 (fun pp=> .slice pp v33.len v33.cap) hp_7 ?_
     refine Yi h fun h=> ?_
     refine YL h fun v36 h=> ?_
     refine Yw pv_ h fun b_3 w7 h=> ?_
     refine Yo h fun w8 h=> ?_
     refine Yf [] [2,3,8,10,28,29] (Yt ?_)
     refine YL h fun v38 h=> ?_
     refine Yn P1 ?_
     refine Yl h fun v40 h=> ?_
     refine Ym2 h fun n_ v41_1 w9 h=> ?_
     refine Yf (Pl 5) [2,3,8,10,11,28,29] ?_
     refine zm (id:=13) (ops:=zvv) zlf K_ K_ K_ K_ (fun w10 hw=> ?_)
     replace h:=h w10 hw
     clear hw
     refine Mn P4 ?_
     refine Mi1 4 h fun h=> ?_
     refine Ml 5 h fun v49 hc h=> ?_
     refine Mn P1 ?_
     refine Ml 7 h fun v51 hc h=> ?_
     refine Mn P1 ?_
     refine Ml 9 h fun v53 hc h=> ?_
     refine zt (op:=(Op.call (Call.mk (Callee.value (Operand.func 63)) #[(Operand.tmp 53)] #[87]))) (ty:=87) (dst:=some 54) 10 [9,8] [(7,fun w'=>w'.cell? ⟨b_3,0,none⟩=some (Value.string v51)),(5,fun w'=>w'.cell? ⟨b_2,0+n_.toNat,none⟩=some (sv_ v49))] 63 #[sv_ v53] K_ K_ K_ K_ K_ (fun ww=>by kernel_rfl) (Calls.mono h ?_)
     rintro _ w11 ⟨v54,rfl,h⟩
     obtain⟨hk0,hk1,h⟩:=h
     refine⟨_,rfl,⟨hk0,hk1,trivial⟩,?_⟩
     refine Mn P1 ?_
     refine z7 (op:=(Op.buildSlice 57 1 #[(0,(Operand.tmp 55))])) (ty:=57) (dst:=some 56) 12 [11,7,10,6,9,8] [(5,fun w'=>w'.cell? ⟨b_2,0+n_.toNat,none⟩=some (sv_ v49))] (fun bb=>Value.slice (some ⟨bb,0,none⟩) 1 1) (Obj.cells ([Value.string v51,sv_ v54]).toArray y_e (0,0)) K_ K_ K_ K_ K_ K_ (fun b_4 w12 hb hw=> ?_)
     replace h:=h b_4 w12 hb hw
     clear hb hw
     obtain⟨hk0,h⟩:=h
     refine⟨⟨hk0,trivial⟩,?_⟩
     obtain⟨src,hs,h⟩:=h
     refine zGb (t:=57) (tx:=57) (e:=89) (a:=(Operand.tmp 49)) (xo:=(Operand.tmp 56)) (s:=v49) (x:=(Slc.mk (some ⟨b_4,0,none⟩) 1 1)) (sz:=2) (by_:=40) (zs:=[Value.string ByteArray.empty,Value.slice none 0 0]) (ty:=57) (dst:=some 57) 13 [5,10,12,4,9,11,2,3,8,7,6] [] src K_ K_ K_ K_ K_ K_ K_ K_ K_ K_ K_ K_ K_ hs (zo.mono h (fun v57 w13 h=> ?_))
     refine⟨trivial,?_⟩
     refine Mi1 14 h fun h=> ?_
     refine z3b 15 [0,1,2,3,4,5,6,7,8,9,10,11,12,13,14] [] h fun w14 h=> ?_
     refine⟨trivial,?_⟩
     refine Mf [] [2,3,8,28,29] ?_
     refine Yr (Yf P2 [2,3,8,28,29] ?_)
     have hb_:=again__h _ _ h
     exact⟨_,hb_.2,_,Sub.mk K_,(IntKind.i64.wrap (t29+1)),rfl,hb_.1,rfl⟩
    ·refine z3 0 (Yp P3 [4,5] ?_)
     exact YT2 ⟨(Slc.mk (some ⟨b_2,0,none⟩) v24.toNat v24.toNat),0,rfl,h⟩

/-! ### towpath/dump.Check (function 61) -/

theorem S_Ub {s:T_e} {w:World} {R:Int→WP} (h:F_vd s R w):C_Yb s w R:=by
 unfold F_vd at h
 refine Yh Tryz.func61 ?_
 ·refine Yt ?_
  refine Yw pv_ h fun b_ w1 h=> ?_
  refine Yf P1 [1] (Ys ?_)
  refine Ycut (fun l w=>∃(t21:Bool),l=[(1,pv_ b_),(21,Vo t21)]∧F_Mb R b_ t21 w) ?_ ?_
  ·refine Yr (Yn P1 ?_)
   refine Yl h fun v15 h=> ?_
   refine Yn P3 ?_
   refine Yspl 17 h (fun h=> ?_) fun h=> ?_
   ·refine Yf [.skip,.skip,.plain] [1,21] ?_
    exact⟨_,Sub.mk K_,true,rfl,h⟩
   ·refine Yl h fun v19 h=> ?_
    refine Yf [.sure,.plain] [1,21] ?_
    exact⟨_,Sub.mk K_,(decide (v19>65536)),rfl,h⟩
  ·rintro _ w2 ⟨t21,rfl,h⟩
   unfold F_Mb at h
   refine Yc h (fun h=> ?_) fun h=> ?_
   ·refine Yp P1 [2] ?_
    exact YS ⟨1,rfl,h⟩
   ·refine zk (Yt (Yn P1 ?_))
    refine Yl h fun v23 h=> ?_
    refine Yf P2 [1,3] (Ys (Yt (Yn P1 ?_)))
    refine Yl h fun v26 h=> ?_
    refine Yf P2 [1,3,26,27,28] (Yd 0 ?_)
    obtain⟨I,μ,h0,hr⟩:=h
    refine znb (fun m l w=>∃(least:Int) (t28:Int),l=[(1,pv_ b_),(3,Vi least),(26,sv_ v26),(27,Vi ((v26.len:Nat):Int)),(28,Vi t28)]∧I least t28 w∧μ least t28 w=m) ⟨(IntKind.i64.wrap (v23+2)),0,rfl,h0,rfl⟩ ?_
    rintro _ _ w3 ⟨least,t28,rfl,hI,rfl⟩
    obtain⟨again_,again__h,h⟩:∃ again_:Int→Int→WP,(∀ least' t28' w',again_ least' t28' w'→I least' t28' w'∧μ least' t28' w'<μ least t28 w3)∧F_xc R b_ v26 again_ least t28 w3:=⟨_,fun _ _ _ h=>h,hr least t28 w3 hI⟩
    clear h0 hI
    unfold F_xc at h
    refine Yp P1 [1,3,26,27,28,29] (Ys ?_)
    refine Yc h (fun h=> ?_) fun h=> ?_
    ·refine zk (Ys (Yd 1 (Yt ?_)))
     obtain⟨hp_7,h⟩:=h
     refine Yu 26 (fun pp=> .slice pp v26.len v26.cap) hp_7 ?_
     refine Yi1 h fun h=> ?_
     refine Yl h fun n_ h=> ?_
     refine Yn P1 (Yu 26 (fun pp=> .slice pp v26.len v26.cap) hp_7.symm ?_)
     refine Yf [] [1,3,5,26,27,28] (Ys (Yp [.plain,.plain,.plain,.plain,.plain,.plain,.pick] [1,5,26,27,28,38] ?_))
     refine Yc h (fun h=> ?_) fun h=> ?_
     ·refine Yp P1 [2] ?_
      exact YS ⟨1,rfl,h⟩
     ·refine zk (Yr (Yf P3 [1,3,26,27,28] (Yr (Yf P2 [1,3,26,27,28] ?_))))
      have hb_:=again__h _ _ _ h
      exact⟨_,hb_.2,_,Sub.mk K_,(IntKind.i64.wrap (n_+1)),(IntKind.i64.wrap (t28+1)),rfl,hb_.1,rfl⟩
    ·refine z3 0 (Ys (Yt (Yn P1 ?_)))
     refine Yl h fun v44 h=> ?_
     refine Ym2 h fun v45 e w4 h=> ?_
     refine Yf (Pl 5) [1,7] (Yp P2 [1,49] ?_)
     refine Yc h (fun h=> ?_) fun h=> ?_
     ·refine Yp P1 [2] ?_
      exact YS ⟨1,rfl,h⟩
     ·refine zk (Ys (Yt (Yn P1 ?_)))
      refine Yl h fun v51 h=> ?_
      refine Yf P2 [1,51,52,53] (Yd 2 ?_)
      obtain⟨I,μ,h0,hr⟩:=h
      refine znb (fun m l w=>∃(t53:Int),l=[(1,pv_ b_),(51,sv_ v51),(52,Vi ((v51.len:Nat):Int)),(53,Vi t53)]∧I t53 w∧μ t53 w=m) ⟨0,rfl,h0,rfl⟩ ?_
      rintro _ _ w5 ⟨t53,rfl,hI,rfl⟩
      obtain⟨again_1,again_1_h,h⟩:∃ again_1:Int→WP,(∀ t53' w',again_1 t53' w'→I t53' w'∧μ t53' w'<μ t53 w5)∧F_wc R b_ v51 again_1 t53 w5:=⟨_,fun _ _ h=>h,hr t53 w5 hI⟩
      clear h0 hI
      unfold F_wc at h
      refine Yp P1 [1,51,52,53,54] (Ys ?_)
      refine Yc h (fun h=> ?_) fun h=> ?_
      ·refine zk (Ys (Yd 3 (Yt ?_)))
       obtain⟨hp_27,h⟩:=h
       refine Yu 51 (fun pp=> .slice pp v51.len v51.cap) hp_27 ?_
       refine Yi h fun h=> ?_
       refine YL h fun v56 h=> ?_
       refine Yw pv_ h fun b_1 w6 h=> ?_
       refine Yo h fun w7 h=> ?_
       refine Yu 51 (fun pp=> .slice pp v51.len v51.cap) hp_27.symm ?_
       refine Yf [] [1,9,51,52,53] (Yt (Yn P1 ?_))
       refine Yl h fun v58 h=> ?_
       refine Yf P2 [1,51,52,53,58,59,60] (Yd 4 ?_)
       obtain⟨I,μ,h0,hr⟩:=h
       refine znb (fun m l w=>∃(t60:Int),l=[(1,pv_ b_),(51,sv_ v51),(52,Vi ((v51.len:Nat):Int)),(53,Vi t53),(58,sv_ v58),(59,Vi ((v58.len:Nat):Int)),(60,Vi t60)]∧I t60 w∧μ t60 w=m) ⟨0,rfl,h0,rfl⟩ ?_
       rintro _ _ w8 ⟨t60,rfl,hI,rfl⟩
       obtain⟨again_2,again_2_h,h⟩:∃ again_2:Int→WP,(∀ t60' w',again_2 t60' w'→I t60' w'∧μ t60' w'<μ t60 w8)∧F_fd R b_ t53 again_1 v58 again_2 t60 w8:=⟨_,fun _ _ h=>h,hr t60 w8 hI⟩
       clear h0 hI
       unfold F_fd at h
       refine Yp P1 [1,51,52,53,58,59,60,61] (Ys ?_)
       refine Yc h (fun h=> ?_) fun h=> ?_
       ·refine zk (Ys (Yd 5 (Yt (Yn P1 ?_))))
        obtain⟨hp_31,h⟩:=h
        refine Yu 58 (fun pp=> .slice pp v58.len v58.cap) hp_31 ?_
        refine Yi h fun h=> ?_
        refine YL h fun v64 h=> ?_
        refine Yw pv_ h fun b_2 w9 h=> ?_
        refine Yn P1 ?_
        refine Yo h fun w10 h=> ?_
        refine Yu 58 (fun pp=> .slice pp v58.len v58.cap) hp_31.symm ?_
        refine Yf [] [1,10,11,51,52,53,58,59,60] (Ys ?_)
        refine Ycut (fun l w=>∃(t77:Bool),l=[(1,pv_ b_),(11,pv_ b_2),(51,sv_ v51),(52,Vi ((v51.len:Nat):Int)),(53,Vi t53),(58,sv_ v58),(59,Vi ((v58.len:Nat):Int)),(60,Vi t60),(77,Vo t77)]∧F_Lb R b_ t60 again_2 b_2 t77 w) ?_ ?_
        ·refine Yr (Yn P1 ?_)
         refine Yl h fun v66 h=> ?_
         refine Yn P1 ?_
         refine Yl h fun v68 h=> ?_
         refine Yn (Pl 6) ?_
         refine Yspl 70 h (fun h=> ?_) fun h=> ?_
         ·refine Yspl 73 h (fun h=> ?_) fun h=> ?_
          ·refine Yf [.skip,.sure,.plain] [1,11,51,52,53,58,59,60,77] ?_
           exact⟨_,Sub.mk K_,true,rfl,h⟩
          ·refine Yl h fun v75 h=> ?_
           refine Yf [.sure,.plain] [1,11,51,52,53,58,59,60,77] ?_
           exact⟨_,Sub.mk K_,v75,rfl,h⟩
         ·refine Yf [.skip,.skip,.plain] [1,11,51,52,53,58,59,60,77] ?_
          exact⟨_,Sub.mk K_,false,rfl,h⟩
        ·rintro _ w11 ⟨t77,rfl,h⟩
         unfold F_Lb at h
         refine Yc h (fun h=> ?_) fun h=> ?_
         ·refine Yp P1 [2] ?_
          exact YS ⟨1,rfl,h⟩
         ·refine zk (Yt (Yn P1 ?_))
          refine Yl h fun v80 h=> ?_
          refine Yn P1 ?_
          refine Yl h fun v82 h=> ?_
          refine Ym2 h fun v83 ok w12 h=> ?_
          refine Yf (Pl 5) [1,11,13,51,52,53,58,59,60] (Yt (Yn P1 ?_))
          refine Yl h fun v87 h=> ?_
          refine Yn P1 ?_
          refine Yl h fun v89 h=> ?_
          refine Yf [.plain,.plain,.plain,.plain,.pick] [1,51,52,53,58,59,60,94] ?_
          refine Yc h (fun h=> ?_) fun h=> ?_
          ·refine Yp P1 [2] ?_
           exact YS ⟨1,rfl,h⟩
          ·refine zk (Yr (Yf P2 [1,51,52,53,58,59,60] ?_))
           have hb_:=again_2_h _ _ h
           exact⟨_,hb_.2,_,Sub.mk K_,(IntKind.i64.wrap (t60+1)),rfl,hb_.1,rfl⟩
       ·refine z3 4 (Yr (Yf P2 [1,51,52,53] ?_))
        have hb_:=again_1_h _ _ h
        exact⟨_,hb_.2,_,Sub.mk K_,(IntKind.i64.wrap (t53+1)),rfl,hb_.1,rfl⟩
      ·refine z3 2 (Yp P1 [2] ?_)
       exact YS ⟨0,rfl,h⟩
end
end Go.Proofs.YtofjmclceflgiaaGreat
