/- WRITTEN BY PROGRAM (dec.py): for each Go function the clean formula F, the call's contract C, and the proof S that F gives C. -/
import Derived.Test.YtofjmclceflgiaaGreatRows
import Derived.Test.YtofjmclceflgiaaGreatGF
namespace Go.Proofs.YtofjmclceflgiaaGreat
open Go
set_option linter.unusedVariables false
set_option maxRecDepth 100000
set_option maxHeartbeats 4000000
noncomputable section

/-! ### towpath/chain.Check (function 101) -/
def zxt:=cb_ Tryz.f101
def zyt:=cr_ zxt
def zzt:=cl_ zyt
def zAt:=cr_ zzt
def zBt:=cl_ zAt
def zCt:=cl_ zBt
def zwq:=cr_ zCt
def zxq:=cr_ zwq
def zyq:=cl_ zxq
def zzq:=cl_ zyq
def zAq:=cr_ zzq
def zBq:=cl_ zAq
def zCq:=co_ zBq

theorem S_Lb {l_:Slc} {w:World} {R:Int→WP} (h:F_pd l_ R w):C_S l_ w R:=by
 unfold F_pd at h
 refine Yh Tryz.func101 ?_
 ·refine Yp P1 [0] (Ys (Yp P3 [0,5,6,7] (Yd 0 ?_)))
  obtain⟨I,μ,h0,hr⟩:=h
  refine znb (fun m l w=>∃(t7:Int),l=[(0,sv_ l_),(5,sv_ l_),(6,Vi ((l_.len:Nat):Int)),(7,Vi t7)]∧I t7 w∧μ t7 w=m) ⟨0,rfl,h0,rfl⟩ ?_
  rintro _ _ w1 ⟨t7,rfl,hI,rfl⟩
  obtain⟨again_,again__h,h⟩:∃ again_:Int→WP,(∀ t7' w',again_ t7' w'→I t7' w'∧μ t7' w'<μ t7 w1)∧F_dc l_ R again_ t7 w1:=⟨_,fun _ _ h=>h,hr t7 w1 hI⟩
  clear h0 hI
  unfold F_dc at h
  refine Yp P1 [0,5,6,7,8] (Ys ?_)
  refine Yc h (fun h=> ?_) fun h=> ?_
  ·refine zk (Ys (Yd 1 (Yt (Yn P1 ?_))))
   obtain⟨hp_19,h⟩:=h
   refine Yu 5 (fun pp=> .slice pp l_.len l_.cap) hp_19 ?_
   refine Yi h fun h=> ?_
   refine YL h fun v11 h=> ?_
   refine Yw pv_ h fun b_ w2 h=> ?_
   refine Yn P1 ?_
   refine Yo h fun w3 h=> ?_
   refine Yu 5 (fun pp=> .slice pp l_.len l_.cap) hp_19.symm ?_
   refine Yf [] [0,3,4,5,6,7] ?_
   refine Ycut (fun l w=>∃(t49:Bool),l=[(0,sv_ l_),(5,sv_ l_),(6,Vi ((l_.len:Nat):Int)),(7,Vi t7),(49,Vo t49)]∧F_c R t7 again_ t49 w) ?_ ?_
   ·refine zv (id:=4) (ops:=zCq) K_ K_ K_ ?_
    refine Qn P1 ?_
    refine Ql h fun v13 h=> ?_
    refine Qn P3 ?_
    refine Qspl 15 h (fun h=> ?_) fun h=> ?_
    ·refine Qf [.skip,.skip,.plain,.plain,.skip,.skip,.skip,.skip,.plain,.plain,.skip,.skip,.skip,.skip,.skip,.skip,.skip,.plain,.plain,.skip,.skip,.skip,.skip,.skip,.skip,.skip,.skip,.skip,.skip,.skip,.skip,.skip,.plain] [0,5,6,7,49] h fun w5 h=> ?_
     exact⟨_,Sub.mk K_,true,rfl,h⟩
    ·refine Ql h fun v17 h=> ?_
     refine Qn [.sure,.plain,.plain,.plain] ?_
     refine Qspl 20 h (fun h=> ?_) fun h=> ?_
     ·refine Qf [.skip,.skip,.skip,.plain,.plain,.skip,.skip,.skip,.skip,.skip,.skip,.skip,.plain,.plain,.skip,.skip,.skip,.skip,.skip,.skip,.skip,.skip,.skip,.skip,.skip,.skip,.skip,.plain] [0,5,6,7,49] h fun w6 h=> ?_
      exact⟨_,Sub.mk K_,true,rfl,h⟩
     ·refine Ql h fun v22 h=> ?_
      refine Qn [.sure,.sure,.plain,.plain,.plain] ?_
      refine Qspl 26 h (fun h=> ?_) fun h=> ?_
      ·refine Qf [.skip,.skip,.skip,.skip,.skip,.skip,.plain,.plain,.skip,.skip,.skip,.skip,.skip,.skip,.skip,.skip,.skip,.skip,.skip,.skip,.skip,.plain] [0,5,6,7,49] h fun w7 h=> ?_
       exact⟨_,Sub.mk K_,true,rfl,h⟩
      ·refine Ql h fun v28 h=> ?_
       refine Qn [.sure,.plain] ?_
       refine Qspl 29 h (fun h=> ?_) fun h=> ?_
       ·refine Ql h fun v31 h=> ?_
        refine Qn [.sure,.sure,.plain,.plain,.plain,.plain,.plain,.plain,.plain,.plain] ?_
        refine Qspl 35 h (fun h=> ?_) fun h=> ?_
        ·refine Qf [.skip,.skip,.skip,.skip,.skip,.skip,.skip,.plain] [0,5,6,7,49] h fun w8 h=> ?_
         exact⟨_,Sub.mk K_,true,rfl,h⟩
        ·refine Qspl 38 h (fun h=> ?_) fun h=> ?_
         ·obtain⟨hp_22,h⟩:=h
          refine Qu 39 (fun pp=> .slice pp l_.len l_.cap) hp_22 ?_
          refine Qi h fun h=> ?_
          refine Qn [.sure] ?_
          refine Ql h fun v44 h=> ?_
          refine Qn [.sure] ?_
          refine Ql h fun v46 h=> ?_
          refine Qf [.sure,.sure,.plain] [0,5,6,7,49] h fun w9 h=> ?_
          exact⟨_,Sub.mk K_,(decide (v44≥v46)),rfl,h⟩
         ·refine Qf [.skip,.skip,.skip,.skip,.skip,.skip,.sure,.plain] [0,5,6,7,49] h fun w10 h=> ?_
          exact⟨_,Sub.mk K_,false,rfl,h⟩
       ·refine Qn [.skip,.skip,.sure,.plain,.plain,.sure,.sure,.sure,.plain,.plain,.plain] ?_
        refine Qspl 38 h (fun h=> ?_) fun h=> ?_
        ·obtain⟨hp_23,h⟩:=h
         refine Qu 39 (fun pp=> .slice pp l_.len l_.cap) hp_23 ?_
         refine Qi h fun h=> ?_
         refine Qn [.sure] ?_
         refine Ql h fun v441 h=> ?_
         refine Qn [.sure] ?_
         refine Ql h fun v461 h=> ?_
         refine Qf [.sure,.sure,.plain] [0,5,6,7,49] h fun w11 h=> ?_
         exact⟨_,Sub.mk K_,(decide (v441≥v461)),rfl,h⟩
        ·refine Qf [.skip,.skip,.skip,.skip,.skip,.skip,.sure,.plain] [0,5,6,7,49] h fun w12 h=> ?_
         exact⟨_,Sub.mk K_,false,rfl,h⟩
   ·rintro _ w4 ⟨t49,rfl,h⟩
    unfold F_c at h
    refine Yc h (fun h=> ?_) fun h=> ?_
    ·refine Yp P1 [2] ?_
     exact YS ⟨1,rfl,h⟩
    ·refine zk (Yr (Yf P2 [0,5,6,7] ?_))
     have hb_:=again__h _ _ h
     exact⟨_,hb_.2,_,Sub.mk K_,(IntKind.i64.wrap (t7+1)),rfl,hb_.1,rfl⟩
  ·refine z3 0 (Yp P1 [2] ?_)
   exact YS ⟨0,rfl,h⟩

/-! ### towpath/chain.Put (function 264) -/
def zDt:=cb_ Tryz.f264
def zEt:=cr_ zDt
def zDq:=cr_ zEt
def zLl:=cr_ zDq
def zEq:=cl_ zLl
def zFq:=cl_ zEq
def zGq:=co_ zFq
def zHq:=cr_ zLl
def zIq:=cl_ zHq
def zJq:=co_ zIq
def zsf:List Nat:=[0,2,3,1,4,5,6,7,8]
def zse:List Nat:=[0,2,3,1,4,5,6,7,8]
def zte:List Nat:=[0,2,3,4,1,5,6,7,8]

theorem S_Xb {l_:Slc} {v:T_j} {w:World} {R:Slc→Bool→Int→WP} (h:F_Hd l_ v R w):C_9b l_ v w R:=by
 unfold F_Hd at h
 refine Yh Tryz.func264 ?_
 ·refine Yt ?_
  refine Yw pv_ h fun b_ w1 h=> ?_
  refine Yf P3 [0,3] (Ys ?_)
  refine Ycut (fun l w=>∃(t16:Bool),l=[(0,sv_ l_),(3,pv_ b_),(16,Vo t16)]∧F_jb l_ R b_ t16 w) ?_ ?_
  ·refine Yr (Yn P1 ?_)
   refine Ym1 h fun v9 w15 h=> ?_
   refine Yn P2 ?_
   refine Yspl 11 h (fun h=> ?_) fun h=> ?_
   ·refine Yf [.skip,.skip,.skip,.skip,.plain] [0,3,16] ?_
    exact⟨_,Sub.mk K_,true,rfl,h⟩
   ·refine YL h fun v12 h=> ?_
    refine Yw (sl_ 1 1) h fun b_3 w16 h=> ?_
    refine Ym1 h fun v14 w17 h=> ?_
    refine Yf [.sure,.plain] [0,3,16] ?_
    exact⟨_,Sub.mk K_,(v14 != 0),rfl,h⟩
  ·rintro _ w2 ⟨t16,rfl,h⟩
   unfold F_jb at h
   refine Yc h (fun h=> ?_) fun h=> ?_
   ·refine Yp P3 [4,5,6] ?_
    exact YT3 ⟨(Slc.mk none 0 0),false,1,rfl,h⟩
   ·refine zk (Yt (Yn P2 ?_))
    refine Yl h fun v19 h=> ?_
    refine Ym1 h fun v20 w3 h=> ?_
    refine Yf P1 [0,3,7] (Ys ?_)
    refine Ycut (fun l w=>∃(t33:Bool),l=[(0,sv_ l_),(3,pv_ b_),(7,Vi v20),(33,Vo t33)]∧F_ib l_ R b_ v20 t33 w) ?_ ?_
    ·refine zv (id:=4) (ops:=zGq) K_ K_ K_ ?_
     refine Qn (Pl 6) ?_
     refine Qspl 23 h (fun h=> ?_) fun h=> ?_
     ·obtain⟨hp_3,h⟩:=h
      refine Qu 24 (fun pp=> .slice pp l_.len l_.cap) hp_3 ?_
      refine Qi h fun h=> ?_
      refine Qn [.sure] ?_
      refine Ql h fun v29 h=> ?_
      refine Qn [.sure] ?_
      refine Ql h fun v31 h=> ?_
      refine Qf [.sure,.plain] [0,3,7,33] h fun w13 h=> ?_
      exact⟨_,Sub.mk K_,(v29==v31),rfl,h⟩
     ·refine Qf [.skip,.skip,.skip,.skip,.skip,.skip,.plain] [0,3,7,33] h fun w14 h=> ?_
      exact⟨_,Sub.mk K_,false,rfl,h⟩
    ·rintro _ w4 ⟨t33,rfl,h⟩
     unfold F_ib at h
     refine Yc h (fun h=> ?_) fun h=> ?_
     ·refine Yt (Yn P1 ?_)
      refine Ym1 h fun v35 w5 h=> ?_
      refine Yf P3 [4,5,6] ?_
      exact YT3 ⟨v35,false,0,rfl,h⟩
     ·refine zk (Ys ?_)
      refine zm (id:=6) (ops:=zJq) zsf K_ K_ K_ K_ (fun w6 hw=> ?_)
      replace h:=h w6 hw
      clear hw
      refine Mn P2 ?_
      refine ML 3 h fun v39 hc h=> ?_
      refine ztc 1 [1,4] K_ K_ (zWd ?_ ?_)
      ·replace h:=h.1
       refine z0c (π:=zse) (k:=3) (op:=(Op.call (Call.mk (Callee.value (Operand.func 63)) #[(Operand.tmp 36)] #[87]))) (ty:=87) (dst:=some 37) 1 [0] [(3,fun w'=>zc w' b_ 0 [Vi v39.Number,Value.string v39.Val,Vo v39.Drop])] 63 #[sv_ l_] K_ K_ K_ K_ K_ K_ (fun ww=>by kernel_rfl) (Calls.mono h ?_)
       rintro _ w7 ⟨v37,rfl,h⟩
       obtain⟨hk0,h⟩:=h
       refine⟨_,rfl,⟨hk0,trivial⟩,?_⟩
       refine z7 (op:=(Op.buildSlice 87 1 #[(0,(Operand.tmp 39))])) (ty:=87) (dst:=some 40) 4 [3] [] (fun bb=>Value.slice (some ⟨bb,0,none⟩) 1 1) (Obj.cells ([Vi v39.Number,Value.string v39.Val,Vo v39.Drop]).toArray y_d (0,0)) K_ K_ K_ K_ K_ K_ (fun b_1 w8 hb hw=> ?_)
       replace h:=h b_1 w8 hb hw
       clear hb hw
       refine⟨trivial,?_⟩
       refine zt (op:=(Op.call (Call.mk (Callee.value (Operand.func 272)) #[(Operand.tmp 37),(Operand.tmp 38),(Operand.tmp 40)] #[87,3,87]))) (ty:=87) (dst:=some 41) 5 [1,2,4,0,3] [] 272 #[sv_ v37,Vi v20,Value.slice (some ⟨b_1,0,none⟩) 1 1] K_ K_ K_ K_ K_ (fun ww=>by kernel_rfl) (Calls.mono h ?_)
       rintro _ w9 ⟨v41,rfl,h⟩
       refine⟨_,rfl,trivial,?_⟩
       refine Mf P3 [4,5,6] ?_
       exact YT3 ⟨v41,true,0,rfl,h⟩
      ·replace h:=h.2
       refine zgf (π:=zte) (k:=3) (op:=(Op.buildSlice 87 1 #[(0,(Operand.tmp 39))])) (ty:=87) (dst:=some 40) 4 [3] [] (fun bb=>Value.slice (some ⟨bb,0,none⟩) 1 1) (Obj.cells ([Vi v39.Number,Value.string v39.Val,Vo v39.Drop]).toArray y_d (0,0)) K_ K_ K_ K_ K_ K_ K_ (fun b_2 w10 hb hw=> ?_)
       replace h:=h b_2 w10 hb hw
       clear hb hw
       refine⟨trivial,?_⟩
       refine zt (op:=(Op.call (Call.mk (Callee.value (Operand.func 63)) #[(Operand.tmp 36)] #[87]))) (ty:=87) (dst:=some 37) 1 [0] [] 63 #[sv_ l_] K_ K_ K_ K_ K_ (fun ww=>by kernel_rfl) (Calls.mono h ?_)
       rintro _ w11 ⟨v371,rfl,h⟩
       refine⟨_,rfl,trivial,?_⟩
       refine zt (op:=(Op.call (Call.mk (Callee.value (Operand.func 272)) #[(Operand.tmp 37),(Operand.tmp 38),(Operand.tmp 40)] #[87,3,87]))) (ty:=87) (dst:=some 41) 5 [1,2,4,0,3] [] 272 #[sv_ v371,Vi v20,Value.slice (some ⟨b_2,0,none⟩) 1 1] K_ K_ K_ K_ K_ (fun ww=>by kernel_rfl) (Calls.mono h ?_)
       rintro _ w12 ⟨v411,rfl,h⟩
       refine⟨_,rfl,trivial,?_⟩
       refine Mf P3 [4,5,6] ?_
       exact YT3 ⟨v411,true,0,rfl,h⟩

/-! ### (towpath/chain.list).upto (function 271) -/

theorem S_eb {l_:Slc} {at_:Int} {w:World} {R:Int→WP} (h:F_Sc l_ at_ R w):C_ob l_ at_ w R:=by
 unfold F_Sc at h
 refine Yh Tryz.func271 ?_
 ·refine Yp P1 [0,1] (Yt (Yn (Pl 6) ?_))
  refine Ym1 h fun v11 w1 h=> ?_
  refine Yf P1 [4] ?_
  exact YS ⟨v11,rfl,h⟩

/-! ### (towpath/chain.mark).above (function 275) -/
def zFt:=cb_ Tryz.f275
def zGt:=cr_ zFt
def zHt:=cl_ zGt
def zIt:=co_ zHt

theorem S_1 {m_:T_n} {i:Int} {w:World} {R:Bool→WP} (h:F_Ec m_ i R w):C_Pb m_ i w R:=by
 unfold F_Ec at h
 refine Yh Tryz.func275 ?_
 ·refine Yt ?_
  refine Yw pv_ h fun b_ w1 h=> ?_
  refine Yf P1 [1,2] (Ys ?_)
  refine zv (id:=1) (ops:=zIt) K_ K_ K_ ?_
  refine Qn P1 ?_
  refine Ql h fun v6 h=> ?_
  refine Qn P1 ?_
  obtain⟨hp_0,h⟩:=h
  refine Qu 6 (fun pp=> .slice pp v6.len v6.cap) hp_0 ?_
  refine Qi h fun h=> ?_
  refine Qn P1 ?_
  refine Ql h fun v10 h=> ?_
  refine Qn P1 ?_
  refine Ql h fun v12 h=> ?_
  refine Qf P2 [4] h fun w2 h=> ?_
  exact YS ⟨(decide (v10>v12)),rfl,h⟩
end
end Go.Proofs.YtofjmclceflgiaaGreat
