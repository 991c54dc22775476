/- WRITTEN BY PROGRAM (dec.py): for each Go function the clean formula F, the call's contract C, and the proof S that F gives C. -/
import Derived.Test.YtofjmclceflgiaaGreatRows
import Derived.Test.YtofjmclceflgiaaGreatGF
namespace Go.Proofs.YtofjmclceflgiaaGreat
open Go
set_option linter.unusedVariables false
set_option maxRecDepth 100000
set_option maxHeartbeats 4000000
noncomputable section

/-! ### towpath/logfile.New (function 19) -/
def z1v:=cb_ Tryz.f19
def z2v:=cr_ z1v
def zSs:=cr_ z2v
def zTs:=cr_ zSs
def zUs:=cl_ zTs
def zVs:=cr_ zUs
def zWs:=cl_ zVs
def zXs:=cl_ zWs
def zYs:=cr_ zXs
def zZs:=cr_ zYs
def z0s:=cl_ zZs
def z1s:=cl_ z0s
def z2s:=cr_ z1s
def z3s:=co_ z2s
def zre:List Nat:=[0,1,2,3,4,5,6,7,8,9,10,11]

theorem S_Kb {l_:Slc} {w:World} {R:OA→Int→WP} (h:F_ld l_ R w):C_Qb l_ w R:=by
 unfold F_ld at h
 refine Yh Tryz.func19 ?_
 ·refine Yp P2 [0] (Ys (Yt (Yn P1 ?_)))
  refine Ym1 h fun v9 w1 h=> ?_
  refine Yf P1 [0,4] (Yp P2 [0,4,11] ?_)
  refine Yc h (fun h=> ?_) fun h=> ?_
  ·refine Yp P3 [2,3] ?_
   exact YT2 ⟨none,v9,rfl,h⟩
  ·refine zk (Yt (Yn P1 ?_))
   refine Yw pv_ h fun b_ w2 h=> ?_
   refine Yf P1 [0,5] (Ys (Yp P3 [5,15,16,17] (Yd 0 ?_)))
   obtain⟨I,μ,h0,hr⟩:=h
   refine znb (fun m l w=>∃(t17:Int),l=[(5,pv_ b_),(15,sv_ l_),(16,Vi ((l_.len:Nat):Int)),(17,Vi t17)]∧I t17 w∧μ t17 w=m) ⟨0,rfl,h0,rfl⟩ ?_
   rintro _ _ w3 ⟨t17,rfl,hI,rfl⟩
   obtain⟨again_,again__h,h⟩:∃ again_:Int→WP,(∀ t17' w',again_ t17' w'→I t17' w'∧μ t17' w'<μ t17 w3)∧F_8b l_ R b_ again_ t17 w3:=⟨_,fun _ _ h=>h,hr t17 w3 hI⟩
   clear h0 hI
   unfold F_8b at h
   refine Yp P1 [5,15,16,17,18] (Ys ?_)
   refine Yc h (fun h=> ?_) fun h=> ?_
   ·refine zk (Ys (Yd 1 (Yt ?_)))
    obtain⟨hp_7,h⟩:=h
    refine Yu 15 (fun pp=> .slice pp l_.len l_.cap) hp_7 ?_
    refine Yi h fun h=> ?_
    refine YL h fun v20 h=> ?_
    refine Yw pv_ h fun b_1 w4 h=> ?_
    refine Yo h fun w5 h=> ?_
    refine Yu 15 (fun pp=> .slice pp l_.len l_.cap) hp_7.symm ?_
    refine Yf [] [5,7,15,16,17] ?_
    refine zm (id:=8) (ops:=z3s) zre K_ K_ K_ K_ (fun w6 hw=> ?_)
    replace h:=h w6 hw
    clear hw
    refine Mn P4 ?_
    refine Ml 4 h fun v25 hc h=> ?_
    refine ML 5 h fun v26 hc h=> ?_
    refine zt (op:=(Op.call (Call.mk (Callee.value (Operand.func 35)) #[(Operand.tmp 26)] #[72]))) (ty:=72) (dst:=some 27) 6 [5] [(4,fun w'=>w'.cell? ⟨b_,1,none⟩=some (sv_ v25))] 35 #[Value.agg #[Vi v26.Number,sv_ v26.Writes]] K_ K_ K_ K_ K_ (fun ww=>by kernel_rfl) (Calls.mono h ?_)
    rintro _ w7 ⟨v27,rfl,h⟩
    obtain⟨hk0,h⟩:=h
    refine⟨_,rfl,⟨hk0,trivial⟩,?_⟩
    refine z7 (op:=(Op.buildSlice 24 1 #[(0,(Operand.tmp 27))])) (ty:=24) (dst:=some 28) 7 [6,5] [(4,fun w'=>w'.cell? ⟨b_,1,none⟩=some (sv_ v25))] (fun bb=>Value.slice (some ⟨bb,0,none⟩) 1 1) (Obj.cells ([Vi v27.Number,sv_ v27.Writes]).toArray y_a (0,0)) K_ K_ K_ K_ K_ K_ (fun b_2 w8 hb hw=> ?_)
    replace h:=h b_2 w8 hb hw
    clear hb hw
    obtain⟨hk0,h⟩:=h
    refine⟨⟨hk0,trivial⟩,?_⟩
    obtain⟨src,hs,h⟩:=h
    refine zGb (t:=24) (tx:=24) (e:=72) (a:=(Operand.tmp 25)) (xo:=(Operand.tmp 28)) (s:=v25) (x:=(Slc.mk (some ⟨b_2,0,none⟩) 1 1)) (sz:=2) (by_:=32) (zs:=[Vi 0,Value.slice none 0 0]) (ty:=24) (dst:=some 29) 8 [4,6,7,3,5,2,1] [] src K_ K_ K_ K_ K_ K_ K_ K_ K_ K_ K_ K_ K_ hs (zo.mono h (fun v29 w9 h=> ?_))
    refine⟨trivial,?_⟩
    refine Mn P2 ?_
    refine z3b 11 [0,1,2,3,4,5,6,7,8,10,9] [] h fun w10 h=> ?_
    refine⟨trivial,?_⟩
    refine Mf [] [5,15,16,17] ?_
    refine Yr (Yf P2 [5,15,16,17] ?_)
    have hb_:=again__h _ _ h
    exact⟨_,hb_.2,_,Sub.mk K_,(IntKind.i64.wrap (t17+1)),rfl,hb_.1,rfl⟩
   ·refine z3 0 (Yp P3 [2,3] ?_)
    exact YT2 ⟨(some ⟨b_,0,none⟩),0,rfl,h⟩

/-! ### towpath/logfile.Check (function 34) -/

theorem S_Bb {l_:Slc} {w:World} {R:Int→WP} (h:F_Ad l_ R w):C_Cb l_ w R:=by
 unfold F_Ad at h
 refine Yh Tryz.func34 ?_
 ·refine Yp P1 [0] (Yt ?_)
  refine Ym1 h fun v7 w1 h=> ?_
  refine Yf P1 [0,3] (Ys (Yp P3 [3,8,9,10] (Yd 0 ?_)))
  obtain⟨I,μ,h0,hr⟩:=h
  refine znb (fun m l w=>∃(t10:Int),l=[(3,v7),(8,sv_ l_),(9,Vi ((l_.len:Nat):Int)),(10,Vi t10)]∧I t10 w∧μ t10 w=m) ⟨0,rfl,h0,rfl⟩ ?_
  rintro _ _ w2 ⟨t10,rfl,hI,rfl⟩
  obtain⟨again_,again__h,h⟩:∃ again_:Int→WP,(∀ t10' w',again_ t10' w'→I t10' w'∧μ t10' w'<μ t10 w2)∧F_Kb l_ R v7 again_ t10 w2:=⟨_,fun _ _ h=>h,hr t10 w2 hI⟩
  clear h0 hI
  unfold F_Kb at h
  refine Yp P1 [3,8,9,10,11] (Ys ?_)
  refine Yc h (fun h=> ?_) fun h=> ?_
  ·refine zk (Ys (Yd 1 (Yt ?_)))
   obtain⟨hp_7,h⟩:=h
   refine Yu 8 (fun pp=> .slice pp l_.len l_.cap) hp_7 ?_
   refine Yi h fun h=> ?_
   refine YL h fun v13 h=> ?_
   refine Yw pv_ h fun b_ w3 h=> ?_
   refine Yo h fun w4 h=> ?_
   refine Yu 8 (fun pp=> .slice pp l_.len l_.cap) hp_7.symm ?_
   refine Yf [] [3,5,8,9,10] (Yt (Yn P1 ?_))
   refine YL h fun v15 h=> ?_
   refine zed (fo:=(Operand.tmp 14)) (aa:=#[(Operand.tmp 15)]) (ts:=#[72]) (fv:=v7) (ty:=36) (dst:=some 16) #[Value.agg #[Vi v15.Number,sv_ v15.Writes]] K_ K_ K_ (zbb.mono h ?_)
   rintro _ w5 ⟨v16,rfl,h⟩
   refine⟨_,rfl,?_⟩
   refine Yf P1 [3,6,8,9,10] (Yp P2 [3,6,8,9,10,18] ?_)
   refine Yc h (fun h=> ?_) fun h=> ?_
   ·refine Yp P2 [2] ?_
    exact YS ⟨v16,rfl,h⟩
   ·refine zk (Yr (Yf P2 [3,8,9,10] ?_))
    have hb_:=again__h _ _ h
    exact⟨_,hb_.2,_,Sub.mk K_,(IntKind.i64.wrap (t10+1)),rfl,hb_.1,rfl⟩
  ·refine z3 0 (Yp P1 [2] ?_)
   exact YS ⟨0,rfl,h⟩

/-! ### towpath/logfile.copied (function 35) -/
def z3v:=cb_ Tryz.f35
def z4v:=cr_ z3v
def z5v:=cl_ z4v
def z6v:=co_ z5v
def zYd:List Nat:=[0,1,2,3,4,5,6]

theorem S_lb {t_:T_b} {w:World} {R:T_b→WP} (h:F_Yc t_ R w):C_5 t_ w R:=by
 unfold F_Yc at h
 refine Yh Tryz.func35 ?_
 ·refine Yt ?_
  refine Yw pv_ h fun b_ w1 h=> ?_
  refine Yw pv_ h fun b_1 w2 h=> ?_
  refine Yf [] [1,2] (Ys ?_)
  refine zm (id:=1) (ops:=z6v) zYd K_ K_ K_ K_ (fun w3 hw=> ?_)
  replace h:=h w3 hw
  clear hw
  refine Mn P1 ?_
  refine Ml 1 h fun v4 hc h=> ?_
  refine Mn P1 ?_
  refine Ml 3 h fun v6 hc h=> ?_
  refine zt (op:=(Op.call (Call.mk (Callee.value (Operand.func 56)) #[(Operand.tmp 6)] #[70]))) (ty:=70) (dst:=some 7) 4 [3,2] [(1,fun w'=>w'.cell? ⟨b_,0,none⟩=some (Vi v4))] 56 #[sv_ v6] K_ K_ K_ K_ K_ (fun ww=>by kernel_rfl) (Calls.mono h ?_)
  rintro _ w4 ⟨v7,rfl,h⟩
  obtain⟨hk0,h⟩:=h
  refine⟨_,rfl,⟨hk0,trivial⟩,?_⟩
  refine Mn P1 ?_
  refine z3b 6 [0,1,2,3,4,5] [] h fun w5 h=> ?_
  refine⟨trivial,?_⟩
  refine Mf [] [2] ?_
  obtain⟨res,hc_res,h⟩:=h
  exact YSg (rs:=[(ResultVar.cell 2 72)]) (v:=Value.agg #[Vi res.Number,sv_ res.Writes]) (⟨b_1,0,[Vi res.Number,sv_ res.Writes],K_,hc_res,(zq (k:=2) K_ K_),.inl ⟨K_,rfl⟩,trivial⟩) ⟨res,rfl,h⟩

/-! ### towpath/logfile.turns (function 55) -/

theorem S_Cb {w:World} {R:Value→WP} (h:F_Bd R w):C_3b w R:=by
 unfold F_Bd at h
 refine Yh Tryz.func55 ?_
 ·refine Yp P1 [] (Yt ?_)
  refine Yw pv_ h fun b_ w1 h=> ?_
  refine Yo h fun w2 h=> ?_
  refine Yf [] [1] (Yp P2 [0] ?_)
  exact YS ⟨(Value.func (.func 91) #[] #[pv_ b_]),rfl,h⟩

/-! ### (*towpath/logfile.Source).Last (function 59) -/

theorem S_H {s:OA} {w:World} {R:Int→WP} (h:F_Zb s R w):C_D s w R:=by
 unfold F_Zb at h
 refine Yh Tryz.func59 ?_
 ·refine Yp P1 [0] (Ys (Yt (Yn P1 ?_)))
  refine zw (op:=(Op.binOp BinOp.eql 62 (Operand.tmp 3) (Operand.const (Vp none)) 62)) (ty:=4) (dst:=some 4) (Vo s.isNone) K_ (fun ww=>zy (p:=s) K_ K_ K_ ww) ?_
  refine Yf [] [0,4] ?_
  refine Yc h (fun h=> ?_) fun h=> ?_
  ·refine Yp P1 [2] ?_
   exact YS ⟨0,rfl,h⟩
  ·refine zk (Yt (Yn P1 ?_))
   refine Yv 5 h fun hp_0 h=> ?_
   refine Yn P1 (Yn P1 ?_)
   refine Yl h fun v8 h=> ?_
   refine Yf P2 [2] ?_
   exact YS ⟨((v8.len:Nat):Int),rfl,h⟩

/-! ### towpath/logfile.turns$1 (function 91) -/

theorem S_5 {t_:T_b} {t1:OA} {w:World} {R:Int→WP} (h:F_Kc t_ t1 R w):C_Tb t_ t1 w R:=by
 unfold F_Kc at h
 refine Yh Tryz.func91 ?_
 ·refine Yt ?_
  refine Yw pv_ h fun b_ w1 h=> ?_
  refine Yf P1 [1,2] (Ys (Yt ?_))
  refine YL h fun v5 h=> ?_
  refine Ym1 h fun v6 w2 h=> ?_
  refine Yf P1 [1,2,4] (Yp P2 [1,2,4,8] ?_)
  refine Yc h (fun h=> ?_) fun h=> ?_
  ·refine Yp P2 [3] ?_
   exact YS ⟨v6,rfl,h⟩
  ·refine zk (Ys (Yt (Yn P1 ?_)))
   refine Yl h fun v11 h=> ?_
   refine Yv 1 h fun hp_3 h=> ?_
   refine Yl h fun v12 h=> ?_
   refine Yn P1 (Yu 1 (fun pp=> .pointer pp) hp_3.symm ?_)
   refine Yf [] [1,13] ?_
   refine Yc h (fun h=> ?_) fun h=> ?_
   ·refine Yp P1 [3] ?_
    exact YS ⟨6,rfl,h⟩
   ·refine zk (Yt ?_)
    refine Yv 1 h fun hp_5 h=> ?_
    refine Yl h fun v14 h=> ?_
    refine Yn P1 ?_
    refine Yo h fun w3 h=> ?_
    refine Yf [] [] (Yp P1 [3] ?_)
    exact YS ⟨0,rfl,h⟩

/-! ### (*towpath/logfile.Source).Get (function 221) -/

theorem S_M {s:OA} {number:Int} {w:World} {R:T_b→Int→WP} (h:F_fc s number R w):C_K s number w R:=by
 unfold F_fc at h
 refine Yh Tryz.func221 ?_
 ·refine Yt ?_
  refine Yw pv_ h fun b_ w1 h=> ?_
  refine Yf P1 [0,1,4] (Ys (Yd 0 ?_))
  refine Ycut (fun l w=>∃(t6:Bool),l=[(0,Vp s),(1,Vi number),(4,pv_ b_),(6,Vo t6)]∧F_L s number R b_ t6 w) ?_ ?_
  ·refine Yr (Yn P1 ?_)
   refine zw (op:=(Op.binOp BinOp.eql 62 (Operand.tmp 7) (Operand.const (Vp none)) 62)) (ty:=4) (dst:=some 8) (Vo s.isNone) K_ (fun ww=>zy (p:=s) K_ K_ K_ ww) ?_
   refine Yn P2 ?_
   refine Yspl 9 h (fun h=> ?_) fun h=> ?_
   ·refine Yf [.skip,.skip,.skip,.skip,.plain,.plain] [0,1,4,6] ?_
    exact⟨_,Sub.mk K_,true,rfl,h⟩
   ·refine Yv 10 h fun hp_13 h=> ?_
    refine Yn [.sure] (Yn [.sure] ?_)
    refine Yl h fun v13 h=> ?_
    refine Yf [.sure,.plain,.plain] [0,1,4,6] ?_
    exact⟨_,Sub.mk K_,(!v13),rfl,h⟩
  ·rintro _ w2 ⟨t6,rfl,h⟩
   unfold F_L at h
   refine Yc h (fun h=> ?_) fun h=> ?_
   ·refine Yt (Yn P1 ?_)
    refine Yo h fun w3 h=> ?_
    refine Yf P1 [4,5] ?_
    obtain⟨res,hc_res,h⟩:=h
    exact YTg (rs:=[(ResultVar.cell 4 72),(ResultVar.tmp 5)]) (vs:=[Value.agg #[Vi res.Number,sv_ res.Writes],Vi 2]) (⟨b_,0,[Vi res.Number,sv_ res.Writes],K_,hc_res,(zq (k:=2) K_ K_),.inl ⟨K_,rfl⟩,⟨K_,trivial⟩⟩) ⟨res,2,rfl,h⟩
   ·refine Ycut (fun l w=>∃(t17:Bool),l=[(0,Vp s),(1,Vi number),(4,pv_ b_),(17,Vo t17)]∧F_h s number R b_ t17 w) ?_ ?_
    ·refine Yr (Yn (Pl 5) ?_)
     refine Yspl 20 h (fun h=> ?_) fun h=> ?_
     ·refine Yf [.skip,.skip,.skip,.skip,.skip,.plain,.plain] [0,1,4,17] ?_
      exact⟨_,Sub.mk K_,true,rfl,h⟩
     ·refine Yv 22 h fun hp_12 h=> ?_
      refine Yn [.sure] (Yn [.sure] ?_)
      refine Yl h fun v25 h=> ?_
      refine Yf [.sure,.sure,.plain,.plain] [0,1,4,17] ?_
      exact⟨_,Sub.mk K_,(decide (number>((v25.len:Nat):Int))),rfl,h⟩
    ·rintro _ w4 ⟨t17,rfl,h⟩
     unfold F_h at h
     refine Yc h (fun h=> ?_) fun h=> ?_
     ·refine Yt (Yn P1 ?_)
      refine Yo h fun w5 h=> ?_
      refine Yf P1 [4,5] ?_
      obtain⟨res1,hc_res1,h⟩:=h
      exact YTg (rs:=[(ResultVar.cell 4 72),(ResultVar.tmp 5)]) (vs:=[Value.agg #[Vi res1.Number,sv_ res1.Writes],Vi 1]) (⟨b_,0,[Vi res1.Number,sv_ res1.Writes],K_,hc_res1,(zq (k:=2) K_ K_),.inl ⟨K_,rfl⟩,⟨K_,trivial⟩⟩) ⟨res1,1,rfl,h⟩
     ·refine zk (Yt (Yn P2 ?_))
      refine Yv 31 h fun hp_8 h=> ?_
      refine Yn P1 (Yn P1 ?_)
      refine Yl h fun v34 h=> ?_
      refine Yn P1 ?_
      refine Yw (sl_ 1 1) h fun b_1 w6 h=> ?_
      obtain⟨src,hs,h⟩:=h
      refine zC (t:=25) (tx:=25) (e:=3) (a:=(Operand.tmp 34)) (xo:=(Operand.tmp 36)) (s:=v34) (x:=(Slc.mk (some ⟨b_1,0,none⟩) 1 1)) (sz:=1) (by_:=8) (zs:=[Vi 0]) (ty:=25) (dst:=some 37)  src K_ K_ K_ K_ K_ K_ K_ K_ K_ hs (zo.mono h (fun v37 w7 h=> ?_))
      refine Yv 30 h fun hp_9 h=> ?_
      refine Yn P1 (Yn P1 ?_)
      refine Yo h fun w8 h=> ?_
      refine Yf [] [0,1,4] (Yt (Yn P1 ?_))
      refine Yv 40 h fun hp_10 h=> ?_
      refine Yn P1 (Yn P1 ?_)
      refine Yl h fun v43 h=> ?_
      refine Yn P2 ?_
      obtain⟨hp_11,h⟩:=h
      refine Yu 43 (fun pp=> .slice pp v43.len v43.cap) hp_11 ?_
      refine Yi h fun h=> ?_
      refine YL h fun v47 h=> ?_
      refine Ym1 h fun v48 w9 h=> ?_
      refine Yo h fun w10 h=> ?_
      refine Yf P1 [4,5] ?_
      obtain⟨res2,hc_res2,h⟩:=h
      exact YTg (rs:=[(ResultVar.cell 4 72),(ResultVar.tmp 5)]) (vs:=[Value.agg #[Vi res2.Number,sv_ res2.Writes],Vi 0]) (⟨b_,0,[Vi res2.Number,sv_ res2.Writes],K_,hc_res2,(zq (k:=2) K_ K_),.inl ⟨K_,rfl⟩,⟨K_,trivial⟩⟩) ⟨res2,0,rfl,h⟩
end
end Go.Proofs.YtofjmclceflgiaaGreat
