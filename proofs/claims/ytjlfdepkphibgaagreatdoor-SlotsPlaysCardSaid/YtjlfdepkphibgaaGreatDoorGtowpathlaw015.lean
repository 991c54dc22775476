/- WRITTEN BY PROGRAM (dec.py): for each Go function the clean formula F, the call's contract C, and the proof S that F gives C. -/
import Derived.Test.YtjlfdepkphibgaaGreatDoorRows
import Derived.Test.YtjlfdepkphibgaaGreatDoorGF
namespace Go.Proofs.YtjlfdepkphibgaaGreatDoor
open Go
set_option linter.unusedVariables false
set_option maxRecDepth 100000
set_option maxHeartbeats 4000000
noncomputable section

/-! ### towpath/towpathlaw01.SameHelds (function 91) -/
def zGu:=cb_ Tryz.f91
def zHu:=cr_ zGu
def zfr:=cr_ zHu
def zgr:=cl_ zfr
def zhr:=cr_ zgr
def zir:=cl_ zhr
def zjr:=cl_ zir
def zkr:=cr_ zjr
def zlr:=cl_ zkr
def zmr:=cl_ zlr
def znr:=cl_ zmr
def zor:=co_ znr

theorem S_Ab {a_:Slc} {b_:Slc} {w:World} {R:Bool→WP} (h:F_Ad a_ b_ R w):C_R a_ b_ w R:=by
 unfold F_Ad at h
 refine Yh Tryz.func91 ?_
 ·refine Yp P1 [0,1] (Ys (Yp (Pl 5) [0,1,10] ?_))
  refine Yc h (fun h=> ?_) fun h=> ?_
  ·refine Yp P1 [4] ?_
   exact YS ⟨false,rfl,h⟩
  ·refine zg (Ys (Yp P1 [0,1,5] (Yd 0 ?_)))
   obtain⟨I,μ,h0,hr⟩:=h
   refine zN (fun m l w=>∃(i:Int),l=[(0,sv_ a_),(1,sv_ b_),(5,Vi i)]∧I i w∧μ i w=m) ⟨0,rfl,h0,rfl⟩ ?_
   rintro _ _ w1 ⟨i,rfl,hI,rfl⟩
   obtain⟨again_,again__h,h⟩:∃ again_:Int→WP,(∀ i' w',again_ i' w'→I i' w'∧μ i' w'<μ i w1)∧F_Qb a_ b_ R again_ i w1:=⟨_,fun _ _ h=>h,hr i w1 hI⟩
   clear h0 hI
   unfold F_Qb at h
   refine Ys (Yp P4 [0,1,5,14] ?_)
   refine Yc h (fun h=> ?_) fun h=> ?_
   ·refine zg (Ys (Yd 1 (Ys ?_)))
    refine zO (id:=6) (ops:=zor) K_ K_ K_ ?_
    refine Qn P2 ?_
    obtain⟨hp_14,h⟩:=h
    refine Qu 17 (fun pp=> .slice pp a_.len a_.cap) hp_14 ?_
    refine Qi h fun h=> ?_
    refine QL h fun v20 h=> ?_
    refine Qn P2 ?_
    obtain⟨hp_15,h⟩:=h
    refine Qu 21 (fun pp=> .slice pp b_.len b_.cap) hp_15 ?_
    refine Qi h fun h=> ?_
    refine QL h fun v24 h=> ?_
    obtain⟨v25,hq,h⟩:=h
    refine zLb (op:=(Op.call (Call.mk (Callee.value (Operand.func 140)) #[(Operand.tmp 20),(Operand.tmp 24)] #[141,141]))) (ty:=4) (dst:=some 25) 140 #[Value.agg #[Value.string v20.Key,sv_ v20.Versions],Value.agg #[Value.string v24.Key,sv_ v24.Versions]] (Vo v25) K_ (fun ww=>by kernel_rfl) (fun w' he=>Calls.mono (hq w' he) (by rintro _ w'' ⟨_,rfl,rfl,hE⟩; exact⟨rfl,hE⟩)) ?_
    clear hq
    refine Qf P1 [0,1,5,26] h fun w3 h=> ?_
    refine Yc h (fun h=> ?_) fun h=> ?_
    ·refine Yp P1 [4] ?_
     exact YS ⟨false,rfl,h⟩
    ·refine zg (Yr (Yf P3 [0,1,5] ?_))
     have hb_:=again__h _ _ h
     exact⟨_,hb_.2,_,Sub.mk K_,(IntKind.i64.wrap (i+1)),rfl,hb_.1,rfl⟩
   ·refine zM 0 (Yp P1 [4] ?_)
    exact YS ⟨true,rfl,h⟩

/-! ### towpath/towpathlaw01.markInt (function 95) -/

theorem S_Qb {n_:Int} {w:World} {R:Int→WP} (h:F_Pd n_ R w):C_nb n_ w R:=by
 unfold F_Pd at h
 refine Yh Tryz.func95 ?_
 ·refine Yp P1 [0] (Yp P3 [2] ?_)
  exact YS ⟨(IntKind.i64.wrap ((-1000) - n_)),rfl,h⟩

/-! ### towpath/towpathlaw01.markVersion (function 99) -/

theorem S_bb {n_:Int} {w:World} {R:T_c→WP} (h:F_dd n_ R w):C_B n_ w R:=by
 unfold F_dd at h
 refine Yh Tryz.func99 ?_
 ·refine Yt ?_
  refine Yw pv_ h fun b_ w1 h=> ?_
  refine Yf [] [0,2] (Yt (Yn P3 ?_))
  refine Yo h fun w2 h=> ?_
  refine Yf [] [2] ?_
  obtain⟨res,hc_res,h⟩:=h
  exact YSg (rs:=[(ResultVar.cell 2 130)]) (v:=Value.agg #[Vi res.Number,Value.string res.Val,Vo res.Drop]) (⟨b_,0,[Vi res.Number,Value.string res.Val,Vo res.Drop],K_,hc_res,(zx (k:=3) K_ K_),.inl ⟨K_,rfl⟩,trivial⟩) ⟨res,rfl,h⟩

/-! ### towpath/towpathlaw01.markHeld (function 101) -/

theorem S_Kb {n_:Int} {w:World} {R:T_d→WP} (h:F_Jd n_ R w):C_6 n_ w R:=by
 unfold F_Jd at h
 refine Yh Tryz.func101 ?_
 ·refine Yt ?_
  refine Yw pv_ h fun b_ w1 h=> ?_
  refine Yf [] [0,2] (Yt (Yn P1 ?_))
  refine Ym1 h fun v4 w2 h=> ?_
  refine Yn P1 ?_
  refine Yo h fun w3 h=> ?_
  refine Yf [] [2] ?_
  obtain⟨res,hc_res,h⟩:=h
  exact YSg (rs:=[(ResultVar.cell 2 141)]) (v:=Value.agg #[Value.string res.Key,sv_ res.Versions]) (⟨b_,0,[Value.string res.Key,sv_ res.Versions],K_,hc_res,(zx (k:=2) K_ K_),.inl ⟨K_,rfl⟩,trivial⟩) ⟨res,rfl,h⟩

/-! ### towpath/towpathlaw01.isInt (function 106) -/

theorem S_Yb {x:Int} {n_:Int} {w:World} {R:Bool→WP} (h:F_5d x n_ R w):C_Eb x n_ w R:=by
 unfold F_5d at h
 refine Yh Tryz.func106 ?_
 ·refine Yp P1 [0,1] (Yp (Pl 5) [4] ?_)
  exact YS ⟨(x==(IntKind.i64.wrap ((-1000) - n_))),rfl,h⟩

/-! ### towpath/towpathlaw01.isVersion (function 110) -/

theorem S_Bb {x:T_c} {n_:Int} {w:World} {R:Bool→WP} (h:F_Cd x n_ R w):C_S x n_ w R:=by
 unfold F_Cd at h
 refine Yh Tryz.func110 ?_
 ·refine Yt ?_
  refine Yw pv_ h fun b_ w1 h=> ?_
  refine Yf P1 [1,2] (Yt ?_)
  refine YL h fun v5 h=> ?_
  refine Yn P3 ?_
  refine zP (op:=(Op.binOp BinOp.eql 130 (Operand.tmp 5) (Operand.tmp 8) 130)) (ty:=4) (dst:=some 9) (Vo (((v5.Number==(IntKind.i64.wrap ((-1000) - n_)))&&(v5.Val==ByteArray.empty))&&(v5.Drop==false))) K_ (fun ww=>zGd (xs:=[Vi v5.Number,Value.string v5.Val,Vo v5.Drop]) (ys:=[Vi (IntKind.i64.wrap ((-1000) - n_)),Value.string ByteArray.empty,Vo false]) K_ K_ K_ K_ K_ ww) ?_
  refine Yf P1 [4] ?_
  exact YS ⟨(((v5.Number==(IntKind.i64.wrap ((-1000) - n_)))&&(v5.Val==ByteArray.empty))&&(v5.Drop==false)),rfl,h⟩

/-! ### towpath/towpathlaw01.isHeld (function 112) -/
def zpr:=cb_ Tryz.f112
def zqr:=cr_ zpr
def zrr:=cl_ zqr
def zsr:=co_ zrr
def z7c:List Nat:=[0,1,2,3,4,5,6,7,8,9,10,11]

theorem S_Sb {x:T_d} {n_:Int} {w:World} {R:Bool→WP} (h:F_Td x n_ R w):C_G x n_ w R:=by
 unfold F_Td at h
 refine Yh Tryz.func112 ?_
 ·refine Yt ?_
  refine Yw pv_ h fun b_ w1 h=> ?_
  refine Yf P1 [1,2] (Ys ?_)
  refine zm (id:=1) (ops:=zsr) z7c K_ K_ K_ K_ (fun w2 hw=> ?_)
  replace h:=h w2 hw
  clear hw
  refine Mn P1 ?_
  refine Ml 1 h fun v6 hc h=> ?_
  refine Mn P1 ?_
  refine zo (op:=(Op.call (Call.mk (Callee.value (Operand.func 141)) #[(Operand.tmp 7)] #[3]))) (ty:=9) (dst:=some 8) 3 [2] [(1,fun w'=>w'.cell? ⟨b_,0,none⟩=some (Value.string v6))] 141 #[Vi n_] K_ K_ K_ K_ K_ (fun ww=>by kernel_rfl) (Calls.mono h ?_)
  rintro _ w3 ⟨v8,rfl,h⟩
  obtain⟨hk0,h⟩:=h
  refine⟨_,rfl,⟨hk0,trivial⟩,?_⟩
  refine Mn P3 ?_
  refine Mspl 10 h (fun h=> ?_) fun h=> ?_
  ·refine Ml 7 h fun v12 hc h=> ?_
   refine Mf [.sure,.sure,.plain,.plain] [4] ?_
   exact YS ⟨(((v12.len:Nat):Int)==0),rfl,h⟩
  ·refine Mf [.skip,.skip,.skip,.plain,.plain] [4] ?_
   exact YS ⟨false,rfl,h⟩

/-! ### towpath/towpathlaw01.VersionsSize (function 116) -/

theorem S_1 {l_:Slc} {w:World} {R:Int→WP} (h:F_Wd l_ R w):C_wb l_ w R:=by
 unfold F_Wd at h
 refine Yh Tryz.func116 ?_
 ·refine Yp P1 [0] (Yp P3 [0,3] (Ys (Yp P1 [0,3,4] (Yd 0 ?_))))
  obtain⟨I,μ,h0,hr⟩:=h
  refine zN (fun m l w=>∃(n_:Int) (i:Int),l=[(0,sv_ l_),(3,Vi n_),(4,Vi i)]∧I n_ i w∧μ n_ i w=m) ⟨((l_.len:Nat):Int),0,rfl,h0,rfl⟩ ?_
  rintro _ _ w1 ⟨n_,i,rfl,hI,rfl⟩
  obtain⟨again_,again__h,h⟩:∃ again_:Int→Int→WP,(∀ n_' i' w',again_ n_' i' w'→I n_' i' w'∧μ n_' i' w'<μ n_ i w1)∧F_ub l_ R again_ n_ i w1:=⟨_,fun _ _ _ h=>h,hr n_ i w1 hI⟩
  clear h0 hI
  unfold F_ub at h
  refine Ys (Yp [.plain,.plain,.plain,.plain,.plain,.plain,.plain,.pick] [0,3,4,14] ?_)
  refine Yc h (fun h=> ?_) fun h=> ?_
  ·refine zg (Ys (Yd 1 (Yr (Yn P3 ?_))))
   obtain⟨hp_3,h⟩:=h
   refine Yu 18 (fun pp=> .slice pp l_.len l_.cap) hp_3 ?_
   refine Yi h fun h=> ?_
   refine Yn P1 ?_
   refine Yl h fun v22 h=> ?_
   refine Yf P3 [0,3,4] (Yr (Yf P3 [0,3,4] ?_))
   have hb_:=again__h _ _ _ h
   exact⟨_,hb_.2,_,Sub.mk K_,(IntKind.i64.wrap (n_+((v22.size:Nat):Int))),(IntKind.i64.wrap (i+1)),rfl,hb_.1,rfl⟩
  ·refine zM 0 (Yp P2 [2] ?_)
   exact YS ⟨n_,rfl,h⟩

/-! ### towpath/towpathlaw01.TwinHeld (function 117) -/
def ztr:=cb_ Tryz.f117
def zur:=cr_ ztr
def zvr:=cl_ zur
def zwr:=co_ zvr
def zFc:List Nat:=[0,1,2,3,4,5,6]

theorem S_Lb {x:T_d} {w:World} {R:T_d→WP} (h:F_Kd x R w):C_3b x w R:=by
 unfold F_Kd at h
 refine Yh Tryz.func117 ?_
 ·refine Yt ?_
  refine Yw pv_ h fun b_ w1 h=> ?_
  refine Yw pv_ h fun b_1 w2 h=> ?_
  refine Yf [] [1,2] (Ys ?_)
  refine zm (id:=1) (ops:=zwr) zFc K_ K_ K_ K_ (fun w3 hw=> ?_)
  replace h:=h w3 hw
  clear hw
  refine Mn P1 ?_
  refine Ml 1 h fun v4 hc h=> ?_
  refine Mn P1 ?_
  refine Ml 3 h fun v6 hc h=> ?_
  refine zo (op:=(Op.call (Call.mk (Callee.value (Operand.func 142)) #[(Operand.tmp 6)] #[126]))) (ty:=126) (dst:=some 7) 4 [3,2] [(1,fun w'=>w'.cell? ⟨b_,0,none⟩=some (Value.string v4))] 142 #[sv_ v6] K_ K_ K_ K_ K_ (fun ww=>by kernel_rfl) (Calls.mono h ?_)
  rintro _ w4 ⟨v7,rfl,h⟩
  obtain⟨hk0,h⟩:=h
  refine⟨_,rfl,⟨hk0,trivial⟩,?_⟩
  refine Mn P1 ?_
  refine zoc 6 [0,1,2,3,4,5] [] h fun w5 h=> ?_
  refine⟨trivial,?_⟩
  refine Mf [] [2] ?_
  obtain⟨res,hc_res,h⟩:=h
  exact YSg (rs:=[(ResultVar.cell 2 141)]) (v:=Value.agg #[Value.string res.Key,sv_ res.Versions]) (⟨b_1,0,[Value.string res.Key,sv_ res.Versions],K_,hc_res,(zx (k:=2) K_ K_),.inl ⟨K_,rfl⟩,trivial⟩) ⟨res,rfl,h⟩

/-! ### towpath/towpathlaw01.LeftHeld (function 132) -/

theorem S_Mb {t_:T_d} {x:T_d} {w:World} {R:Bool→WP} (h:F_Ld t_ x R w):C_4b t_ x w R:=by
 unfold F_Ld at h
 refine Yh Tryz.func132 ?_
 ·refine Yt ?_
  refine Yw pv_ h fun b_ w1 h=> ?_
  refine Yw pv_ h fun b_1 w2 h=> ?_
  refine Yf P1 [2,3] (Yt (Yn P1 ?_))
  refine Yl h fun v6 h=> ?_
  refine Yn P1 ?_
  refine Yl h fun v8 h=> ?_
  refine Yn P3 ?_
  refine Yspl 10 h (fun h=> ?_) fun h=> ?_
  ·refine Yl h fun v12 h=> ?_
   refine Yn [.sure] ?_
   refine Yl h fun v14 h=> ?_
   refine Ym1 h fun v15 w3 h=> ?_
   refine Yf P2 [4] ?_
   exact YS ⟨v15,rfl,h⟩
  ·refine Yf [.skip,.skip,.skip,.skip,.plain,.plain] [4] ?_
   exact YS ⟨false,rfl,h⟩

/-! ### (*towpath/towpathlaw01.Book).keepInt (function 133) -/
def zxr:=cb_ Tryz.f133
def zyr:=cr_ zxr
def zzr:=co_ zyr
def z9b:List Nat:=[0,1,2,3,4,5,6,7,8,9,10,11,12,13,14,15]

theorem S_2 {b_:OA} {l_:Slc} {w:World} {R:WP} (h:F_Zc b_ l_ R w):C_xb b_ l_ w R:=by
 unfold F_Zc at h
 refine Yh Tryz.func133 ?_
 ·refine Yt (Yn P1 ?_)
  refine Yv 4 h fun hp_1 h=> ?_
  refine Yn P1 (Yn P1 ?_)
  refine Yl h fun v7 h=> ?_
  refine Yn P3 ?_
  refine Yo h fun w1 h=> ?_
  refine Yf [] [0,1] ?_
  refine zm (id:=1) (ops:=zzr) z9b K_ K_ K_ K_ (fun w2 hw=> ?_)
  replace h:=h w2 hw
  clear hw
  refine Mn P2 ?_
  refine Mv 12 h fun hp_2 h=> ?_
  refine Mn P1 ?_
  refine Mn P1 ?_
  refine Ml 4 h fun v15 hc h=> ?_
  refine Mn P2 ?_
  refine Mv 17 h fun hp_3 h=> ?_
  refine Mn P1 ?_
  refine Mn P1 ?_
  refine Ml 9 h fun v20 hc h=> ?_
  refine Mn P1 ?_
  refine zzd (op:=(Op.buildSlice 43 1 #[(0,(Operand.tmp 21))])) (ty:=43) (dst:=some 22) 11 [10,5,9,8,7,6] [(4,fun w'=>w'.cell? ⟨(pblk b_),(poff b_)+2,none⟩=some (sv_ v15))] (fun bb=>Value.slice (some ⟨bb,0,none⟩) 1 1) (Obj.cells ([sv_ l_,Value.slice none 0 0,Vi v20]).toArray y_h (0,0)) K_ K_ K_ K_ K_ K_ (fun b_1 w3 hb hw=> ?_)
  replace h:=h b_1 w3 hb hw
  clear hb hw
  obtain⟨hk0,h⟩:=h
  refine⟨⟨hk0,trivial⟩,?_⟩
  obtain⟨src,hs,h⟩:=h
  refine z1b (t:=43) (tx:=43) (e:=108) (a:=(Operand.tmp 15)) (xo:=(Operand.tmp 22)) (s:=v15) (x:=(Slc.mk (some ⟨b_1,0,none⟩) 1 1)) (sz:=3) (by_:=56) (zs:=[Value.slice none 0 0,Value.slice none 0 0,Vi 0]) (ty:=43) (dst:=some 23) 12 [4,11,3,10,2,5,9,1,8,7,6] [] src K_ K_ K_ K_ K_ K_ K_ K_ K_ K_ K_ K_ K_ hs (zj.mono h (fun v23 w4 h=> ?_))
  refine⟨trivial,?_⟩
  refine Mv 11 h fun hp_4 h=> ?_
  refine Mn P1 ?_
  refine Mn P1 ?_
  refine zoc 15 [0,1,2,3,4,5,6,7,8,9,10,11,12,14,13] [] h fun w5 h=> ?_
  refine⟨trivial,?_⟩
  refine Mf [] [] ?_
  repeat (first | refine zK ?_ | refine zA ?_ | refine zL ?_ | refine zB ?_ | refine zv K_ ?_)
  refine zw ?_
  repeat (first | refine zC ?_ | refine zp ?_ | refine zu ?_ | refine zE ?_)
  exact retT (rs:=[]) (vs:=[]) K_ (trivial) K_ ⟨rfl,h⟩

/-! ### (*towpath/towpathlaw01.Book).Versions (function 134) -/

theorem S_S {b_:OA} {l_:Slc} {w:World} {R:WP} (h:F_Mc b_ l_ R w):C_lb b_ l_ w R:=by
 unfold F_Mc at h
 refine Yh Tryz.func134 ?_
 ·refine Yr (Yn P2 ?_)
  refine Ym0 h fun w1 h=> ?_
  refine Yf [] [] ?_
  repeat (first | refine zK ?_ | refine zA ?_ | refine zL ?_ | refine zB ?_ | refine zv K_ ?_)
  refine zw ?_
  repeat (first | refine zC ?_ | refine zp ?_ | refine zu ?_ | refine zE ?_)
  exact retT (rs:=[]) (vs:=[]) K_ (trivial) K_ ⟨rfl,h⟩

/-! ### (*towpath/towpathlaw01.Book).keepHeld (function 135) -/
def zAr:=cb_ Tryz.f135
def zBr:=cr_ zAr
def zCr:=co_ zBr
def z8b:List Nat:=[0,1,2,3,4,5,6,7,8,9,10,11,12,13,14,15]

theorem S_T {b_:OA} {l_:Slc} {w:World} {R:WP} (h:F_Nc b_ l_ R w):C_mb b_ l_ w R:=by
 unfold F_Nc at h
 refine Yh Tryz.func135 ?_
 ·refine Yt (Yn P1 ?_)
  refine Yv 4 h fun hp_1 h=> ?_
  refine Yn P1 (Yn P1 ?_)
  refine Yl h fun v7 h=> ?_
  refine Yn P3 ?_
  refine Yo h fun w1 h=> ?_
  refine Yf [] [0,1] ?_
  refine zm (id:=1) (ops:=zCr) z8b K_ K_ K_ K_ (fun w2 hw=> ?_)
  replace h:=h w2 hw
  clear hw
  refine Mn P2 ?_
  refine Mv 12 h fun hp_2 h=> ?_
  refine Mn P1 ?_
  refine Mn P1 ?_
  refine Ml 4 h fun v15 hc h=> ?_
  refine Mn P2 ?_
  refine Mv 17 h fun hp_3 h=> ?_
  refine Mn P1 ?_
  refine Mn P1 ?_
  refine Ml 9 h fun v20 hc h=> ?_
  refine Mn P1 ?_
  refine zzd (op:=(Op.buildSlice 49 1 #[(0,(Operand.tmp 21))])) (ty:=49) (dst:=some 22) 11 [10,5,9,8,7,6] [(4,fun w'=>w'.cell? ⟨(pblk b_),(poff b_)+8,none⟩=some (sv_ v15))] (fun bb=>Value.slice (some ⟨bb,0,none⟩) 1 1) (Obj.cells ([sv_ l_,Value.slice none 0 0,Vi v20]).toArray y_g (0,0)) K_ K_ K_ K_ K_ K_ (fun b_1 w3 hb hw=> ?_)
  replace h:=h b_1 w3 hb hw
  clear hb hw
  obtain⟨hk0,h⟩:=h
  refine⟨⟨hk0,trivial⟩,?_⟩
  obtain⟨src,hs,h⟩:=h
  refine z1b (t:=49) (tx:=49) (e:=139) (a:=(Operand.tmp 15)) (xo:=(Operand.tmp 22)) (s:=v15) (x:=(Slc.mk (some ⟨b_1,0,none⟩) 1 1)) (sz:=3) (by_:=56) (zs:=[Value.slice none 0 0,Value.slice none 0 0,Vi 0]) (ty:=49) (dst:=some 23) 12 [4,11,3,10,2,5,9,1,8,7,6] [] src K_ K_ K_ K_ K_ K_ K_ K_ K_ K_ K_ K_ K_ hs (zj.mono h (fun v23 w4 h=> ?_))
  refine⟨trivial,?_⟩
  refine Mv 11 h fun hp_4 h=> ?_
  refine Mn P1 ?_
  refine Mn P1 ?_
  refine zoc 15 [0,1,2,3,4,5,6,7,8,9,10,11,12,14,13] [] h fun w5 h=> ?_
  refine⟨trivial,?_⟩
  refine Mf [] [] ?_
  repeat (first | refine zK ?_ | refine zA ?_ | refine zL ?_ | refine zB ?_ | refine zv K_ ?_)
  refine zw ?_
  repeat (first | refine zC ?_ | refine zp ?_ | refine zu ?_ | refine zE ?_)
  exact retT (rs:=[]) (vs:=[]) K_ (trivial) K_ ⟨rfl,h⟩

/-! ### towpath/towpathlaw01.SameHeld (function 140) -/

theorem S_Nb {a_:T_d} {b_:T_d} {w:World} {R:Bool→WP} (h:F_Md a_ b_ R w):C_5b a_ b_ w R:=by
 unfold F_Md at h
 refine Yh Tryz.func140 ?_
 ·refine Yt ?_
  refine Yw pv_ h fun b_1 w1 h=> ?_
  refine Yw pv_ h fun b_2 w2 h=> ?_
  refine Yf P1 [2,3] (Yt (Yn P1 ?_))
  refine Yl h fun v6 h=> ?_
  refine Yn P1 ?_
  refine Yl h fun v8 h=> ?_
  refine Yn P3 ?_
  refine Yspl 10 h (fun h=> ?_) fun h=> ?_
  ·refine Yl h fun v12 h=> ?_
   refine Yn [.sure] ?_
   refine Yl h fun v14 h=> ?_
   refine Ym1 h fun v15 w3 h=> ?_
   refine Yf P2 [4] ?_
   exact YS ⟨v15,rfl,h⟩
  ·refine Yf [.skip,.skip,.skip,.skip,.plain,.plain] [4] ?_
   exact YS ⟨false,rfl,h⟩

/-! ### towpath/towpathlaw01.word (function 141) -/

theorem S_ac {n_:Int} {w:World} {R:ByteArray→WP} (h:F_je n_ R w):C_Yb n_ w R:=by
 unfold F_je at h
 refine Yh Tryz.func141 ?_
 ·refine Yp P1 [0] (Yt (Yn P1 ?_))
  refine Ym1 h fun v4 w1 h=> ?_
  obtain⟨h0,h⟩:=h
  refine zP (op:=(Op.binOp BinOp.add 9 (Operand.const (Value.string (ByteArray.mk #[35]))) (Operand.tmp 4) 9)) (ty:=9) (dst:=some 5) (Value.string ((ByteArray.mk #[35])++v4)) K_ (fun ww=>zTi K_ K_ h0 ww) ?_
  refine Yf P1 [2] ?_
  exact YS ⟨((ByteArray.mk #[35])++v4),rfl,h⟩

/-! ### towpath/towpathlaw01.TwinVersions (function 142) -/

theorem S_3 {l_:Slc} {w:World} {R:Slc→WP} (h:F_0c l_ R w):C_yb l_ w R:=by
 unfold F_0c at h
 refine Yh Tryz.func142 ?_
 ·refine Yp P1 [0] (Yt (Yn P3 ?_))
  obtain⟨h0,h1,h2,h⟩:=h
  refine z5c (t:=126) (e:=130) (lo:=(Operand.const (Value.int IntKind.i64 0))) (co:=(Operand.tmp 7)) (l:=0) (c:=(IntKind.i64.wrap (((l_.len:Nat):Int)+1))) (sz:=3) (by_:=32) (zs:=[Vi 0,Value.string ByteArray.empty,Vo false]) (ty:=126) (dst:=some 8) K_ K_ K_ K_ K_ K_ K_ K_ K_ h0 h1 h2 (fun b_ w1 hb hw=> ?_)
  replace h:=h b_ w1 hb hw
  clear hb hw
  refine Yf P1 [0,3] (Ys (Yp P1 [0,3,4] (Yd 0 ?_)))
  obtain⟨I,μ,h0,hr⟩:=h
  refine zN (fun m l w=>∃(t_:Slc) (i:Int),l=[(0,sv_ l_),(3,sv_ t_),(4,Vi i)]∧I t_ i w∧μ t_ i w=m) ⟨(Slc.mk (some ⟨b_,0,none⟩) 0 ((IntKind.i64.wrap (((l_.len:Nat):Int)+1)).toNat)),0,rfl,h0,rfl⟩ ?_
  rintro _ _ w2 ⟨t_,i,rfl,hI,rfl⟩
  obtain⟨again_,again__h,h⟩:∃ again_:Slc→Int→WP,(∀ t_' i' w',again_ t_' i' w'→I t_' i' w'∧μ t_' i' w'<μ t_ i w2)∧F_xb l_ R again_ t_ i w2:=⟨_,fun _ _ _ h=>h,hr t_ i w2 hI⟩
  clear h0 hI
  unfold F_xb at h
  refine Ys (Yp P4 [0,3,4,12] ?_)
  refine Yc h (fun h=> ?_) fun h=> ?_
  ·refine zg (Ys (Yd 1 (Yr (Yn P3 ?_))))
   obtain⟨hp_3,h⟩:=h
   refine Yu 16 (fun pp=> .slice pp l_.len l_.cap) hp_3 ?_
   refine Yi h fun h=> ?_
   refine YL h fun v19 h=> ?_
   refine Yw (sl_ 1 1) h fun b_1 w3 h=> ?_
   obtain⟨src,hs,h⟩:=h
   refine zH (t:=126) (tx:=126) (e:=130) (a:=(Operand.tmp 15)) (xo:=(Operand.tmp 20)) (s:=t_) (x:=(Slc.mk (some ⟨b_1,0,none⟩) 1 1)) (sz:=3) (by_:=32) (zs:=[Vi 0,Value.string ByteArray.empty,Vo false]) (ty:=126) (dst:=some 21)  src K_ K_ K_ K_ K_ K_ K_ K_ K_ hs (zj.mono h (fun t_1 w4 h=> ?_))
   refine Yf P1 [0,3,4] (Yr (Yf P3 [0,3,4] ?_))
   have hb_:=again__h _ _ _ h
   exact⟨_,hb_.2,_,Sub.mk K_,t_1,(IntKind.i64.wrap (i+1)),rfl,hb_.1,rfl⟩
  ·refine zM 0 (Yt (Yn P2 ?_))
   refine Yw (sl_ 1 1) h fun b_2 w5 h=> ?_
   obtain⟨src,hs,h⟩:=h
   refine zH (t:=126) (tx:=126) (e:=130) (a:=(Operand.tmp 22)) (xo:=(Operand.tmp 24)) (s:=t_) (x:=(Slc.mk (some ⟨b_2,0,none⟩) 1 1)) (sz:=3) (by_:=32) (zs:=[Vi 0,Value.string ByteArray.empty,Vo false]) (ty:=126) (dst:=some 25)  src K_ K_ K_ K_ K_ K_ K_ K_ K_ hs (zj.mono h (fun v25 w6 h=> ?_))
   refine Yn P2 ?_
   obtain⟨h0,h1,h⟩:=h
   refine zyb (t:=126) (e:=130) (x:=(Operand.tmp 25)) (hi:=(Operand.tmp 27)) (p:=v25.ptr) (l:=v25.len) (c:=v25.cap) (sz:=3) (k:= .i64) (j:=((l_.len:Nat):Int)) (ty:=126) (dst:=some 28) K_ K_ K_ K_ K_ h0 h1 ?_
   refine Yf P1 [2] ?_
   exact YS ⟨(Slc.mk v25.ptr (((l_.len:Nat):Int).toNat) v25.cap),rfl,h⟩

/-! ### towpath/towpathlaw01.LeftVersions (function 152) -/
def zDr:=cb_ Tryz.f152
def zEr:=cr_ zDr
def zfm:=cr_ zEr
def zgm:=cl_ zfm
def zhm:=cr_ zgm
def zim:=cl_ zhm
def zjm:=cl_ zim
def zkm:=cr_ zjm
def zlm:=cl_ zkm
def zmm:=cl_ zlm
def znm:=cl_ zmm
def zom:=co_ znm

theorem S_4 {t_:Slc} {l_:Slc} {w:World} {R:Bool→WP} (h:F_1c t_ l_ R w):C_zb t_ l_ w R:=by
 unfold F_1c at h
 refine Yh Tryz.func152 ?_
 ·refine Yp P1 [0,1] (Ys (Yp [.plain,.plain,.plain,.plain,.plain,.plain,.plain,.plain,.plain,.plain,.plain,.pick] [0,1,18] ?_))
  refine Yc h (fun h=> ?_) fun h=> ?_
  ·refine Yp P1 [4] ?_
   exact YS ⟨false,rfl,h⟩
  ·refine zg (Ys (Yp P1 [0,1,5] (Yd 0 ?_)))
   obtain⟨I,μ,h0,hr⟩:=h
   refine zN (fun m l w=>∃(i:Int),l=[(0,sv_ t_),(1,sv_ l_),(5,Vi i)]∧I i w∧μ i w=m) ⟨0,rfl,h0,rfl⟩ ?_
   rintro _ _ w1 ⟨i,rfl,hI,rfl⟩
   obtain⟨again_,again__h,h⟩:∃ again_:Int→WP,(∀ i' w',again_ i' w'→I i' w'∧μ i' w'<μ i w1)∧F_yb t_ l_ R again_ i w1:=⟨_,fun _ _ h=>h,hr i w1 hI⟩
   clear h0 hI
   unfold F_yb at h
   refine Ys (Yp P4 [0,1,5,22] ?_)
   refine Yc h (fun h=> ?_) fun h=> ?_
   ·refine zg (Ys (Yd 1 (Ys ?_)))
    refine zO (id:=6) (ops:=zom) K_ K_ K_ ?_
    refine Qn P2 ?_
    obtain⟨hp_14,h⟩:=h
    refine Qu 25 (fun pp=> .slice pp t_.len t_.cap) hp_14 ?_
    refine Qi h fun h=> ?_
    refine QL h fun v28 h=> ?_
    refine Qn P2 ?_
    obtain⟨hp_15,h⟩:=h
    refine Qu 29 (fun pp=> .slice pp l_.len l_.cap) hp_15 ?_
    refine Qi h fun h=> ?_
    refine QL h fun v32 h=> ?_
    refine zai (op:=(Op.binOp BinOp.neq 130 (Operand.tmp 28) (Operand.tmp 32) 130)) (ty:=4) (dst:=some 33) (Vo (!(((v28.Number==v32.Number)&&(v28.Val==v32.Val))&&(v28.Drop==v32.Drop)))) K_ (fun ww=>zHd (xs:=[Vi v28.Number,Value.string v28.Val,Vo v28.Drop]) (ys:=[Vi v32.Number,Value.string v32.Val,Vo v32.Drop]) K_ K_ K_ K_ K_ ww) ?_
    refine Qf [] [0,1,5,33] h fun w2 h=> ?_
    refine Yc h (fun h=> ?_) fun h=> ?_
    ·refine Yp P1 [4] ?_
     exact YS ⟨false,rfl,h⟩
    ·refine zg (Yr (Yf P3 [0,1,5] ?_))
     have hb_:=again__h _ _ h
     exact⟨_,hb_.2,_,Sub.mk K_,(IntKind.i64.wrap (i+1)),rfl,hb_.1,rfl⟩
   ·refine zM 0 (Yt (Yn P4 ?_))
    obtain⟨h0,h1,h⟩:=h
    refine zyb (t:=126) (e:=130) (x:=(Operand.tmp 34)) (hi:=(Operand.tmp 37)) (p:=t_.ptr) (l:=t_.len) (c:=t_.cap) (sz:=3) (k:= .i64) (j:=(IntKind.i64.wrap (((l_.len:Nat):Int)+1))) (ty:=126) (dst:=some 38) K_ K_ K_ K_ K_ h0 h1 ?_
    refine Yn P2 ?_
    obtain⟨hp_17,h⟩:=h
    refine Yu 38 (fun pp=> .slice pp ((IntKind.i64.wrap (((l_.len:Nat):Int)+1)).toNat) t_.cap) hp_17 ?_
    refine Yi h fun h=> ?_
    refine YL h fun v42 h=> ?_
    refine Yw pv_ h fun b_ w3 h=> ?_
    refine Yo h fun w4 h=> ?_
    refine Yf [] [6] (Yt ?_)
    refine YL h fun v43 h=> ?_
    refine Yn P1 ?_
    refine zP (op:=(Op.binOp BinOp.eql 130 (Operand.tmp 43) (Operand.tmp 44) 130)) (ty:=4) (dst:=some 45) (Vo (((v43.Number==7777)&&(v43.Val==ByteArray.empty))&&(v43.Drop==false))) K_ (fun ww=>zGd (xs:=[Vi v43.Number,Value.string v43.Val,Vo v43.Drop]) (ys:=[Vi 7777,Value.string ByteArray.empty,Vo false]) K_ K_ K_ K_ K_ ww) ?_
    refine Yf P1 [4] ?_
    exact YS ⟨(((v43.Number==7777)&&(v43.Val==ByteArray.empty))&&(v43.Drop==false)),rfl,h⟩
end
end Go.Proofs.YtjlfdepkphibgaaGreatDoor
