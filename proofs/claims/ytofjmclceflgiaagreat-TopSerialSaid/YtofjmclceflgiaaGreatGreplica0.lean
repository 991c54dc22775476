/- WRITTEN BY PROGRAM (dec.py): for each Go function the clean formula F, the call's contract C, and the proof S that F gives C. -/
import Derived.Test.YtofjmclceflgiaaGreatRows
import Derived.Test.YtofjmclceflgiaaGreatGF
namespace Go.Proofs.YtofjmclceflgiaaGreat
open Go
set_option linter.unusedVariables false
set_option maxRecDepth 100000
set_option maxHeartbeats 4000000
noncomputable section

/-! ### (*towpath/replica.Replica).Pick (function 7) -/

theorem S_A {r:OA} {pick:Int} {w:World} {R:T_a→Int→WP} (h:F_Pb r pick R w):C_y r pick w R:=by
 unfold F_Pb at h
 refine Yh Tryz.func7 ?_
 ·refine Yt ?_
  refine Yw pv_ h fun b_ w1 h=> ?_
  refine Yf P1 [0,1,4] (Ys (Yd 0 (Yt (Yn P1 ?_))))
  refine Ym1 h fun v10 w2 h=> ?_
  refine Yf P2 [0,1,4,8] ?_
  refine Yc h (fun h=> ?_) fun h=> ?_
  ·refine Yt (Yn P1 ?_)
   refine Yo h fun w3 h=> ?_
   refine Yf P1 [4,5] ?_
   obtain⟨res,hc_res,h⟩:=h
   exact YTg (rs:=[(ResultVar.cell 4 35),(ResultVar.tmp 5)]) (vs:=[Value.agg #[Vi res.Task,Value.int .u8 res.Kind,Vi res.Number,Vi res.Shard,Vi res.Count,Vi res.Mark],Vi 2]) (⟨b_,0,[Vi res.Task,Value.int .u8 res.Kind,Vi res.Number,Vi res.Shard,Vi res.Count,Vi res.Mark],K_,hc_res,(zq (k:=6) K_ K_),.inl ⟨K_,rfl⟩,⟨K_,trivial⟩⟩) ⟨res,2,rfl,h⟩
  ·refine Yt (Yn P1 ?_)
   refine Yv 14 h fun hp_3 h=> ?_
   refine Yn P1 (Yn P1 ?_)
   refine Yl h fun v17 h=> ?_
   refine Yf P1 [0,1,4,13] ?_
   refine Yc h (fun h=> ?_) fun h=> ?_
   ·refine Yt (Yn P1 ?_)
    refine Yo h fun w4 h=> ?_
    refine Yf P1 [4,5] ?_
    obtain⟨res1,hc_res1,h⟩:=h
    exact YTg (rs:=[(ResultVar.cell 4 35),(ResultVar.tmp 5)]) (vs:=[Value.agg #[Vi res1.Task,Value.int .u8 res1.Kind,Vi res1.Number,Vi res1.Shard,Vi res1.Count,Vi res1.Mark],Vi 11]) (⟨b_,0,[Vi res1.Task,Value.int .u8 res1.Kind,Vi res1.Number,Vi res1.Shard,Vi res1.Count,Vi res1.Mark],K_,hc_res1,(zq (k:=6) K_ K_),.inl ⟨K_,rfl⟩,⟨K_,trivial⟩⟩) ⟨res1,11,rfl,h⟩
   ·refine zk (Yt (Yn P1 ?_))
    refine Ym1 h fun v20 w5 h=> ?_
    refine Yf P1 [0,1,4,6] (Ys (Yp P3 [0,1,4,6,23] ?_))
    refine Yc h (fun h=> ?_) fun h=> ?_
    ·refine Yt (Yn P1 ?_)
     refine Yo h fun w6 h=> ?_
     refine Yf P1 [4,5] ?_
     obtain⟨res2,hc_res2,h⟩:=h
     exact YTg (rs:=[(ResultVar.cell 4 35),(ResultVar.tmp 5)]) (vs:=[Value.agg #[Vi res2.Task,Value.int .u8 res2.Kind,Vi res2.Number,Vi res2.Shard,Vi res2.Count,Vi res2.Mark],Vi 9]) (⟨b_,0,[Vi res2.Task,Value.int .u8 res2.Kind,Vi res2.Number,Vi res2.Shard,Vi res2.Count,Vi res2.Mark],K_,hc_res2,(zq (k:=6) K_ K_),.inl ⟨K_,rfl⟩,⟨K_,trivial⟩⟩) ⟨res2,9,rfl,h⟩
    ·refine zk (Yt (Yn P3 ?_))
     obtain⟨h0,h⟩:=h
     refine zw (op:=(Op.binOp BinOp.rem 3 (Operand.tmp 25) (Operand.tmp 27) 3)) (ty:=3) (dst:=some 28) (Vi (Int.tmod pick ((v20.len:Nat):Int))) K_ (fun ww=>zcg K_ K_ h0 ww) ?_
     refine Yf P1 [0,4,6,7] ?_
     refine Ycut (fun l w=>∃(k_:Int),l=[(0,Vp r),(4,pv_ b_),(6,sv_ v20),(7,Vi k_)]∧F_n r R b_ v20 k_ w) ?_ ?_
     ·refine Yp P2 [0,4,6,7,30] ?_
      refine Yc h (fun h=> ?_) fun h=> ?_
      ·refine Yr (Yf (Pl 5) [0,4,6,7] ?_)
       exact⟨_,Sub.mk K_,(IntKind.i64.wrap ((Int.tmod pick ((v20.len:Nat):Int))+((v20.len:Nat):Int))),rfl,h⟩
      ·refine zk ?_
       exact⟨_,Sub.mk K_,(Int.tmod pick ((v20.len:Nat):Int)),rfl,h⟩
     ·rintro _ w7 ⟨k_,rfl,h⟩
      unfold F_n at h
      refine Yt (Yn P3 ?_)
      obtain⟨hp_4,h⟩:=h
      refine Yu 36 (fun pp=> .slice pp v20.len v20.cap) hp_4 ?_
      refine Yi1 h fun h=> ?_
      refine Yl h fun v39 h=> ?_
      refine Ym2 h fun v40 v40_1 w8 h=> ?_
      refine Yn P2 ?_
      refine Yo h fun w9 h=> ?_
      refine Yf P1 [4,5] ?_
      obtain⟨res3,hc_res3,h⟩:=h
      exact YTg (rs:=[(ResultVar.cell 4 35),(ResultVar.tmp 5)]) (vs:=[Value.agg #[Vi res3.Task,Value.int .u8 res3.Kind,Vi res3.Number,Vi res3.Shard,Vi res3.Count,Vi res3.Mark],Vi v40_1]) (⟨b_,0,[Vi res3.Task,Value.int .u8 res3.Kind,Vi res3.Number,Vi res3.Shard,Vi res3.Count,Vi res3.Mark],K_,hc_res3,(zq (k:=6) K_ K_),.inl ⟨K_,rfl⟩,⟨K_,trivial⟩⟩) ⟨res3,v40_1,rfl,h⟩

/-! ### (*towpath/replica.Replica).Over (function 10) -/

theorem S_B {r:OA} {w:World} {R:Bool→WP} (h:F_Qb r R w):C_U r w R:=by
 unfold F_Qb at h
 refine Yh Tryz.func10 ?_
 ·refine Yp P1 [0] (Yt (Yn P1 ?_))
  refine Ym1 h fun v4 w1 h=> ?_
  refine Yn P2 ?_
  refine Yspl 5 h (fun h=> ?_) fun h=> ?_
  ·refine Yv 6 h fun hp_0 h=> ?_
   refine Yn [.sure] (Yn [.sure] ?_)
   refine Yl h fun v9 h=> ?_
   refine Yn [.sure,.plain] ?_
   refine Yspl 10 h (fun h=> ?_) fun h=> ?_
   ·refine Yf [.skip,.skip,.skip,.sure,.plain,.plain] [2] ?_
    exact YS ⟨true,rfl,h⟩
   ·refine Ym1 h fun v12 w2 h=> ?_
    refine Yf [.sure,.sure,.sure,.plain,.plain] [2] ?_
    exact YS ⟨(((v12.len:Nat):Int)==0),rfl,h⟩
  ·refine Yf [.skip,.skip,.skip,.skip,.skip,.skip,.skip,.skip,.skip,.plain,.plain] [2] ?_
   exact YS ⟨false,rfl,h⟩

/-! ### (*towpath/replica.Replica).Mark (function 11) -/

theorem S_C {r:OA} {w:World} {R:Int→WP} (h:F_Rb r R w):C_z r w R:=by
 unfold F_Rb at h
 refine Yh Tryz.func11 ?_
 ·refine Yp P1 [0] (Ys (Yt (Yn P1 ?_)))
  refine Ym1 h fun v4 w1 h=> ?_
  refine Yf P1 [0,5] ?_
  refine Yc h (fun h=> ?_) fun h=> ?_
  ·refine Yp P1 [2] ?_
   exact YS ⟨0,rfl,h⟩
  ·refine zk (Yt (Yn P1 ?_))
   refine Yv 6 h fun hp_0 h=> ?_
   refine Yn P1 (Yn P1 ?_)
   refine Yl h fun v9 h=> ?_
   refine Ym1 h fun v10 w2 h=> ?_
   refine Yf P1 [2] ?_
   exact YS ⟨v10,rfl,h⟩

/-! ### (*towpath/replica.Replica).Store (function 13) -/
def ziw:=cb_ Tryz.f13
def zjw:=cr_ ziw
def zkw:=cr_ zjw
def zlw:=cr_ zkw
def zmu:=cl_ zlw
def znu:=cr_ zmu
def zou:=cl_ znu
def zpu:=cl_ zou
def zqu:=cr_ zpu
def zru:=cr_ zqu
def zsu:=cl_ zru
def ztu:=cl_ zsu
def zuu:=cr_ ztu
def zvu:=cr_ zuu
def zwu:=cr_ zvu
def zxu:=cr_ zwu
def zyu:=cl_ zxu
def zzu:=co_ zyu
def z4b:List Nat:=[0,1,2,3,4,5,6,7,8,9,10]

theorem S_v {r:OA} {w:World} {R:Slc→WP} (h:F_Fb r R w):C_u r w R:=by
 unfold F_Fb at h
 refine Yh Tryz.func13 ?_
 ·refine Yp P1 [0] (Yp P1 [0,3] (Yt (Yn P1 ?_)))
  refine Ym1 h fun v10 w1 h=> ?_
  refine Yf P1 [0,3,4] (Ys (Yt (Yn P1 ?_)))
  refine Ym1 h fun v12 w2 h=> ?_
  refine Yf P2 [3,4,12,13,14] (Yd 0 ?_)
  obtain⟨I,μ,h0,hr⟩:=h
  refine znb (fun m l w=>∃(out:Slc) (t14:Int),l=[(3,sv_ out),(4,Vi v10),(12,sv_ v12),(13,Vi ((v12.len:Nat):Int)),(14,Vi t14)]∧I out t14 w∧μ out t14 w=m) ⟨(Slc.mk none 0 0),0,rfl,h0,rfl⟩ ?_
  rintro _ _ w3 ⟨out,t14,rfl,hI,rfl⟩
  obtain⟨again_,again__h,h⟩:∃ again_:Slc→Int→WP,(∀ out' t14' w',again_ out' t14' w'→I out' t14' w'∧μ out' t14' w'<μ out t14 w3)∧F_V R v10 v12 again_ out t14 w3:=⟨_,fun _ _ _ h=>h,hr out t14 w3 hI⟩
  clear h0 hI
  unfold F_V at h
  refine Yp P1 [3,4,12,13,14,15] (Ys ?_)
  refine Yc h (fun h=> ?_) fun h=> ?_
  ·refine zk ?_
   refine Ycut (fun l w=>∃(out1:Slc),l=[(3,sv_ out1),(4,Vi v10),(12,sv_ v12),(13,Vi ((v12.len:Nat):Int)),(14,Vi t14)]∧F_w t14 again_ out1 w) ?_ ?_
   ·refine Yd 1 (Yt ?_)
    obtain⟨hp_52,h⟩:=h
    refine Yu 12 (fun pp=> .slice pp v12.len v12.cap) hp_52 ?_
    refine Yi h fun h=> ?_
    refine YL h fun v17 h=> ?_
    refine Yw pv_ h fun b_ w5 h=> ?_
    refine Yo h fun w6 h=> ?_
    refine Yu 12 (fun pp=> .slice pp v12.len v12.cap) hp_52.symm ?_
    refine Yf [] [3,4,6,12,13,14] (Yp P1 [3,4,6,7,12,13,14] (Ys (Yt (Yn P1 ?_))))
    refine Yl h fun v19 h=> ?_
    refine Yf P2 [3,4,6,7,12,13,14,20,21] (Yd 2 ?_)
    obtain⟨I,μ,h0,hr⟩:=h
    refine znb (fun m l w=>∃(last:OA) (t21:Int),l=[(3,sv_ out),(4,Vi v10),(6,pv_ b_),(7,Vp last),(12,sv_ v12),(13,Vi ((v12.len:Nat):Int)),(14,Vi t14),(20,Vi ((v19.len:Nat):Int)),(21,Vi t21)]∧I last t21 w∧μ last t21 w=m) ⟨none,0,rfl,h0,rfl⟩ ?_
    rintro _ _ w7 ⟨last,t21,rfl,hI,rfl⟩
    obtain⟨again_1,again_1_h,h⟩:∃ again_1:OA→Int→WP,(∀ last' t21' w',again_1 last' t21' w'→I last' t21' w'∧μ last' t21' w'<μ last t21 w7)∧F_U v10 out t14 again_ b_ v19 again_1 last t21 w7:=⟨_,fun _ _ _ h=>h,hr last t21 w7 hI⟩
    clear h0 hI
    unfold F_U at h
    refine Yp P1 [3,4,6,7,12,13,14,20,21,22] (Ys ?_)
    refine Yc h (fun h=> ?_) fun h=> ?_
    ·refine zk ?_
     refine Ycut (fun l w=>∃(last1:OA),l=[(3,sv_ out),(4,Vi v10),(6,pv_ b_),(7,Vp last1),(12,sv_ v12),(13,Vi ((v12.len:Nat):Int)),(14,Vi t14),(20,Vi ((v19.len:Nat):Int)),(21,Vi t21)]∧F_x t21 again_1 last1 w) ?_ ?_
     ·refine Yd 3 (Yp P2 [3,4,6,7,8,12,13,14,20,21] (Yt (Yn P1 ?_)))
      refine Yl h fun v25 h=> ?_
      refine Yn P1 ?_
      obtain⟨hp_63,h⟩:=h
      refine Yu 25 (fun pp=> .slice pp v25.len v25.cap) hp_63 ?_
      refine Yi h fun h=> ?_
      refine Yn P1 ?_
      refine Yl h fun v29 h=> ?_
      refine Yf P2 [3,4,6,7,8,12,13,14,20,21,31] ?_
      refine Yc h (fun h=> ?_) fun h=> ?_
      ·refine Yr (Yn P1 ?_)
       refine Yl h fun v33 h=> ?_
       refine Yn P1 ?_
       obtain⟨hp_64,h⟩:=h
       refine Yu 33 (fun pp=> .slice pp v33.len v33.cap) hp_64 ?_
       refine Yi h fun h=> ?_
       refine Yf P1 [3,4,6,7,12,13,14,20,21] ?_
       exact⟨_,Sub.mk K_,(some ⟨(pblk v33.ptr),(poff v33.ptr)+t21.toNat*3,none⟩),rfl,h⟩
      ·refine zk ?_
       exact⟨_,Sub.mk K_,last,rfl,h⟩
     ·rintro _ w8 ⟨last1,rfl,h⟩
      unfold F_x at h
      refine Yr (Yf P2 [3,4,6,7,12,13,14,20,21] ?_)
      have hb_:=again_1_h _ _ _ h
      exact⟨_,hb_.2,_,Sub.mk K_,last1,(IntKind.i64.wrap (t21+1)),rfl,hb_.1,rfl⟩
    ·refine z3 2 ?_
     refine Ycut (fun l w=>∃(t45:Bool),l=[(3,sv_ out),(4,Vi v10),(6,pv_ b_),(7,Vp last),(12,sv_ v12),(13,Vi ((v12.len:Nat):Int)),(14,Vi t14),(45,Vo t45)]∧F_y out t14 again_ b_ last t45 w) ?_ ?_
     ·refine Yr (Yn P1 ?_)
      refine zw (op:=(Op.binOp BinOp.neq 90 (Operand.tmp 37) (Operand.const (Vp none)) 90)) (ty:=4) (dst:=some 38) (Vo (!last.isNone)) K_ (fun ww=>zE (p:=last) K_ K_ K_ ww) ?_
      refine Yn P2 ?_
      refine Yspl 39 h (fun h=> ?_) fun h=> ?_
      ·refine Yv 40 h fun hp_67 h=> ?_
       refine Yn [.sure] (Yn [.sure] ?_)
       refine Yl h fun v43 h=> ?_
       refine Yf [.sure,.plain] [3,4,6,7,12,13,14,45] ?_
       exact⟨_,Sub.mk K_,(!v43),rfl,h⟩
      ·refine Yf [.skip,.skip,.skip,.skip,.plain] [3,4,6,7,12,13,14,45] ?_
       exact⟨_,Sub.mk K_,false,rfl,h⟩
     ·rintro _ w9 ⟨t45,rfl,h⟩
      unfold F_y at h
      refine Yc h (fun h=> ?_) fun h=> ?_
      ·refine zm (id:=14) (ops:=zzu) z4b K_ K_ K_ K_ (fun w10 hw=> ?_)
       replace h:=h w10 hw
       clear hw
       refine Mn P2 ?_
       refine Ml 2 h fun v48 hc h=> ?_
       refine Mn P1 ?_
       refine Mv 49 h fun hp_66 h=> ?_
       refine Mn P1 ?_
       refine Mn P1 ?_
       refine Ml 6 h fun v52 hc h=> ?_
       refine Mn P1 ?_
       refine z7 (op:=(Op.buildSlice 40 1 #[(0,(Operand.tmp 53))])) (ty:=40) (dst:=some 54) 8 [7,2,6,1,5,4,3] [] (fun bb=>Value.slice (some ⟨bb,0,none⟩) 1 1) (Obj.cells ([Value.string v48,Value.string v52]).toArray y_k (0,0)) K_ K_ K_ K_ K_ K_ (fun b_1 w11 hb hw=> ?_)
       replace h:=h b_1 w11 hb hw
       clear hb hw
       refine⟨trivial,?_⟩
       obtain⟨src,hs,h⟩:=h
       refine zGb (t:=40) (tx:=40) (e:=74) (a:=(Operand.tmp 46)) (xo:=(Operand.tmp 54)) (s:=out) (x:=(Slc.mk (some ⟨b_1,0,none⟩) 1 1)) (sz:=2) (by_:=32) (zs:=[Value.string ByteArray.empty,Value.string ByteArray.empty]) (ty:=40) (dst:=some 55) 9 [0,8,7,2,6,1,5,4,3] [] src K_ K_ K_ K_ K_ K_ K_ K_ K_ K_ K_ K_ K_ hs (zo.mono h (fun out2 w12 h=> ?_))
       refine⟨trivial,?_⟩
       refine Mf P1 [3,4,12,13,14] ?_
       exact⟨_,Sub.mk K_,out2,rfl,h⟩
      ·refine zk ?_
       exact⟨_,Sub.mk K_,out,rfl,h⟩
   ·rintro _ w4 ⟨out1,rfl,h⟩
    unfold F_w at h
    refine Yr (Yf P2 [3,4,12,13,14] ?_)
    have hb_:=again__h _ _ _ h
    exact⟨_,hb_.2,_,Sub.mk K_,out1,(IntKind.i64.wrap (t14+1)),rfl,hb_.1,rfl⟩
  ·refine z3 0 (Yp P2 [2] ?_)
   exact YS ⟨out,rfl,h⟩

/-! ### (*towpath/replica.Replica).Versions (function 17) -/

theorem S_k {r:OA} {w:World} {R:Slc→WP} (h:F_nb r R w):C_I r w R:=by
 unfold F_nb at h
 refine Yh Tryz.func17 ?_
 ·refine Yp P1 [0] (Yp P1 [0,3] ?_)
  refine Ycut (fun l w=>∃(out:Slc),l=[(3,sv_ out)]∧F_o R out w) ?_ ?_
  ·refine Yt (Yn P1 ?_)
   refine Ym1 h fun v7 w3 h=> ?_
   refine Yf [] [0,3,7] ?_
   refine Yc h (fun h=> ?_) fun h=> ?_
   ·refine Yt (Yn P1 ?_)
    refine Yv 8 h fun hp_7 h=> ?_
    refine Yn P1 (Yn P1 ?_)
    refine Yl h fun v11 h=> ?_
    refine Yf P2 [3,11,12,13] (Yd 0 ?_)
    obtain⟨I,μ,h0,hr⟩:=h
    refine znb (fun m l w=>∃(out1:Slc) (t13:Int),l=[(3,sv_ out1),(11,sv_ v11),(12,Vi ((v11.len:Nat):Int)),(13,Vi t13)]∧I out1 t13 w∧μ out1 t13 w=m) ⟨(Slc.mk none 0 0),0,rfl,h0,rfl⟩ ?_
    rintro _ _ w4 ⟨out1,t13,rfl,hI,rfl⟩
    obtain⟨again_,again__h,h⟩:∃ again_:Slc→Int→WP,(∀ out1' t13' w',again_ out1' t13' w'→I out1' t13' w'∧μ out1' t13' w'<μ out1 t13 w4)∧F_G R v11 again_ out1 t13 w4:=⟨_,fun _ _ _ h=>h,hr out1 t13 w4 hI⟩
    clear h0 hI
    unfold F_G at h
    refine Yp P1 [3,11,12,13,14] (Ys ?_)
    refine Yc h (fun h=> ?_) fun h=> ?_
    ·refine zk (Ys (Yd 1 (Yt ?_)))
     obtain⟨hp_11,h⟩:=h
     refine Yu 11 (fun pp=> .slice pp v11.len v11.cap) hp_11 ?_
     refine Yi1 h fun h=> ?_
     refine Yl h fun o_ h=> ?_
     refine Yn P1 (Yu 11 (fun pp=> .slice pp v11.len v11.cap) hp_11.symm ?_)
     refine Yf [] [3,5,11,12,13] (Yr (Yn P2 ?_))
     refine Ym1 h fun v19 w5 h=> ?_
     obtain⟨src,hs,h⟩:=h
     refine zC (t:=57) (tx:=57) (e:=89) (a:=(Operand.tmp 17)) (xo:=(Operand.tmp 19)) (s:=out1) (x:=v19) (sz:=2) (by_:=40) (zs:=[Value.string ByteArray.empty,Value.slice none 0 0]) (ty:=57) (dst:=some 20)  src K_ K_ K_ K_ K_ K_ K_ K_ K_ hs (zo.mono h (fun out2 w6 h=> ?_))
     refine Yf P1 [3,11,12,13] (Yr (Yf P2 [3,11,12,13] ?_))
     have hb_:=again__h _ _ _ h
     exact⟨_,hb_.2,_,Sub.mk K_,out2,(IntKind.i64.wrap (t13+1)),rfl,hb_.1,rfl⟩
    ·refine z3 0 ?_
     exact⟨_,Sub.mk K_,out1,rfl,h⟩
   ·refine zk ?_
    exact⟨_,Sub.mk K_,(Slc.mk none 0 0),rfl,h⟩
  ·rintro _ w1 ⟨out,rfl,h⟩
   unfold F_o at h
   refine Yt (Yn P1 ?_)
   refine Ym0 h fun w2 h=> ?_
   refine Yf [] [3] (Yp P2 [2] ?_)
   exact YS ⟨out,rfl,h⟩
end
end Go.Proofs.YtofjmclceflgiaaGreat
