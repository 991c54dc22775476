/- WRITTEN BY PROGRAM (dec.py): for each Go function the clean formula F, the call's contract C, and the proof S that F gives C. -/
import Derived.Test.YtofjmclceflgiaaGreatRows
import Derived.Test.YtofjmclceflgiaaGreatGF
namespace Go.Proofs.YtofjmclceflgiaaGreat
open Go
set_option linter.unusedVariables false
set_option maxRecDepth 100000
set_option maxHeartbeats 4000000
noncomputable section

/-! ### (*towpath/replica.dispatcher).can (function 212) -/
def zLu:=cb_ Tryz.f212
def zMu:=cr_ zLu
def zNu:=cl_ zMu
def zOu:=co_ zNu
def z5b:List Nat:=[0,1,2,3,4,5,6,7,8,9,10,11,12,13,14]

theorem S_s {d:OA} {w:World} {R:Int→WP} (h:F_zb d R w):C_r d w R:=by
 unfold F_zb at h
 refine Yh Tryz.func212 ?_
 ·refine Yp P1 [0] (Ys ?_)
  refine zm (id:=1) (ops:=zOu) z5b K_ K_ K_ K_ (fun w1 hw=> ?_)
  replace h:=h w1 hw
  clear hw
  refine Mn P1 ?_
  refine Mv 3 h fun hp_0 h=> ?_
  refine Mn P1 ?_
  refine Mn P2 ?_
  refine Ml 4 h fun v7 hc h=> ?_
  refine Mv 7 h fun hp_1 h=> ?_
  refine Mn P1 ?_
  refine Mn P1 ?_
  refine Ml 7 h fun v10 hc h=> ?_
  refine Mn P1 ?_
  refine Mv 11 h fun hp_2 h=> ?_
  refine Mn P1 ?_
  refine Mn P1 ?_
  refine ML 11 h fun v14 hc h=> ?_
  refine zt (op:=(Op.call (Call.mk (Callee.value (Operand.func 181)) #[(Operand.tmp 14)] #[99]))) (ty:=3) (dst:=some 15) 12 [11,10,9,8] [(7,fun w'=>w'.cell? ⟨(pblk v7),(poff v7)+5,none⟩=some (Vp v10)),(4,fun w'=>w'.cell? ⟨(pblk d),(poff d),none⟩=some (Vp v7))] 181 #[Value.agg #[Vp v14.r]] K_ K_ K_ K_ K_ (fun ww=>by kernel_rfl) (Calls.mono h ?_)
  rintro _ w2 ⟨v15,rfl,h⟩
  obtain⟨hk0,hk1,h⟩:=h
  refine⟨_,rfl,⟨hk0,hk1,trivial⟩,?_⟩
  refine zt (op:=(Op.call (Call.mk (Callee.value (Operand.func 214)) #[(Operand.tmp 10),(Operand.tmp 15)] #[75,3]))) (ty:=33) (dst:=some 16) 13 [7,12,6,11,5,10,4,9,3,8,2,1,0] [] 214 #[Vp v10,Vi v15] K_ K_ K_ K_ K_ (fun ww=>by kernel_rfl) (Calls.mono h ?_)
  rintro _ w3 ⟨v16,rfl,h⟩
  refine⟨_,rfl,trivial,?_⟩
  refine Mf P1 [2] ?_
  exact YS ⟨v16,rfl,h⟩

/-! ### (*towpath/replica.dispatcher).step (function 213) -/
def zPu:=cb_ Tryz.f213
def zQu:=cr_ zPu
def z0l:=cr_ zQu
def zxr:=cl_ z0l
def zyr:=co_ zxr
def z1l:=cr_ z0l
def zzr:=cl_ z1l
def zAr:=co_ zzr
def zBr:=cr_ z1l
def zCr:=cl_ zBr
def z2l:=cr_ zCr
def zDr:=cl_ z2l
def zEr:=co_ zDr
def zFr:=cr_ z2l
def zGr:=co_ zFr
def zUb:List Nat:=[0,1,2,3,4,5,6,7,8,9,10,11,12,13,14,15,16,17,18,19]
def zVb:List Nat:=[0,1,2,3,4,5,6,7,8,9,10,11,12,13,14]
def zWb:List Nat:=[0,1,2,3,4,5,6,7,8,9,10,11,12,13,14,15,16,17,18]
def zIb:List Nat:=[0,1,2,3,4,5,6,7,8,9,10,11,12,13,14,15,16,17,18,19]
def zJb:List Nat:=[0,1,2,3,4,5,6,7,8,9,10,11,12,13,14,15,16,17,18,19]
def zKb:List Nat:=[0,1,2,3,4,5,6,7,8,9,10,11,12,17,13,14,15,16,18,19]
def zLb:List Nat:=[0,1,2,3,4,5,6,7,8,9,10,11,17,12,13,14,15,16,18,19]

theorem S_h {d:OA} {k_:Int} {w:World} {R:T_a→WP} (h:F_6 d k_ R w):C_o d k_ w R:=by
 unfold F_6 at h
 refine Yh Tryz.func213 ?_
 ·refine Yt ?_
  refine Yw pv_ h fun b_ w1 h=> ?_
  refine Yf [] [0,1,4] (Ys (Yp P1 [0,4,13] (Yd 0 (Yp P2 [0,4,13,14] ?_))))
  refine Yc h (fun h=> ?_) fun h=> ?_
  ·refine Yt (Yn P1 ?_)
   refine Yv 17 h fun hp_10 h=> ?_
   refine Yn P1 (Yn P2 ?_)
   refine Yl h fun v21 h=> ?_
   refine Yv 21 h fun hp_11 h=> ?_
   refine Yn P1 (Yn P1 ?_)
   refine Yl h fun v24 h=> ?_
   refine Ym2 h fun n_ v25_1 w2 h=> ?_
   refine Yf (Pl 5) [4,5] (Yt (Yn P2 ?_))
   refine Yo h fun w3 h=> ?_
   refine Yf [] [4] ?_
   obtain⟨res,hc_res,h⟩:=h
   exact YSg (rs:=[(ResultVar.cell 4 35)]) (v:=Value.agg #[Vi res.Task,Value.int .u8 res.Kind,Vi res.Number,Vi res.Shard,Vi res.Count,Vi res.Mark]) (⟨b_,0,[Vi res.Task,Value.int .u8 res.Kind,Vi res.Number,Vi res.Shard,Vi res.Count,Vi res.Mark],K_,hc_res,(zq (k:=6) K_ K_),.inl ⟨K_,rfl⟩,trivial⟩) ⟨res,rfl,h⟩
  ·refine Yp P2 [0,4,30] ?_
   refine Yc h (fun h=> ?_) fun h=> ?_
   ·refine Yt (Yn P1 ?_)
    refine Yv 33 h fun hp_14 h=> ?_
    refine Yn P1 (Yn P2 ?_)
    refine Yl h fun v37 h=> ?_
    refine Yv 37 h fun hp_15 h=> ?_
    refine Yn P1 (Yn P1 ?_)
    refine Yl h fun v40 h=> ?_
    refine Ym2 h fun n_1 v41_1 w4 h=> ?_
    refine Yf (Pl 5) [4,7] (Yt (Yn P2 ?_))
    refine Yo h fun w5 h=> ?_
    refine Yf [] [4] ?_
    obtain⟨res1,hc_res1,h⟩:=h
    exact YSg (rs:=[(ResultVar.cell 4 35)]) (v:=Value.agg #[Vi res1.Task,Value.int .u8 res1.Kind,Vi res1.Number,Vi res1.Shard,Vi res1.Count,Vi res1.Mark]) (⟨b_,0,[Vi res1.Task,Value.int .u8 res1.Kind,Vi res1.Number,Vi res1.Shard,Vi res1.Count,Vi res1.Mark],K_,hc_res1,(zq (k:=6) K_ K_),.inl ⟨K_,rfl⟩,trivial⟩) ⟨res1,rfl,h⟩
   ·refine zk ?_
    refine Ycut (fun l w=>∃(t_:OA),l=[(0,Vp d),(4,pv_ b_),(9,Vp t_)]∧F_e d R b_ t_ w) ?_ ?_
    ·refine zm (id:=8) (ops:=zyr) zUb K_ K_ K_ K_ (fun w17 hw=> ?_)
     replace h:=h w17 hw
     clear hw
     refine Mn P1 ?_
     refine Mv 47 h fun hp_42 h=> ?_
     refine Mn P1 ?_
     refine Mn P2 ?_
     refine Ml 4 h fun v51 hc h=> ?_
     refine Mv 51 h fun hp_43 h=> ?_
     refine Mn P1 ?_
     refine Mn P1 ?_
     refine Ml 7 h fun v54 hc h=> ?_
     refine Mn P1 ?_
     refine Mv 55 h fun hp_44 h=> ?_
     refine Mn P1 ?_
     refine Mn P1 ?_
     refine ML 11 h fun v58 hc h=> ?_
     refine ztc 12 [12,17] K_ K_ (zWd ?_ ?_)
     ·replace h:=h.1
      refine z0c (π:=zIb) (k:=12) (op:=(Op.call (Call.mk (Callee.value (Operand.func 181)) #[(Operand.tmp 58)] #[99]))) (ty:=3) (dst:=some 59) 12 [11,10,9,8] [(7,fun w'=>w'.cell? ⟨(pblk v51),(poff v51)+5,none⟩=some (Vp v54)),(4,fun w'=>w'.cell? ⟨(pblk d),(poff d),none⟩=some (Vp v51))] 181 #[Value.agg #[Vp v58.r]] K_ K_ K_ K_ K_ K_ (fun ww=>by kernel_rfl) (Calls.mono h ?_)
      rintro _ w18 ⟨v59,rfl,h⟩
      obtain⟨hk0,hk1,h⟩:=h
      refine⟨_,rfl,⟨hk0,hk1,trivial⟩,?_⟩
      refine ztc 13 [13,17] K_ K_ (zWd ?_ ?_)
      ·replace h:=h.1
       refine z0c (π:=zJb) (k:=13) (op:=(Op.call (Call.mk (Callee.value (Operand.func 217)) #[(Operand.tmp 54),(Operand.tmp 59)] #[75,3]))) (ty:=337) (dst:=some 60) 13 [7,12,6,11,5,10,4,9,3,8,2,1,0] [] 217 #[Vp v54,Vi v59] K_ K_ K_ K_ K_ K_ (fun ww=>by kernel_rfl) (Calls.mono h ?_)
       rintro _ w19 ⟨v60,v60_1,rfl,h⟩
       refine⟨_,rfl,trivial,?_⟩
       refine Mn P3 ?_
       refine z7 (op:=(Op.alloc 72)) (ty:=0) (dst:=some 9) 17 [] [] (fun bb=>pv_ bb) (Obj.cells ([Vi 0,Value.slice none 0 0]).toArray y_a (0,0)) K_ K_ K_ K_ K_ K_ (fun b_2 w20 hb hw=> ?_)
       replace h:=h b_2 w20 hb hw
       clear hb hw
       refine⟨trivial,?_⟩
       refine z3b 18 [0,1,2,3,4,5,6,7,8,9,10,11,12,13,14,15,17] [] h fun w21 h=> ?_
       refine⟨trivial,?_⟩
       refine Mf P1 [0,4,9] ?_
       exact⟨_,Sub.mk K_,(some ⟨b_2,0,none⟩),rfl,h⟩
      ·replace h:=h.2
       refine zgf (π:=zKb) (k:=13) (op:=(Op.alloc 72)) (ty:=0) (dst:=some 9) 17 [] [(7,fun w'=>w'.cell? ⟨(pblk v51),(poff v51)+5,none⟩=some (Vp v54)),(4,fun w'=>w'.cell? ⟨(pblk d),(poff d),none⟩=some (Vp v51))] (fun bb=>pv_ bb) (Obj.cells ([Vi 0,Value.slice none 0 0]).toArray y_a (0,0)) K_ K_ K_ K_ K_ K_ K_ (fun b_3 w22 hb hw=> ?_)
       replace h:=h b_3 w22 hb hw
       clear hb hw
       obtain⟨hk0,hk1,h⟩:=h
       refine⟨⟨hk0,hk1,trivial⟩,?_⟩
       refine zt (op:=(Op.call (Call.mk (Callee.value (Operand.func 217)) #[(Operand.tmp 54),(Operand.tmp 59)] #[75,3]))) (ty:=337) (dst:=some 60) 13 [7,12,6,11,5,10,4,9,3,8,2,1,0] [] 217 #[Vp v54,Vi v59] K_ K_ K_ K_ K_ (fun ww=>by kernel_rfl) (Calls.mono h ?_)
       rintro _ w23 ⟨v601,v60_11,rfl,h⟩
       refine⟨_,rfl,trivial,?_⟩
       refine Mn P3 ?_
       refine z3b 18 [0,1,2,3,4,5,6,7,8,9,10,11,12,13,14,15,17] [] h fun w24 h=> ?_
       refine⟨trivial,?_⟩
       refine Mf P1 [0,4,9] ?_
       exact⟨_,Sub.mk K_,(some ⟨b_3,0,none⟩),rfl,h⟩
     ·replace h:=h.2
      refine zgf (π:=zLb) (k:=12) (op:=(Op.alloc 72)) (ty:=0) (dst:=some 9) 17 [] [(11,fun w'=>zc w' (pblk d) (poff d) [Vp v58.r]),(7,fun w'=>w'.cell? ⟨(pblk v51),(poff v51)+5,none⟩=some (Vp v54)),(4,fun w'=>w'.cell? ⟨(pblk d),(poff d),none⟩=some (Vp v51))] (fun bb=>pv_ bb) (Obj.cells ([Vi 0,Value.slice none 0 0]).toArray y_a (0,0)) K_ K_ K_ K_ K_ K_ K_ (fun b_4 w25 hb hw=> ?_)
      replace h:=h b_4 w25 hb hw
      clear hb hw
      obtain⟨hk0,hk1,hk2,h⟩:=h
      refine⟨⟨hk0,hk1,hk2,trivial⟩,?_⟩
      refine zt (op:=(Op.call (Call.mk (Callee.value (Operand.func 181)) #[(Operand.tmp 58)] #[99]))) (ty:=3) (dst:=some 59) 12 [11,10,9,8] [(7,fun w'=>w'.cell? ⟨(pblk v51),(poff v51)+5,none⟩=some (Vp v54)),(4,fun w'=>w'.cell? ⟨(pblk d),(poff d),none⟩=some (Vp v51))] 181 #[Value.agg #[Vp v58.r]] K_ K_ K_ K_ K_ (fun ww=>by kernel_rfl) (Calls.mono h ?_)
      rintro _ w26 ⟨v591,rfl,h⟩
      obtain⟨hk0,hk1,h⟩:=h
      refine⟨_,rfl,⟨hk0,hk1,trivial⟩,?_⟩
      refine zt (op:=(Op.call (Call.mk (Callee.value (Operand.func 217)) #[(Operand.tmp 54),(Operand.tmp 59)] #[75,3]))) (ty:=337) (dst:=some 60) 13 [7,12,6,11,5,10,4,9,3,8,2,1,0] [] 217 #[Vp v54,Vi v591] K_ K_ K_ K_ K_ (fun ww=>by kernel_rfl) (Calls.mono h ?_)
      rintro _ w27 ⟨v602,v60_12,rfl,h⟩
      refine⟨_,rfl,trivial,?_⟩
      refine Mn P3 ?_
      refine z3b 18 [0,1,2,3,4,5,6,7,8,9,10,11,12,13,14,15,17] [] h fun w28 h=> ?_
      refine⟨trivial,?_⟩
      refine Mf P1 [0,4,9] ?_
      exact⟨_,Sub.mk K_,(some ⟨b_4,0,none⟩),rfl,h⟩
    ·rintro _ w6 ⟨t_,rfl,h⟩
     unfold F_e at h
     refine Ys ?_
     refine zm (id:=9) (ops:=zAr) zVb K_ K_ K_ K_ (fun w7 hw=> ?_)
     replace h:=h w7 hw
     clear hw
     refine Mn P1 ?_
     refine Mv 64 h fun hp_22 h=> ?_
     refine Mn P1 ?_
     refine Mn P2 ?_
     refine Ml 4 h fun v68 hc h=> ?_
     refine Mv 68 h fun hp_23 h=> ?_
     refine Mn P1 ?_
     refine Mn P1 ?_
     refine Ml 7 h fun v71 hc h=> ?_
     refine Mv 9 h fun hp_24 h=> ?_
     refine ML 8 h fun v72 hc h=> ?_
     refine zt (op:=(Op.call (Call.mk (Callee.value (Operand.func 218)) #[(Operand.tmp 71),(Operand.tmp 72)] #[76,72]))) (ty:=50) (dst:=some 73) 9 [7,8,6,5,4,3,2,1,0] [] 218 #[Vp v71,Value.agg #[Vi v72.Number,sv_ v72.Writes]] K_ K_ K_ K_ K_ (fun ww=>by kernel_rfl) (Calls.mono h ?_)
     rintro _ w8 ⟨n_2,v73_1,rfl,h⟩
     refine⟨_,rfl,trivial,?_⟩
     refine Mn (Pl 5) ?_
     refine Mu 9 (fun pp=> .pointer pp) hp_24.symm ?_
     refine Mf [] [0,4,9,11] ?_
     refine Ycut (fun l w=>l=[(4,pv_ b_),(9,Vp t_),(11,Vi n_2)]∧F_g R b_ t_ n_2 w) ?_ ?_
     ·refine Yp P2 [0,4,9,11,77] ?_
      refine Yc h (fun h=> ?_) fun h=> ?_
      ·refine zm (id:=11) (ops:=zEr) zWb K_ K_ K_ K_ (fun w11 hw=> ?_)
       replace h:=h w11 hw
       clear hw
       refine Mn P1 ?_
       refine Mv 78 h fun hp_34 h=> ?_
       refine Mn P1 ?_
       refine Mn P2 ?_
       refine Ml 4 h fun v82 hc h=> ?_
       refine Mn P1 ?_
       refine Mv 83 h fun hp_35 h=> ?_
       refine Mn P1 ?_
       refine Mn P2 ?_
       refine Ml 9 h fun v87 hc h=> ?_
       refine Mv 87 h fun hp_36 h=> ?_
       refine Mn P1 ?_
       refine Mn P1 ?_
       refine Ml 12 h fun v90 hc h=> ?_
       refine Mv 9 h fun hp_37 h=> ?_
       refine ML 13 h fun v91 hc h=> ?_
       refine z7 (op:=(Op.buildSlice 24 1 #[(0,(Operand.tmp 91))])) (ty:=24) (dst:=some 92) 14 [13] [(12,fun w'=>w'.cell? ⟨(pblk v87),(poff v87)+12,none⟩=some (sv_ v90)),(9,fun w'=>w'.cell? ⟨(pblk d),(poff d),none⟩=some (Vp v87)),(4,fun w'=>w'.cell? ⟨(pblk d),(poff d),none⟩=some (Vp v82))] (fun bb=>Value.slice (some ⟨bb,0,none⟩) 1 1) (Obj.cells ([Vi v91.Number,sv_ v91.Writes]).toArray y_a (0,0)) K_ K_ K_ K_ K_ K_ (fun b_1 w12 hb hw=> ?_)
       replace h:=h b_1 w12 hb hw
       clear hb hw
       obtain⟨hk0,hk1,hk2,h⟩:=h
       refine⟨⟨hk0,hk1,hk2,trivial⟩,?_⟩
       obtain⟨src,hs,h⟩:=h
       refine zGb (t:=24) (tx:=24) (e:=72) (a:=(Operand.tmp 90)) (xo:=(Operand.tmp 92)) (s:=v90) (x:=(Slc.mk (some ⟨b_1,0,none⟩) 1 1)) (sz:=2) (by_:=32) (zs:=[Vi 0,Value.slice none 0 0]) (ty:=24) (dst:=some 93) 15 [12,14,11,13,10,9,8,7,6,5] [(4,fun w'=>w'.cell? ⟨(pblk d),(poff d),none⟩=some (Vp v82))] src K_ K_ K_ K_ K_ K_ K_ K_ K_ K_ K_ K_ K_ hs (zo.mono h (fun v93 w13 h=> ?_))
       obtain⟨hk0,h⟩:=h
       refine⟨⟨hk0,trivial⟩,?_⟩
       refine Mv 82 h fun hp_38 h=> ?_
       refine Mn P1 ?_
       refine Mn P1 ?_
       refine z3b 18 [0,1,2,3,4,5,6,7,8,9,10,11,12,13,14,15,17,16] [] h fun w14 h=> ?_
       refine⟨trivial,?_⟩
       refine Mu 9 (fun pp=> .pointer pp) hp_37.symm ?_
       refine Mf [] [4,9,11] ?_
       exact⟨_,Sub.mk K_,rfl,h⟩
      ·refine zn (id:=12) (ops:=zGr) K_ 11 K_ K_ (fun w15 hw=> ?_)
       replace h:=h w15 hw
       clear hw
       refine Qn P1 ?_
       refine Qv 96 h fun hp_39 h=> ?_
       refine Qn P1 ?_
       refine Qn P2 ?_
       refine Ql h fun v100 h=> ?_
       refine Qv 100 h fun hp_40 h=> ?_
       refine Qn P1 ?_
       refine Qn P1 ?_
       refine Ql h fun v103 h=> ?_
       refine Qv 9 h fun hp_41 h=> ?_
       refine Qn P1 ?_
       refine Ql h fun v105 h=> ?_
       refine QL h fun v106 h=> ?_
       refine zD K_ ?_
       obtain⟨r,es,c,hr_,hm_,hi_,hn_,hk_,h⟩:=h
       refine zZ (t:=82) (kt:=3) (et:=72) (x:=(Operand.tmp 103)) (k:=(Operand.tmp 105)) (v:=(Operand.tmp 106)) (m:=v103) (es:=es) (kv:=(Vi v105)) (vv:=(Value.agg #[Vi v106.Number,sv_ v106.Writes])) (ty:=0) (dst:=none) r c (keyI K_) K_ K_ hr_ K_ K_ K_ hm_ hi_ hn_ hk_ (fun es1 c1 w16 hs_ hw=> ?_)
       replace h:=h es1 c1 w16 hs_ hw
       clear hw hs_
       refine Yu 9 (fun pp=> .pointer pp) hp_41.symm ?_
       refine Yf [] [4,9,11] ?_
       exact⟨_,Sub.mk K_,rfl,h⟩
     ·rintro _ w9 ⟨rfl,h⟩
      unfold F_g at h
      refine Yt ?_
      refine Yv 9 h fun hp_33 h=> ?_
      refine Yn P1 ?_
      refine Yl h fun v108 h=> ?_
      refine Yn P2 ?_
      refine Yo h fun w10 h=> ?_
      refine Yf [] [4] ?_
      obtain⟨res2,hc_res2,h⟩:=h
      exact YSg (rs:=[(ResultVar.cell 4 35)]) (v:=Value.agg #[Vi res2.Task,Value.int .u8 res2.Kind,Vi res2.Number,Vi res2.Shard,Vi res2.Count,Vi res2.Mark]) (⟨b_,0,[Vi res2.Task,Value.int .u8 res2.Kind,Vi res2.Number,Vi res2.Shard,Vi res2.Count,Vi res2.Mark],K_,hc_res2,(zq (k:=6) K_ K_),.inl ⟨K_,rfl⟩,trivial⟩) ⟨res2,rfl,h⟩

/-! ### (*towpath/replica.worker).can (function 223) -/

theorem S_Q {w_:OA} {w:World} {R:Int→WP} (h:F_gc w_ R w):C_L w_ w R:=by
 unfold F_gc at h
 refine Yh Tryz.func223 ?_
 ·refine Yp P1 [0] (Ys (Yt (Yn P1 ?_)))
  refine Yv 6 h fun hp_11 h=> ?_
  refine Yn P1 (Yn P1 ?_)
  refine Yl h fun v9 h=> ?_
  refine Ym1 h fun v10 w1 h=> ?_
  refine Yf P1 [0,11] ?_
  refine Yc h (fun h=> ?_) fun h=> ?_
  ·refine Ys (Yt (Yn P1 ?_))
   refine Yv 12 h fun hp_18 h=> ?_
   refine Yn P1 (Yn P2 ?_)
   refine Yl h fun v16 h=> ?_
   refine Yv 16 h fun hp_19 h=> ?_
   refine Yn P1 (Yn P1 ?_)
   refine Yl h fun v19 h=> ?_
   refine Yf P2 [21] ?_
   refine Yc h (fun h=> ?_) fun h=> ?_
   ·refine Yp P1 [2] ?_
    exact YS ⟨4,rfl,h⟩
   ·refine zk (Yp P1 [2] ?_)
    exact YS ⟨0,rfl,h⟩
  ·refine zk (Ys (Yt (Yn P1 ?_)))
   refine Yv 23 h fun hp_25 h=> ?_
   refine Yn P1 (Yn P1 ?_)
   refine Yl h fun v26 h=> ?_
   refine Ym3 h fun shard v27_1 more w2 h=> ?_
   refine Yn P4 ?_
   refine Yw pv_ h fun b_ w3 h=> ?_
   refine Yn P1 ?_
   refine Yo h fun w4 h=> ?_
   refine Yf P1 [0,3,5] ?_
   refine Ycut (fun l w=>∃(t39:Bool),l=[(0,Vp w_),(39,Vo t39)]∧F_i w_ R t39 w) ?_ ?_
   ·refine Yr (Yn P3 ?_)
    refine Yspl 32 h (fun h=> ?_) fun h=> ?_
    ·refine Yv 33 h fun hp_31 h=> ?_
     refine Yn [.sure] (Yn [.sure] ?_)
     refine YL h fun v36 h=> ?_
     refine Yn [.sure] ?_
     refine Ym1 h fun v38 w7 h=> ?_
     refine Yf P1 [0,39] ?_
     exact⟨_,Sub.mk K_,v38,rfl,h⟩
    ·refine Yf [.skip,.skip,.skip,.skip,.skip,.plain] [0,39] ?_
     exact⟨_,Sub.mk K_,false,rfl,h⟩
   ·rintro _ w5 ⟨t39,rfl,h⟩
    unfold F_i at h
    refine Yc h (fun h=> ?_) fun h=> ?_
    ·refine Yp P1 [2] ?_
     exact YS ⟨5,rfl,h⟩
    ·refine zk (Ys (Yt (Yn P1 ?_)))
     refine Yv 40 h fun hp_30 h=> ?_
     refine Yn P1 (Yn P1 ?_)
     refine Yl h fun v43 h=> ?_
     refine Ym1 h fun v44 w6 h=> ?_
     refine Yf [] [44] ?_
     refine Yc h (fun h=> ?_) fun h=> ?_
     ·refine Yp P1 [2] ?_
      exact YS ⟨6,rfl,h⟩
     ·refine zk (Yp P1 [2] ?_)
      exact YS ⟨0,rfl,h⟩
end
end Go.Proofs.YtofjmclceflgiaaGreat
