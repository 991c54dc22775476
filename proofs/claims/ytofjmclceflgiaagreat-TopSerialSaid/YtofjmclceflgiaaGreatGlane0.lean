/- WRITTEN BY PROGRAM (dec.py): for each Go function the clean formula F, the call's contract C, and the proof S that F gives C. -/
import Derived.Test.YtofjmclceflgiaaGreatRows
import Derived.Test.YtofjmclceflgiaaGreatGF
namespace Go.Proofs.YtofjmclceflgiaaGreat
open Go
set_option linter.unusedVariables false
set_option maxRecDepth 100000
set_option maxHeartbeats 4000000
noncomputable section

/-! ### towpath/lane.New (function 42) -/

theorem S_5b {number:Int} {c:T_f} {w:World} {R:OA→Int→WP} (h:F_Nd number c R w):C_ec number c w R:=by
 unfold F_Nd at h
 refine Yh Tryz.func42 ?_
 ·refine Yt ?_
  refine Yw pv_ h fun b_ w1 h=> ?_
  refine Yf P2 [0,3] (Ys (Yd 0 (Yt ?_)))
  refine YL h fun v7 h=> ?_
  refine Ym1 h fun v8 w2 h=> ?_
  refine Yf P2 [0,3,6] ?_
  refine Yc h (fun h=> ?_) fun h=> ?_
  ·refine Yp P2 [4,5] ?_
   exact YT2 ⟨none,7,rfl,h⟩
  ·refine Ycut (fun l w=>∃(t10:Bool),l=[(0,Vi number),(3,pv_ b_),(10,Vo t10)]∧F_ob number R b_ t10 w) ?_ ?_
   ·refine Yr (Yn (Pl 5) ?_)
    refine Yspl 13 h (fun h=> ?_) fun h=> ?_
    ·refine Yf [.skip,.skip,.plain,.plain] [0,3,10] ?_
     exact⟨_,Sub.mk K_,true,rfl,h⟩
    ·refine Yl h fun v16 h=> ?_
     refine Yf [.sure,.plain,.plain] [0,3,10] ?_
     exact⟨_,Sub.mk K_,(decide (number>v16)),rfl,h⟩
   ·rintro _ w3 ⟨t10,rfl,h⟩
    unfold F_ob at h
    refine Yc h (fun h=> ?_) fun h=> ?_
    ·refine Yp P2 [4,5] ?_
     exact YT2 ⟨none,1,rfl,h⟩
    ·refine zk (Yt (Yn P1 ?_))
     refine YL h fun v20 h=> ?_
     refine Yn P3 ?_
     refine Yw pv_ h fun b_1 w4 h=> ?_
     refine Yf P2 [4,5] ?_
     exact YT2 ⟨(some ⟨b_1,0,none⟩),0,rfl,h⟩

/-! ### (*towpath/lane.Lane).Holds (function 222) -/

theorem S_8 {l_:OA} {w:World} {R:Int→WP} (h:F_Pc l_ R w):C_t l_ w R:=by
 unfold F_Pc at h
 refine Yh Tryz.func222 ?_
 ·refine Yp P1 [0] (Ys (Yt (Yn P1 ?_)))
  refine Ym2 h fun b_ ok w1 h=> ?_
  refine Yf (Pl 5) [3,4] (Yp P1 [3,10] ?_)
  refine Yc h (fun h=> ?_) fun h=> ?_
  ·refine Yt (Yn P1 ?_)
   refine Yv 11 h fun hp_1 h=> ?_
   refine Yn P1 (Yn P1 ?_)
   refine Yl h fun v14 h=> ?_
   refine Yf P1 [2] ?_
   exact YS ⟨v14,rfl,h⟩
  ·refine zk (Yp P1 [2] ?_)
   exact YS ⟨0,rfl,h⟩

/-! ### (*towpath/lane.Lane).Next (function 225) -/
def zmt:=cb_ Tryz.f225
def znt:=cr_ zmt
def zhp:=cr_ znt
def zjp:=cr_ zhp
def zQk:=cr_ zjp
def zkp:=cl_ zQk
def zlp:=co_ zkp
def zmp:=cr_ zQk
def znp:=cl_ zmp
def zop:=co_ znp
def zAd:List Nat:=[0,1,2,3,4,5,6,7,8,9,10,11]
def zBd:List Nat:=[0,1,2,3,4,5,7,6,8,9,10,11]

theorem S_pb {l_:OA} {w:World} {R:Int→T_c→Bool→WP} (h:F_6c l_ R w):C_9 l_ w R:=by
 unfold F_6c at h
 refine Yh Tryz.func225 ?_
 ·refine Yt (Yn P1 ?_)
  refine Yw pv_ h fun b_ w1 h=> ?_
  refine Yf P1 [0,3] (Ys (Yt (Yn P1 ?_)))
  refine Ym1 h fun v10 w2 h=> ?_
  refine Yf [] [0,3,10] ?_
  refine Yc h (fun h=> ?_) fun h=> ?_
  ·refine Yt (Yn P2 ?_)
   refine Yo h fun w3 h=> ?_
   refine Yf P1 [2,3,4] ?_
   obtain⟨res,hc_res,h⟩:=h
   exact YTg (rs:=[(ResultVar.tmp 2),(ResultVar.cell 3 209),(ResultVar.tmp 4)]) (vs:=[Vi 0,Value.agg #[Value.int .u8 res.Kind,Vi res.From,Vi res.Number,Value.string res.Write.Key,Value.string res.Write.Val,Vo res.Write.Drop,Value.string res.Key,Value.string res.End,sv_ res.Beyond],Vo false]) (⟨K_,⟨b_,0,[Value.int .u8 res.Kind,Vi res.From,Vi res.Number,Value.string res.Write.Key,Value.string res.Write.Val,Vo res.Write.Drop,Value.string res.Key,Value.string res.End,sv_ res.Beyond],K_,hc_res,(zq (k:=9) K_ K_),.inl ⟨K_,rfl⟩,⟨K_,trivial⟩⟩⟩) ⟨0,res,false,rfl,h⟩
  ·refine zk ?_
   refine Ycut (fun l w=>∃(w_:OA) (ok:Bool),l=[(0,Vp l_),(3,pv_ b_),(5,Vp w_),(6,Vo ok)]∧F_E l_ R b_ w_ ok w) ?_ ?_
   ·refine Yr (Yn P1 ?_)
    refine Yv 13 h fun hp_7 h=> ?_
    refine Yn P1 (Yn P1 ?_)
    refine Yl h fun v16 h=> ?_
    rcases h with ⟨r,hx_,h⟩ | ⟨r1,hx_,h⟩
    ·refine Yu 16 (fun pp=>pp) hx_ ?_
     refine Ym2 h fun v17 ok1 w11 h=> ?_
     refine Yn P3 ?_
     refine Yw pv_ h fun b_1 w12 h=> ?_
     refine Yo h fun w13 h=> ?_
     refine Yf P1 [0,3,5,6] ?_
     exact⟨_,Sub.mk K_,(some ⟨b_1,0,none⟩),ok1,rfl,h⟩
    ·refine Yu 16 (fun pp=>pp) hx_ ?_
     refine Ym2 h fun v171 ok2 w14 h=> ?_
     refine Yn P3 ?_
     refine Yw pv_ h fun b_2 w15 h=> ?_
     refine Yo h fun w16 h=> ?_
     refine Yf P1 [0,3,5,6] ?_
     exact⟨_,Sub.mk K_,(some ⟨b_2,0,none⟩),ok2,rfl,h⟩
   ·rintro _ w4 ⟨w_,ok,rfl,h⟩
    unfold F_E at h
    refine Ys (Yp P2 [0,3,5,21] ?_)
    refine Yc h (fun h=> ?_) fun h=> ?_
    ·refine Yt (Yn P2 ?_)
     refine Yo h fun w5 h=> ?_
     refine Yf P1 [2,3,4] ?_
     obtain⟨res1,hc_res1,h⟩:=h
     exact YTg (rs:=[(ResultVar.tmp 2),(ResultVar.cell 3 209),(ResultVar.tmp 4)]) (vs:=[Vi 0,Value.agg #[Value.int .u8 res1.Kind,Vi res1.From,Vi res1.Number,Value.string res1.Write.Key,Value.string res1.Write.Val,Vo res1.Write.Drop,Value.string res1.Key,Value.string res1.End,sv_ res1.Beyond],Vo false]) (⟨K_,⟨b_,0,[Value.int .u8 res1.Kind,Vi res1.From,Vi res1.Number,Value.string res1.Write.Key,Value.string res1.Write.Val,Vo res1.Write.Drop,Value.string res1.Key,Value.string res1.End,sv_ res1.Beyond],K_,hc_res1,(zq (k:=9) K_ K_),.inl ⟨K_,rfl⟩,⟨K_,trivial⟩⟩⟩) ⟨0,res1,false,rfl,h⟩
    ·refine zk (Ys ?_)
     refine zm (id:=6) (ops:=zlp) zAd K_ K_ K_ K_ (fun w6 hw=> ?_)
     replace h:=h w6 hw
     clear hw
     refine Mn P1 ?_
     refine Mv 24 h fun hp_3 h=> ?_
     refine Mn P1 ?_
     refine Mn P1 ?_
     refine ML 3 h fun v27 hc h=> ?_
     refine Mv 5 h fun hp_4 h=> ?_
     refine Mn P1 ?_
     refine Ml 5 h fun v29 hc h=> ?_
     refine zt (op:=(Op.call (Call.mk (Callee.value (Operand.func 62)) #[(Operand.tmp 27),(Operand.tmp 29)] #[23,9]))) (ty:=50) (dst:=some 30) 6 [3,5,2,4,1,0] [] 62 #[Value.agg #[Vi v27.Lanes,Vi v27.Shards,Vi v27.Window,Vi v27.Queue],Value.string v29] K_ K_ K_ K_ K_ (fun ww=>by kernel_rfl) (Calls.mono h ?_)
     rintro _ w7 ⟨s,v30_1,rfl,h⟩
     refine⟨_,rfl,trivial,?_⟩
     refine Mn (Pl 5) ?_
     refine Mu 5 (fun pp=> .pointer pp) hp_4.symm ?_
     refine Mf [] [0,3,5,7] ?_
     refine Ys ?_
     refine zm (id:=7) (ops:=zop) zBd K_ K_ K_ K_ (fun w8 hw=> ?_)
     replace h:=h w8 hw
     clear hw
     refine Mn P2 ?_
     refine Mv 34 h fun hp_5 h=> ?_
     refine Mn P1 ?_
     refine Mn P1 ?_
     refine Ml 4 h fun v37 hc h=> ?_
     refine Mn P1 ?_
     refine Mv 5 h fun hp_6 h=> ?_
     refine ML 7 h fun v40 hc h=> ?_
     refine zt (op:=(Op.call (Call.mk (Callee.value (Operand.func 222)) #[(Operand.tmp 38)] #[133]))) (ty:=3) (dst:=some 39) 6 [5] [(7,fun w'=>zc w' (pblk w_) (poff w_) [Value.string v40.Key,Value.string v40.Val,Vo v40.Drop]),(4,fun w'=>w'.cell? ⟨(pblk l_),(poff l_),none⟩=some (Vi v37))] 222 #[Vp l_] K_ K_ K_ K_ K_ (fun ww=>by kernel_rfl) (Calls.mono h ?_)
     rintro _ w9 ⟨v39,rfl,h⟩
     obtain⟨hk0,hk1,h⟩:=h
     refine⟨_,rfl,⟨hk0,hk1,trivial⟩,?_⟩
     refine Mn P2 ?_
     refine z3b 10 [0,1,2,3,4,5,6,7,8,9] [] h fun w10 h=> ?_
     refine⟨trivial,?_⟩
     refine Mf P1 [2,3,4] ?_
     obtain⟨res2,hc_res2,h⟩:=h
     exact YTg (rs:=[(ResultVar.tmp 2),(ResultVar.cell 3 209),(ResultVar.tmp 4)]) (vs:=[Vi s,Value.agg #[Value.int .u8 res2.Kind,Vi res2.From,Vi res2.Number,Value.string res2.Write.Key,Value.string res2.Write.Val,Vo res2.Write.Drop,Value.string res2.Key,Value.string res2.End,sv_ res2.Beyond],Vo true]) (⟨K_,⟨b_,0,[Value.int .u8 res2.Kind,Vi res2.From,Vi res2.Number,Value.string res2.Write.Key,Value.string res2.Write.Val,Vo res2.Write.Drop,Value.string res2.Key,Value.string res2.End,sv_ res2.Beyond],K_,hc_res2,(zq (k:=9) K_ K_),.inl ⟨K_,rfl⟩,⟨K_,trivial⟩⟩⟩) ⟨s,res2,true,rfl,h⟩

/-! ### (*towpath/lane.Lane).Ready (function 226) -/

theorem S_9 {l_:OA} {w:World} {R:Bool→WP} (h:F_Qc l_ R w):C_0 l_ w R:=by
 unfold F_Qc at h
 refine Yh Tryz.func226 ?_
 ·refine Yp P1 [0] (Yt (Yn P1 ?_))
  refine Ym2 h fun b_ ok w1 h=> ?_
  refine Yf (Pl 5) [3,4] (Yt (Yn P3 ?_))
  refine Yspl 11 h (fun h=> ?_) fun h=> ?_
  ·refine Yv 12 h fun hp_0 h=> ?_
   refine Yn [.sure] (Yn [.sure] ?_)
   refine Yl h fun v15 h=> ?_
   refine Yn [.sure,.sure,.plain,.plain,.plain] ?_
   refine Yspl 19 h (fun h=> ?_) fun h=> ?_
   ·refine Yv 20 h fun hp_1 h=> ?_
    refine Yn [.sure] (Yn [.sure] ?_)
    refine Yl h fun v23 h=> ?_
    refine Yf [.sure,.plain,.plain] [2] ?_
    exact YS ⟨(v23==0),rfl,h⟩
   ·refine Yf [.skip,.skip,.skip,.skip,.plain,.plain] [2] ?_
    exact YS ⟨false,rfl,h⟩
  ·refine Yf [.skip,.skip,.skip,.skip,.skip,.plain,.plain,.skip,.skip,.skip,.skip,.skip,.plain,.plain] [2] ?_
   exact YS ⟨false,rfl,h⟩

/-! ### (*towpath/lane.Lane).busy (function 227) -/

theorem S_o {l_:OA} {w:World} {R:OA→Bool→WP} (h:F_hc l_ R w):C_h l_ w R:=by
 unfold F_hc at h
 refine Yh Tryz.func227 ?_
 ·refine Yp P2 [0] (Ys (Yt (Yn P1 ?_)))
  refine Ym1 h fun v7 w1 h=> ?_
  refine Yf [] [0,7] ?_
  refine Yc h (fun h=> ?_) fun h=> ?_
  ·refine Yp P2 [2,3] ?_
   exact YT2 ⟨none,false,rfl,h⟩
  ·refine zk ?_
   refine Ycut (fun l w=>∃(b_:OA) (ok:Bool),l=[(4,Vp b_),(5,Vo ok)]∧F_Db R b_ ok w) ?_ ?_
   ·refine Yr (Yn P1 ?_)
    refine Yv 9 h fun hp_1 h=> ?_
    refine Yn P1 (Yn P1 ?_)
    refine Yl h fun v12 h=> ?_
    rcases h with ⟨b_1,hx_,h⟩ | ⟨hx_,h⟩
    ·refine Yu 12 (fun pp=>pp) hx_ ?_
     refine zw (op:=(Op.typeAssert (Operand.tmp 12) 200 341 true)) (ty:=342) (dst:=some 13) (Value.tuple #[Vp b_1,Vo true]) K_ (fun ww=>by kernel_rfl) ?_
     refine Yf (Pl 5) [4,5] ?_
     exact⟨_,Sub.mk K_,b_1,true,rfl,h⟩
    ·refine zw (op:=(Op.typeAssert (Operand.tmp 12) 200 341 true)) (ty:=342) (dst:=some 13) (Value.tuple #[Vp none,Vo false]) K_ (fun ww=>zCh (p:=v12) (z:=(Vp none)) K_ hx_ K_ (fun w_=>by kernel_rfl) ww) ?_
     refine Yf (Pl 5) [4,5] ?_
     exact⟨_,Sub.mk K_,none,false,rfl,h⟩
   ·rintro _ w2 ⟨b_,ok,rfl,h⟩
    unfold F_Db at h
    refine Yp P4 [2,3] ?_
    exact YT2 ⟨b_,ok,rfl,h⟩

/-! ### (*towpath/lane.Lane).Take (function 228) -/
def zot:=cb_ Tryz.f228
def zpt:=cr_ zot
def zpp:=cr_ zpt
def zqp:=cr_ zpp
def zrp:=cr_ zqp
def zsp:=cl_ zrp
def ztp:=co_ zsp
def zCd:List Nat:=[0,1,2,3,4,5,6,7,8,9,10]

theorem S_qb {l_:OA} {t_:T_b} {w:World} {R:Int→WP} (h:F_7c l_ t_ R w):C_vb l_ t_ w R:=by
 unfold F_7c at h
 refine Yh Tryz.func228 ?_
 ·refine Yt ?_
  refine Yw pv_ h fun b_ w1 h=> ?_
  refine Yf P1 [0,3] (Ys (Yt (Yn P1 ?_)))
  refine Ym1 h fun v9 w2 h=> ?_
  refine Yf [] [0,3,9] ?_
  refine Yc h (fun h=> ?_) fun h=> ?_
  ·refine Yp P1 [4] ?_
   exact YS ⟨2,rfl,h⟩
  ·refine zk (Ys (Yt (Yn P1 ?_)))
   refine Ym2 h fun v12 ok w3 h=> ?_
   refine Yf (Pl 5) [0,3,6] (Yp P1 [0,3,15] ?_)
   refine Yc h (fun h=> ?_) fun h=> ?_
   ·refine Yp P1 [4] ?_
    exact YS ⟨10,rfl,h⟩
   ·refine zk (Ys (Yt ?_))
    refine YL h fun v16 h=> ?_
    refine Ym1 h fun v17 w4 h=> ?_
    refine Yf P1 [0,3,7] (Yp P2 [0,3,7,19] ?_)
    refine Yc h (fun h=> ?_) fun h=> ?_
    ·refine Yp P2 [4] ?_
     exact YS ⟨v17,rfl,h⟩
    ·refine zk (Ys ?_)
     refine zm (id:=9) (ops:=ztp) zCd K_ K_ K_ K_ (fun w5 hw=> ?_)
     replace h:=h w5 hw
     clear hw
     refine Mn P2 ?_
     refine Ml 2 h fun v23 hc h=> ?_
     refine ML 3 h fun v24 hc h=> ?_
     refine zt (op:=(Op.call (Call.mk (Callee.value (Operand.func 232)) #[(Operand.tmp 24)] #[72]))) (ty:=70) (dst:=some 25) 4 [3] [(2,fun w'=>w'.cell? ⟨b_,0,none⟩=some (Vi v23))] 232 #[Value.agg #[Vi v24.Number,sv_ v24.Writes]] K_ K_ K_ K_ K_ (fun ww=>by kernel_rfl) (Calls.mono h ?_)
     rintro _ w6 ⟨v25,rfl,h⟩
     obtain⟨hk0,h⟩:=h
     refine⟨_,rfl,⟨hk0,trivial⟩,?_⟩
     refine Mn P1 ?_
     refine z7 (op:=(Op.box 345 (Operand.tmp 26))) (ty:=341) (dst:=some 27) 6 [5,2,4,1,3] [] (fun bb=>pv_ bb) (Obj.cells ([Vi v23,sv_ v25,Vi 0]).toArray y_y (0,0)) K_ K_ K_ K_ K_ K_ (fun b_1 w7 hb hw=> ?_)
     replace h:=h b_1 w7 hb hw
     clear hb hw
     refine⟨trivial,?_⟩
     refine Mn P1 ?_
     refine Mv 21 h fun hp_1 h=> ?_
     refine Mn P1 ?_
     refine Mn P1 ?_
     refine z3b 10 [0,1,2,3,4,5,6,7,9,8] [] h fun w8 h=> ?_
     refine⟨trivial,?_⟩
     refine Mf [] [] ?_
     refine Yp P1 [4] ?_
     exact YS ⟨0,rfl,h⟩

/-! ### (*towpath/lane.Lane).Sent (function 229) -/

theorem S_rb {l_:OA} {w:World} {R:Int→WP} (h:F_8c l_ R w):C_wb l_ w R:=by
 unfold F_8c at h
 refine Yh Tryz.func229 ?_
 ·refine Yp P1 [0] (Ys (Yt (Yn P1 ?_)))
  refine Ym1 h fun v6 w1 h=> ?_
  refine Yf [] [0,6] ?_
  refine Yc h (fun h=> ?_) fun h=> ?_
  ·refine Yp P1 [2] ?_
   exact YS ⟨2,rfl,h⟩
  ·refine zk (Yt (Yn P1 ?_))
   refine Ym2 h fun b_ ok w2 h=> ?_
   refine Yf (Pl 5) [3,4] (Ys ?_)
   refine Ycut (fun l w=>∃(t21:Bool),l=[(3,Vp b_),(21,Vo t21)]∧F_R R b_ t21 w) ?_ ?_
   ·refine Yr (Yn P4 ?_)
    refine Yspl 14 h (fun h=> ?_) fun h=> ?_
    ·refine Yf [.skip,.skip,.skip,.skip,.skip,.plain] [3,21] ?_
     exact⟨_,Sub.mk K_,true,rfl,h⟩
    ·refine Yv 15 h fun hp_9 h=> ?_
     refine Yn [.sure] (Yn [.sure] ?_)
     refine Yl h fun v18 h=> ?_
     refine Yf [.sure,.sure,.plain] [3,21] ?_
     exact⟨_,Sub.mk K_,(((v18.len:Nat):Int)==0),rfl,h⟩
   ·rintro _ w3 ⟨t21,rfl,h⟩
    unfold F_R at h
    refine Yc h (fun h=> ?_) fun h=> ?_
    ·refine Yp P1 [2] ?_
     exact YS ⟨9,rfl,h⟩
    ·refine zk (Yt (Yn P2 ?_))
     refine Yv 23 h fun hp_5 h=> ?_
     refine Yn P1 (Yn P1 ?_)
     refine Yl h fun v26 h=> ?_
     obtain⟨hc,h⟩:=h
     refine zAb (t:=70) (e:=69) (x:=(Operand.tmp 26)) (lo:=(Operand.const (Value.int IntKind.i64 1))) (s:=v26) (sz:=3) (k:= .i64) (a:=1) (ty:=70) (dst:=some 27) K_ K_ K_ K_ K_ hc (fun s hs=> ?_)
     replace h:=h s hs
     clear hs
     refine Yv 22 h fun hp_6 h=> ?_
     refine Yn P1 (Yn P1 ?_)
     refine Yo h fun w4 h=> ?_
     refine Yf [] [3] (Yt (Yn P1 ?_))
     refine Yv 30 h fun hp_8 h=> ?_
     refine Yn P1 (Yn P1 ?_)
     refine Yl h fun v33 h=> ?_
     refine Yn P3 ?_
     refine Yo h fun w5 h=> ?_
     refine Yf [] [] (Yp P1 [2] ?_)
     exact YS ⟨0,rfl,h⟩

/-! ### (*towpath/lane.Lane).Done (function 230) -/

theorem S_sb {l_:OA} {w:World} {R:Int→Int→WP} (h:F_9c l_ R w):C_xb l_ w R:=by
 unfold F_9c at h
 refine Yh Tryz.func230 ?_
 ·refine Yp P2 [0] (Ys (Yt (Yn P1 ?_)))
  refine Ym1 h fun v7 w1 h=> ?_
  refine Yf [] [0,7] ?_
  refine Yc h (fun h=> ?_) fun h=> ?_
  ·refine Yp P2 [2,3] ?_
   exact YT2 ⟨0,2,rfl,h⟩
  ·refine zk (Yt (Yn P1 ?_))
   refine Ym2 h fun b_ ok w2 h=> ?_
   refine Yf (Pl 5) [0,4,5] (Ys (Yd 0 (Yp P3 [0,4,13] ?_)))
   refine Yc h (fun h=> ?_) fun h=> ?_
   ·refine Yp P2 [2,3] ?_
    exact YT2 ⟨0,9,rfl,h⟩
   ·refine Yt (Yn P1 ?_)
    refine Ym1 h fun v18 w3 h=> ?_
    refine Yf P2 [0,4,16] ?_
    refine Yc h (fun h=> ?_) fun h=> ?_
    ·refine Yp P2 [2,3] ?_
     exact YT2 ⟨0,10,rfl,h⟩
    ·refine zk (Yt (Yn P3 ?_))
     refine Yv 20 h fun hp_1 h=> ?_
     refine Yn P1 (Yn P1 ?_)
     refine Yo h fun w4 h=> ?_
     refine Yf [] [4] (Yt (Yn P1 ?_))
     refine Yv 25 h fun hp_2 h=> ?_
     refine Yn P1 (Yn P1 ?_)
     refine Yl h fun v28 h=> ?_
     refine Yf P2 [2,3] ?_
     exact YT2 ⟨v28,0,rfl,h⟩

/-! ### (*towpath/lane.Lane).gone (function 231) -/

theorem S_tb {l_:OA} {w:World} {R:Bool→WP} (h:F_ad l_ R w):C_j l_ w R:=by
 unfold F_ad at h
 refine Yh Tryz.func231 ?_
 ·refine Yp P1 [0] (Yt (Yn P1 ?_))
  refine zw (op:=(Op.binOp BinOp.eql 133 (Operand.tmp 3) (Operand.const (Vp none)) 133)) (ty:=4) (dst:=some 4) (Vo l_.isNone) K_ (fun ww=>zy (p:=l_) K_ K_ K_ ww) ?_
  refine Yn P2 ?_
  refine Yspl 5 h (fun h=> ?_) fun h=> ?_
  ·refine Yf [.skip,.skip,.skip,.skip,.plain,.plain] [2] ?_
   exact YS ⟨true,rfl,h⟩
  ·refine Yv 6 h fun hp_0 h=> ?_
   refine Yn [.sure] (Yn [.sure] ?_)
   refine Yl h fun v9 h=> ?_
   obtain⟨hi_,h⟩:=h
   refine zw (op:=(Op.binOp BinOp.eql 200 (Operand.tmp 9) (Operand.const Value.nilIface) 200)) (ty:=4) (dst:=some 10) (Vo (zhf v9)) K_ (fun ww=>zBh (p:=v9) K_ hi_ K_ ww) ?_
   refine Yf P2 [2] ?_
   exact YS ⟨(zhf v9),rfl,h⟩

/-! ### towpath/lane.counting (function 232) -/

theorem S_Eb {t_:T_b} {w:World} {R:Slc→WP} (h:F_hd t_ R w):C_Hb t_ w R:=by
 unfold F_hd at h
 refine Yh Tryz.func232 ?_
 ·refine Yt ?_
  refine Yw pv_ h fun b_ w1 h=> ?_
  refine Yf P1 [1] (Yp P1 [1,3] (Ys (Yt (Yn P1 ?_))))
  refine Yl h fun v7 h=> ?_
  refine Yf P2 [1,3,7,8,9] (Yd 0 ?_)
  obtain⟨I,μ,h0,hr⟩:=h
  refine znb (fun m l w=>∃(out:Slc) (t9:Int),l=[(1,pv_ b_),(3,sv_ out),(7,sv_ v7),(8,Vi ((v7.len:Nat):Int)),(9,Vi t9)]∧I out t9 w∧μ out t9 w=m) ⟨(Slc.mk none 0 0),0,rfl,h0,rfl⟩ ?_
  rintro _ _ w2 ⟨out,t9,rfl,hI,rfl⟩
  obtain⟨again_,again__h,h⟩:∃ again_:Slc→Int→WP,(∀ out' t9' w',again_ out' t9' w'→I out' t9' w'∧μ out' t9' w'<μ out t9 w2)∧F_Nb R b_ v7 again_ out t9 w2:=⟨_,fun _ _ _ h=>h,hr out t9 w2 hI⟩
  clear h0 hI
  unfold F_Nb at h
  refine Yp P1 [1,3,7,8,9,10] (Ys ?_)
  refine Yc h (fun h=> ?_) fun h=> ?_
  ·refine zk ?_
   refine Ycut (fun l w=>∃(out1:Slc),l=[(1,pv_ b_),(3,sv_ out1),(7,sv_ v7),(8,Vi ((v7.len:Nat):Int)),(9,Vi t9)]∧F_lb t9 again_ out1 w) ?_ ?_
   ·refine Yd 1 (Yt (Yn P1 ?_))
    obtain⟨hp_7,h⟩:=h
    refine Yu 7 (fun pp=> .slice pp v7.len v7.cap) hp_7 ?_
    refine Yi h fun h=> ?_
    refine YL h fun v13 h=> ?_
    refine Yw pv_ h fun b_1 w4 h=> ?_
    refine Yn P1 ?_
    refine Yo h fun w5 h=> ?_
    refine Yu 7 (fun pp=> .slice pp v7.len v7.cap) hp_7.symm ?_
    refine Yf [] [1,3,4,5,7,8,9] (Yt (Yn P1 ?_))
    refine Yl h fun v15 h=> ?_
    refine Yn P2 ?_
    obtain⟨hc,h⟩:=h
    refine zAb (t:=70) (e:=69) (x:=(Operand.tmp 15)) (lo:=(Operand.tmp 17)) (s:=v15) (sz:=3) (k:= .i64) (a:=(IntKind.i64.wrap (t9+1))) (ty:=70) (dst:=some 18) K_ K_ K_ K_ K_ hc (fun s hs=> ?_)
    replace h:=h s hs
    clear hs
    refine Yn P1 ?_
    refine Ym1 h fun v20 w6 h=> ?_
    refine Yf P1 [1,3,5,7,8,9,21] ?_
    refine Yc h (fun h=> ?_) fun h=> ?_
    ·refine Yr (Yn P1 ?_)
     refine YL h fun v23 h=> ?_
     refine Yw (sl_ 1 1) h fun b_2 w7 h=> ?_
     obtain⟨src,hs,h⟩:=h
     refine zC (t:=70) (tx:=70) (e:=69) (a:=(Operand.tmp 22)) (xo:=(Operand.tmp 24)) (s:=out) (x:=(Slc.mk (some ⟨b_2,0,none⟩) 1 1)) (sz:=3) (by_:=40) (zs:=[Value.string ByteArray.empty,Value.string ByteArray.empty,Vo false]) (ty:=70) (dst:=some 25)  src K_ K_ K_ K_ K_ K_ K_ K_ K_ hs (zo.mono h (fun out2 w8 h=> ?_))
     refine Yf P1 [1,3,7,8,9] ?_
     exact⟨_,Sub.mk K_,out2,rfl,h⟩
    ·refine zk ?_
     exact⟨_,Sub.mk K_,out,rfl,h⟩
   ·rintro _ w3 ⟨out1,rfl,h⟩
    unfold F_lb at h
    refine Yr (Yf P2 [1,3,7,8,9] ?_)
    have hb_:=again__h _ _ _ h
    exact⟨_,hb_.2,_,Sub.mk K_,out1,(IntKind.i64.wrap (t9+1)),rfl,hb_.1,rfl⟩
  ·refine z3 0 (Yp P2 [2] ?_)
   exact YS ⟨out,rfl,h⟩

/-! ### towpath/lane.counting$1 (function 233) -/

theorem S_ab {x:T_d} {t1:OA} {w:World} {R:Bool→WP} (h:F_rd x t1 R w):C_Ub x t1 w R:=by
 unfold F_rd at h
 refine Yh Tryz.func233 ?_
 ·refine Yt ?_
  refine Yw pv_ h fun b_ w1 h=> ?_
  refine Yf P1 [1,2] (Yt (Yn P1 ?_))
  refine Yl h fun v5 h=> ?_
  refine Yv 1 h fun hp_0 h=> ?_
  refine Yn P1 ?_
  refine Yl h fun v7 h=> ?_
  refine Yf P2 [3] ?_
  exact YS ⟨(v5.toList==v7.toList),rfl,h⟩
end
end Go.Proofs.YtofjmclceflgiaaGreat
