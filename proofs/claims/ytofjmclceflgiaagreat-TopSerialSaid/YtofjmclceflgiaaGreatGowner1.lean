/- WRITTEN BY PROGRAM (dec.py): for each Go function the clean formula F, the call's contract C, and the proof S that F gives C. -/
import Derived.Test.YtofjmclceflgiaaGreatRows
import Derived.Test.YtofjmclceflgiaaGreatGF
namespace Go.Proofs.YtofjmclceflgiaaGreat
open Go
set_option linter.unusedVariables false
set_option maxRecDepth 100000
set_option maxHeartbeats 4000000
noncomputable section

/-! ### (*towpath/owner.Owner).Serve (function 237) -/
def zhu:=cb_ Tryz.f237
def ziu:=cr_ zhu
def zfr:=cr_ ziu
def zgr:=cr_ zfr
def zhr:=cr_ zgr
def zir:=cr_ zhr
def zjr:=cl_ zir
def zkr:=co_ zjr
def zUc:List Nat:=[0,2,3,5,1,4,6]

theorem S_Y {o_:OA} {w:World} {R:T_h→Int→WP} (h:F_sc o_ R w):C_bb o_ w R:=by
 unfold F_sc at h
 refine Yh Tryz.func237 ?_
 ·refine Yt ?_
  refine Yw pv_ h fun b_ w1 h=> ?_
  refine Yf P1 [0,2] (Ys (Yt (Yn P1 ?_)))
  refine Ym1 h fun v8 w2 h=> ?_
  refine Yf P1 [0,2,9] ?_
  refine Yc h (fun h=> ?_) fun h=> ?_
  ·refine Yt (Yn P1 ?_)
   refine Yo h fun w3 h=> ?_
   refine Yf P1 [2,3] ?_
   obtain⟨res,hc_res,h⟩:=h
   exact YTg (rs:=[(ResultVar.cell 2 325),(ResultVar.tmp 3)]) (vs:=[Value.agg #[Vi res.To,Vo res.OK,sv_ res.Entries,sv_ res.Held,Vi res.Count],Vi 2]) (⟨b_,0,[Vi res.To,Vo res.OK,sv_ res.Entries,sv_ res.Held,Vi res.Count],K_,hc_res,(zq (k:=5) K_ K_),.inl ⟨K_,rfl⟩,⟨K_,trivial⟩⟩) ⟨res,2,rfl,h⟩
  ·refine zk (Yt (Yn P1 ?_))
   refine Yv 12 h fun hp_1 h=> ?_
   refine Yn P1 (Yn P1 ?_)
   refine Yl h fun v15 h=> ?_
   refine Ym2 h fun v16 ok w4 h=> ?_
   refine Yn P3 ?_
   refine Yw pv_ h fun b_1 w5 h=> ?_
   refine Yo h fun w6 h=> ?_
   refine Yf P1 [0,2,4,5] (Ys (Yp P2 [0,2,4,20] ?_))
   refine Yc h (fun h=> ?_) fun h=> ?_
   ·refine Yt (Yn P1 ?_)
    refine Yo h fun w7 h=> ?_
    refine Yf P1 [2,3] ?_
    obtain⟨res1,hc_res1,h⟩:=h
    exact YTg (rs:=[(ResultVar.cell 2 325),(ResultVar.tmp 3)]) (vs:=[Value.agg #[Vi res1.To,Vo res1.OK,sv_ res1.Entries,sv_ res1.Held,Vi res1.Count],Vi 9]) (⟨b_,0,[Vi res1.To,Vo res1.OK,sv_ res1.Entries,sv_ res1.Held,Vi res1.Count],K_,hc_res1,(zq (k:=5) K_ K_),.inl ⟨K_,rfl⟩,⟨K_,trivial⟩⟩) ⟨res1,9,rfl,h⟩
   ·refine zk (Yt (Yn P1 ?_))
    refine Yl h fun v23 h=> ?_
    refine Yn P1 ?_
    refine Yw pv_ h fun b_2 w8 h=> ?_
    refine Yo h fun w9 h=> ?_
    refine Yf [] [0,2,4,6] (Ys ?_)
    refine zm (id:=7) (ops:=zkr) zUc K_ K_ K_ K_ (fun w10 hw=> ?_)
    replace h:=h w10 hw
    clear hw
    refine Mn P2 ?_
    refine Ml 3 h fun v28 hc h=> ?_
    refine ML 5 h fun v30 hc h=> ?_
    refine zt (op:=(Op.call (Call.mk (Callee.value (Operand.func 242)) #[(Operand.tmp 25)] #[105]))) (ty:=357) (dst:=some 26) 1 [0] [(5,fun w'=>zc w' b_1 0 [Value.int .u8 v30.Kind,Vi v30.From,Vi v30.Number,Value.string v30.Write.Key,Value.string v30.Write.Val,Vo v30.Write.Drop,Value.string v30.Key,Value.string v30.End,sv_ v30.Beyond]),(3,fun w'=>w'.cell? ⟨b_1,0,none⟩=some (Value.int .u8 v28))] 242 #[Vp o_] K_ K_ K_ K_ K_ (fun ww=>by kernel_rfl) (Calls.mono h ?_)
    rintro _ w11 ⟨v26,rfl,h⟩
    obtain⟨hk0,hk1,h⟩:=h
    refine⟨_,rfl,⟨hk0,hk1,trivial⟩,?_⟩
    obtain⟨h0,h1,h⟩:=h
    refine zmg (i:=4) K_ (t:=357) (e:=356) (x:=(Operand.tmp 26)) (ix:=(Operand.tmp 28)) (k:= .u8) (j:=v28) (ty:=356) (dst:=some 29) (len:=6) (fun xx=>xx) ([v26.e0,v26.e1,v26.e2,v26.e3,v26.e4,v26.e5]:List Value) Value.nilFunc K_ K_ K_ K_ K_ K_ K_ h0 h1 ?_
    refine zei (fo:=(Operand.tmp 29)) (aa:=#[(Operand.tmp 30),(Operand.tmp 6)]) (ts:=#[209,359]) (fv:=(([v26.e0,v26.e1,v26.e2,v26.e3,v26.e4,v26.e5]:List Value).getD v28.toNat Value.nilFunc)) (ty:=0) (dst:=some 31) 6 [1,4,5,0,3,2] [] #[Value.agg #[Value.int .u8 v30.Kind,Vi v30.From,Vi v30.Number,Value.string v30.Write.Key,Value.string v30.Write.Val,Vo v30.Write.Drop,Value.string v30.Key,Value.string v30.End,sv_ v30.Beyond],pv_ b_2] K_ K_ K_ K_ K_ K_ K_ (zbb.mono h ?_)
    rintro _ w12 ⟨_,rfl,h⟩
    refine⟨_,rfl,trivial,?_⟩
    refine Mf [] [2,6] ?_
    refine Yt ?_
    refine YL h fun v32 h=> ?_
    refine Yo h fun w13 h=> ?_
    refine Yf P1 [2,3] ?_
    obtain⟨res2,hc_res2,h⟩:=h
    exact YTg (rs:=[(ResultVar.cell 2 325),(ResultVar.tmp 3)]) (vs:=[Value.agg #[Vi res2.To,Vo res2.OK,sv_ res2.Entries,sv_ res2.Held,Vi res2.Count],Vi 0]) (⟨b_,0,[Vi res2.To,Vo res2.OK,sv_ res2.Entries,sv_ res2.Held,Vi res2.Count],K_,hc_res2,(zq (k:=5) K_ K_),.inl ⟨K_,rfl⟩,⟨K_,trivial⟩⟩) ⟨res2,0,rfl,h⟩

/-! ### (*towpath/owner.Owner).served (function 242) -/

theorem S_O {o_:OA} {w:World} {R:zYb→WP} (h:F_jc o_ R w):C_Ib o_ w R:=by
 unfold F_jc at h
 refine Yh Tryz.func242 ?_
 ·refine Yt ?_
  refine Yw pv_ h fun b_ w1 h=> ?_
  refine Yw pv_ h fun b_1 w2 h=> ?_
  refine Yf [] [1,2] (Yt (Yn (Pl 6) ?_))
  refine Yo h fun w3 h=> ?_
  refine Yf [] [2] ?_
  obtain⟨res,hc_res,h⟩:=h
  exact YSg (rs:=[(ResultVar.cell 2 357)]) (v:=Value.agg #[res.e0,res.e1,res.e2,res.e3,res.e4,res.e5]) (⟨b_1,0,[res.e0,res.e1,res.e2,res.e3,res.e4,res.e5],K_,hc_res,(zq (k:=6) K_ K_),.inl ⟨K_,rfl⟩,trivial⟩) ⟨res,rfl,h⟩

/-! ### (*towpath/owner.Owner).served$1 (function 248) -/
def zju:=cb_ Tryz.f248
def zku:=cr_ zju
def zlu:=co_ zku
def zxc:List Nat:=[0,1,2,3,4,5,6,7,8,9,10,11,12,13,14,15]

theorem S_z {r:T_c} {out:OA} {t2:OA} {w:World} {R:WP} (h:F_Wb r out t2 R w):C_qb r out t2 w R:=by
 unfold F_Wb at h
 refine Yh Tryz.func248 ?_
 ·refine Yt ?_
  refine Yw pv_ h fun b_ w1 h=> ?_
  refine Yf [] [1,2,3] ?_
  refine zm (id:=1) (ops:=zlu) zxc K_ K_ K_ K_ (fun w2 hw=> ?_)
  replace h:=h w2 hw
  clear hw
  refine Mn P1 ?_
  refine Mv 2 h fun hp_0 h=> ?_
  refine Ml 1 h fun v7 hc h=> ?_
  refine Mv 7 h fun hp_1 h=> ?_
  refine Mn P1 ?_
  refine Mn P1 ?_
  refine Ml 4 h fun v10 hc h=> ?_
  refine Mn P1 ?_
  refine Ml 6 h fun v12 hc h=> ?_
  refine Mn P1 ?_
  refine ML 8 h fun v14 hc h=> ?_
  refine zt (op:=(Op.call (Call.mk (Callee.value (Operand.func 249)) #[(Operand.tmp 10),(Operand.tmp 12),(Operand.tmp 14)] #[168,3,69]))) (ty:=314) (dst:=some 15) 9 [4,6,8,3,5,7,2,1] [] 249 #[Vp v10,Vi v12,Value.agg #[Value.string v14.Key,Value.string v14.Val,Vo v14.Drop]] K_ K_ K_ K_ K_ (fun ww=>by kernel_rfl) (Calls.mono h ?_)
  rintro _ w3 ⟨v15,v15_1,rfl,h⟩
  refine⟨_,rfl,trivial,?_⟩
  refine Mn P3 ?_
  refine Mv 6 h fun hp_2 h=> ?_
  refine Mn P1 ?_
  refine Mn P1 ?_
  refine z3b 15 [0,1,2,3,4,5,6,7,8,9,10,11,14,13] [] h fun w4 h=> ?_
  refine⟨trivial,?_⟩
  refine Mf [] [] ?_
  repeat (first | refine zjh ?_ | refine zCf ?_ | refine zkh ?_ | refine zDf ?_ | refine zZe K_ ?_)
  refine z7e ?_
  repeat (first | refine zM ?_ | refine zA ?_ | refine zF ?_ | refine zN ?_)
  exact retT (rs:=[]) (vs:=[]) K_ (trivial) K_ ⟨rfl,h⟩
end
end Go.Proofs.YtofjmclceflgiaaGreat
