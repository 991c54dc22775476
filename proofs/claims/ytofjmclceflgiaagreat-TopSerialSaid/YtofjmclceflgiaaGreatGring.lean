/- WRITTEN BY PROGRAM (dec.py): for each Go function the clean formula F, the call's contract C, and the proof S that F gives C. -/
import Derived.Test.YtofjmclceflgiaaGreatRows
import Derived.Test.YtofjmclceflgiaaGreatGF
namespace Go.Proofs.YtofjmclceflgiaaGreat
open Go
set_option linter.unusedVariables false
set_option maxRecDepth 100000
set_option maxHeartbeats 4000000
noncomputable section

/-! ### towpath/ring.New[towpath/api.Req] (function 65) -/

theorem S_3 {capacity:Int} {w:World} {R:OA→Int→WP} (h:F_Ac capacity R w):C_eb capacity w R:=by
 unfold F_Ac at h
 refine Yh Tryz.func65 ?_
 ·refine Yp P2 [0] (Ys (Yp [.plain,.plain,.plain,.plain,.plain,.pick] [0,9] ?_))
  refine Yc h (fun h=> ?_) fun h=> ?_
  ·refine Yp P2 [2,3] ?_
   exact YT2 ⟨none,1,rfl,h⟩
  ·refine zk (Yt (Yn P1 ?_))
   obtain⟨h0,h1,h2,h⟩:=h
   refine zQd (t:=245) (e:=209) (lo:=(Operand.tmp 10)) (co:=(Operand.tmp 10)) (l:=capacity) (c:=capacity) (sz:=9) (by_:=120) (zs:=[Value.int .u8 0,Vi 0,Vi 0,Value.string ByteArray.empty,Value.string ByteArray.empty,Vo false,Value.string ByteArray.empty,Value.string ByteArray.empty,Value.slice none 0 0]) (ty:=245) (dst:=some 11) K_ K_ K_ K_ K_ K_ K_ K_ K_ h0 h1 h2 (fun b_ w1 hb hw=> ?_)
   replace h:=h b_ w1 hb hw
   clear hb hw
   refine Yn P1 ?_
   refine Yw pv_ h fun b_1 w2 h=> ?_
   refine Yf P2 [2,3] ?_
   exact YT2 ⟨(some ⟨b_1,0,none⟩),0,rfl,h⟩

/-! ### (*towpath/ring.Ring[towpath/api.Req]).Room (function 128) -/
def z0t:=cb_ Tryz.f128
def z1t:=cr_ z0t
def zUq:=cr_ z1t
def zVq:=cl_ zUq
def zWq:=co_ zVq

theorem S_p {r:OA} {w:World} {R:Int→WP} (h:F_xb r R w):C_p r w R:=by
 unfold F_xb at h
 refine Yh Tryz.func128 ?_
 ·refine Yp P1 [0] (Ys ?_)
  refine Ycut (fun l w=>∃(t10:Bool),l=[(0,Vp r),(10,Vo t10)]∧F_q r R t10 w) ?_ ?_
  ·refine Yr (Yn P1 ?_)
   refine Ym1 h fun v4 w3 h=> ?_
   refine Yn P2 ?_
   refine Yspl 5 h (fun h=> ?_) fun h=> ?_
   ·refine Yf [.skip,.skip,.skip,.plain] [0,10] ?_
    exact⟨_,Sub.mk K_,true,rfl,h⟩
   ·refine Yv 6 h fun hp_5 h=> ?_
    refine Yn [.sure] (Yn [.sure] ?_)
    refine Yl h fun v9 h=> ?_
    refine Yf P1 [0,10] ?_
    exact⟨_,Sub.mk K_,v9,rfl,h⟩
  ·rintro _ w1 ⟨t10,rfl,h⟩
   unfold F_q at h
   refine Yc h (fun h=> ?_) fun h=> ?_
   ·refine Yp P1 [2] ?_
    exact YS ⟨0,rfl,h⟩
   ·refine zk (Ys ?_)
    refine zv (id:=3) (ops:=zWq) K_ K_ K_ ?_
    refine Qn P1 ?_
    refine Qv 11 h fun hp_3 h=> ?_
    refine Qn P1 ?_
    refine Qn P1 ?_
    refine Ql h fun v14 h=> ?_
    refine Qn P2 ?_
    refine Qv 16 h fun hp_4 h=> ?_
    refine Qn P1 ?_
    refine Qn P1 ?_
    refine Ql h fun v19 h=> ?_
    refine Qf P2 [2] h fun w2 h=> ?_
    exact YS ⟨(IntKind.i64.wrap (((v14.len:Nat):Int) - v19)),rfl,h⟩

/-! ### (*towpath/ring.Ring[towpath/api.Req]).gone (function 149) -/

theorem S_q {r:OA} {w:World} {R:Bool→WP} (h:F_yb r R w):C_q r w R:=by
 unfold F_yb at h
 refine Yh Tryz.func149 ?_
 ·refine Yp P1 [0] (Yt (Yn P1 ?_))
  refine zw (op:=(Op.binOp BinOp.eql 169 (Operand.tmp 3) (Operand.const (Vp none)) 169)) (ty:=4) (dst:=some 4) (Vo r.isNone) K_ (fun ww=>zy (p:=r) K_ K_ K_ ww) ?_
  refine Yn P2 ?_
  refine Yspl 5 h (fun h=> ?_) fun h=> ?_
  ·refine Yf [.skip,.skip,.skip,.skip,.plain,.plain] [2] ?_
   exact YS ⟨true,rfl,h⟩
  ·refine Yv 6 h fun hp_0 h=> ?_
   refine Yn [.sure] (Yn [.sure] ?_)
   refine Yl h fun v9 h=> ?_
   refine zw (op:=(Op.binOp BinOp.eql 245 (Operand.tmp 9) (Operand.const (Value.slice none 0 0)) 245)) (ty:=4) (dst:=some 10) (Vo v9.ptr.isNone) K_ (fun ww=>zfb (p:=v9.ptr) (l:=v9.len) (c:=v9.cap) K_ K_ K_ ww) ?_
   refine Yf P2 [2] ?_
   exact YS ⟨v9.ptr.isNone,rfl,h⟩

/-! ### (*towpath/ring.Ring[towpath/api.Req]).Put (function 192) -/
def z2t:=cb_ Tryz.f192
def z3t:=cr_ z2t
def zXq:=cr_ z3t
def zYq:=cl_ zXq
def zZq:=co_ zYq

theorem S_t {r:OA} {x:T_c} {w:World} {R:Bool→WP} (h:F_Ib r x R w):C_R r x w R:=by
 unfold F_Ib at h
 refine Yh Tryz.func192 ?_
 ·refine Yt ?_
  refine Yw pv_ h fun b_ w1 h=> ?_
  refine Yf P1 [0,3] (Ys (Yt (Yn P1 ?_)))
  refine Ym1 h fun v6 w2 h=> ?_
  refine Yf P1 [0,3,7] ?_
  refine Yc h (fun h=> ?_) fun h=> ?_
  ·refine Yp P1 [4] ?_
   exact YS ⟨false,rfl,h⟩
  ·refine zk (Ys ?_)
   refine zn (id:=3) (ops:=zZq) K_ 21 K_ K_ (fun w3 hw=> ?_)
   replace h:=h w3 hw
   clear hw
   refine Qn P1 ?_
   refine Qv 8 h fun hp_5 h=> ?_
   refine Qn P1 ?_
   refine Qn P1 ?_
   refine Ql h fun v11 h=> ?_
   refine Qn P1 ?_
   refine Qv 12 h fun hp_6 h=> ?_
   refine Qn P1 ?_
   refine Qn P1 ?_
   refine Ql h fun v15 h=> ?_
   refine Qn P1 ?_
   refine Qv 16 h fun hp_7 h=> ?_
   refine Qn P1 ?_
   refine Qn P1 ?_
   refine Ql h fun v19 h=> ?_
   refine Qn P2 ?_
   refine Qv 21 h fun hp_8 h=> ?_
   refine Qn P1 ?_
   refine Qn P1 ?_
   refine Ql h fun v24 h=> ?_
   refine Qn P1 ?_
   obtain⟨h0,h⟩:=h
   refine zbd (op:=(Op.binOp BinOp.rem 3 (Operand.tmp 20) (Operand.tmp 25) 3)) (ty:=3) (dst:=some 26) (Vi (Int.tmod (IntKind.i64.wrap (v15+v19)) ((v24.len:Nat):Int))) K_ (fun ww=>zcg K_ K_ h0 ww) ?_
   refine QL h fun v27 h=> ?_
   obtain⟨hp_9,h⟩:=h
   refine Qu 11 (fun pp=> .slice pp v11.len v11.cap) hp_9 ?_
   refine Qi h fun h=> ?_
   refine zD K_ ?_
   refine Yo h fun w4 h=> ?_
   refine Yf [] [0] (Yt (Yn P1 ?_))
   refine Yv 29 h fun hp_11 h=> ?_
   refine Yn P1 (Yn P1 ?_)
   refine Yl h fun v32 h=> ?_
   refine Yn P3 ?_
   refine Yo h fun w5 h=> ?_
   refine Yf [] [] (Yp P1 [4] ?_)
   exact YS ⟨true,rfl,h⟩

/-! ### (*towpath/ring.Ring[towpath/api.Req]).Len (function 236) -/

theorem S_u {r:OA} {w:World} {R:Int→WP} (h:F_Jb r R w):C_w r w R:=by
 unfold F_Jb at h
 refine Yh Tryz.func236 ?_
 ·refine Yp P1 [0] (Ys (Yt (Yn P1 ?_)))
  refine Ym1 h fun v4 w1 h=> ?_
  refine Yf [] [0,4] ?_
  refine Yc h (fun h=> ?_) fun h=> ?_
  ·refine Yp P1 [2] ?_
   exact YS ⟨0,rfl,h⟩
  ·refine zk (Yt (Yn P1 ?_))
   refine Yv 5 h fun hp_0 h=> ?_
   refine Yn P1 (Yn P1 ?_)
   refine Yl h fun v8 h=> ?_
   refine Yf P1 [2] ?_
   exact YS ⟨v8,rfl,h⟩

/-! ### (*towpath/ring.Ring[towpath/api.Req]).Take (function 241) -/
def z4t:=cb_ Tryz.f241
def z5t:=cr_ z4t
def z6t:=cl_ z5t
def z7t:=cr_ z6t
def z0q:=cr_ z7t
def z1q:=cl_ z0q
def zZl:=cr_ z1q
def z2q:=cl_ zZl
def z3q:=co_ z2q
def z4q:=cr_ zZl
def z5q:=cl_ z4q
def z6q:=co_ z5q

theorem S_r {r:OA} {w:World} {R:T_c→Bool→WP} (h:F_Ab r R w):C_Q r w R:=by
 unfold F_Ab at h
 refine Yh Tryz.func241 ?_
 ·refine Yt ?_
  refine Yw pv_ h fun b_ w1 h=> ?_
  refine Yf P1 [0,2] ?_
  refine Ycut (fun l w=>∃(ok:Bool),l=[(2,pv_ b_),(3,Vo ok)]∧F_s R b_ ok w) ?_ ?_
  ·refine Yt (Yn P1 ?_)
   refine Ym2 h fun v7 ok1 w4 h=> ?_
   refine Yn P3 ?_
   refine Yo h fun w5 h=> ?_
   refine Yf P1 [0,2,3] (Yp P1 [0,2,3,10] ?_)
   refine Yc h (fun h=> ?_) fun h=> ?_
   ·refine Yt ?_
    refine Yw pv_ h fun b_1 w6 h=> ?_
    refine Yf [] [0,2,3,4] (Ys ?_)
    refine zn (id:=4) (ops:=z3q) K_ 10 K_ K_ (fun w7 hw=> ?_)
    replace h:=h w7 hw
    clear hw
    refine Qn P1 ?_
    refine Qv 11 h fun hp_16 h=> ?_
    refine Qn P1 ?_
    refine Qn P1 ?_
    refine Ql h fun v14 h=> ?_
    refine Qn P1 ?_
    refine Qv 15 h fun hp_17 h=> ?_
    refine Qn P1 ?_
    refine Qn P1 ?_
    refine Ql h fun v18 h=> ?_
    refine QL h fun v19 h=> ?_
    obtain⟨hp_18,h⟩:=h
    refine Qu 14 (fun pp=> .slice pp v14.len v14.cap) hp_18 ?_
    refine Qi h fun h=> ?_
    refine zD K_ ?_
    refine Yo h fun w8 h=> ?_
    refine Yf [] [0,2,3] (Ys ?_)
    refine zn (id:=5) (ops:=z6q) K_ 14 K_ K_ (fun w9 hw=> ?_)
    replace h:=h w9 hw
    clear hw
    refine Qn P2 ?_
    refine Qv 22 h fun hp_22 h=> ?_
    refine Qn P1 ?_
    refine Qn P1 ?_
    refine Ql h fun v25 h=> ?_
    refine Qn P2 ?_
    refine Qv 27 h fun hp_23 h=> ?_
    refine Qn P1 ?_
    refine Qn P1 ?_
    refine Ql h fun v30 h=> ?_
    refine Qn P1 ?_
    obtain⟨h0,h⟩:=h
    refine zbd (op:=(Op.binOp BinOp.rem 3 (Operand.tmp 26) (Operand.tmp 31) 3)) (ty:=3) (dst:=some 32) (Vi (Int.tmod (IntKind.i64.wrap (v25+1)) ((v30.len:Nat):Int))) K_ (fun ww=>zcg K_ K_ h0 ww) ?_
    refine Qv 21 h fun hp_24 h=> ?_
    refine Qn P1 ?_
    refine Qn P1 ?_
    refine zD K_ ?_
    refine Yo h fun w10 h=> ?_
    refine Yf [] [0,2,3] (Yr (Yn P1 ?_))
    refine Yv 35 h fun hp_25 h=> ?_
    refine Yn P1 (Yn P1 ?_)
    refine Yl h fun v38 h=> ?_
    refine Yn P3 ?_
    refine Yo h fun w11 h=> ?_
    refine Yf [] [2,3] ?_
    exact⟨_,Sub.mk K_,ok1,rfl,h⟩
   ·refine zk ?_
    exact⟨_,Sub.mk K_,ok1,rfl,h⟩
  ·rintro _ w2 ⟨ok,rfl,h⟩
   unfold F_s at h
   refine Yt ?_
   refine YL h fun v42 h=> ?_
   refine Yn P1 ?_
   refine Yo h fun w3 h=> ?_
   refine Yf P1 [2,3] ?_
   obtain⟨res,hc_res,h⟩:=h
   exact YTg (rs:=[(ResultVar.cell 2 209),(ResultVar.tmp 3)]) (vs:=[Value.agg #[Value.int .u8 res.Kind,Vi res.From,Vi res.Number,Value.string res.Write.Key,Value.string res.Write.Val,Vo res.Write.Drop,Value.string res.Key,Value.string res.End,sv_ res.Beyond],Vo ok]) (⟨b_,0,[Value.int .u8 res.Kind,Vi res.From,Vi res.Number,Value.string res.Write.Key,Value.string res.Write.Val,Vo res.Write.Drop,Value.string res.Key,Value.string res.End,sv_ res.Beyond],K_,hc_res,(zq (k:=9) K_ K_),.inl ⟨K_,rfl⟩,⟨K_,trivial⟩⟩) ⟨res,ok,rfl,h⟩

/-! ### (*towpath/ring.Ring[towpath/api.Req]).First (function 247) -/
def z8t:=cb_ Tryz.f247
def z9t:=cr_ z8t
def z7q:=cr_ z9t
def z8q:=cl_ z7q
def z9q:=co_ z8q

theorem S_m {r:OA} {w:World} {R:T_c→Bool→WP} (h:F_qb r R w):C_db r w R:=by
 unfold F_qb at h
 refine Yh Tryz.func247 ?_
 ·refine Yt ?_
  refine Yw pv_ h fun b_ w1 h=> ?_
  refine Yf P1 [0,2] (Ys (Yt (Yn P1 ?_)))
  refine Ym1 h fun v5 w2 h=> ?_
  refine Yf P1 [0,2,6] ?_
  refine Yc h (fun h=> ?_) fun h=> ?_
  ·refine Yt ?_
   refine YL h fun v7 h=> ?_
   refine Yo h fun w3 h=> ?_
   refine Yf P1 [2,3] ?_
   obtain⟨res,hc_res,h⟩:=h
   exact YTg (rs:=[(ResultVar.cell 2 209),(ResultVar.tmp 3)]) (vs:=[Value.agg #[Value.int .u8 res.Kind,Vi res.From,Vi res.Number,Value.string res.Write.Key,Value.string res.Write.Val,Vo res.Write.Drop,Value.string res.Key,Value.string res.End,sv_ res.Beyond],Vo false]) (⟨b_,0,[Value.int .u8 res.Kind,Vi res.From,Vi res.Number,Value.string res.Write.Key,Value.string res.Write.Val,Vo res.Write.Drop,Value.string res.Key,Value.string res.End,sv_ res.Beyond],K_,hc_res,(zq (k:=9) K_ K_),.inl ⟨K_,rfl⟩,⟨K_,trivial⟩⟩) ⟨res,false,rfl,h⟩
  ·refine zk (Ys ?_)
   refine zn (id:=3) (ops:=z9q) K_ 10 K_ K_ (fun w4 hw=> ?_)
   replace h:=h w4 hw
   clear hw
   refine Qn P1 ?_
   refine Qv 8 h fun hp_0 h=> ?_
   refine Qn P1 ?_
   refine Qn P1 ?_
   refine Ql h fun v11 h=> ?_
   refine Qn P1 ?_
   refine Qv 12 h fun hp_1 h=> ?_
   refine Qn P1 ?_
   refine Qn P1 ?_
   refine Ql h fun v15 h=> ?_
   obtain⟨hp_2,h⟩:=h
   refine Qu 11 (fun pp=> .slice pp v11.len v11.cap) hp_2 ?_
   refine Qi h fun h=> ?_
   refine QL h fun v17 h=> ?_
   refine zD K_ ?_
   refine Yo h fun w5 h=> ?_
   refine Yf P1 [2,3] ?_
   obtain⟨res1,hc_res1,h⟩:=h
   exact YTg (rs:=[(ResultVar.cell 2 209),(ResultVar.tmp 3)]) (vs:=[Value.agg #[Value.int .u8 res1.Kind,Vi res1.From,Vi res1.Number,Value.string res1.Write.Key,Value.string res1.Write.Val,Vo res1.Write.Drop,Value.string res1.Key,Value.string res1.End,sv_ res1.Beyond],Vo true]) (⟨b_,0,[Value.int .u8 res1.Kind,Vi res1.From,Vi res1.Number,Value.string res1.Write.Key,Value.string res1.Write.Val,Vo res1.Write.Drop,Value.string res1.Key,Value.string res1.End,sv_ res1.Beyond],K_,hc_res1,(zq (k:=9) K_ K_),.inl ⟨K_,rfl⟩,⟨K_,trivial⟩⟩) ⟨res1,true,rfl,h⟩
end
end Go.Proofs.YtofjmclceflgiaaGreat
