/- WRITTEN BY PROGRAM (dec.py): for each Go function the clean formula F, the call's contract C, and the proof S that F gives C. -/
import Derived.Test.YtjlfdepkphibgaaGreatDoorRows
import Derived.Test.YtjlfdepkphibgaaGreatDoorGF
namespace Go.Proofs.YtjlfdepkphibgaaGreatDoor
open Go
set_option linter.unusedVariables false
set_option maxRecDepth 100000
set_option maxHeartbeats 4000000
noncomputable section

/-! ### towpath/towpathref19.New (function 16) -/

theorem S_ab {d:OA} {s:T_b} {w:World} {R:OA→Int→WP} (h:F_Nd d s R w):C_ob d s w R:=by
 unfold F_Nd at h
 refine Yh Tryz.func16 ?_
 ·refine Yt ?_
  refine Yw pv_ h fun b_ w1 h=> ?_
  refine Yf P2 [0,3] (Ys (Yt (Yn P1 ?_)))
  refine zP (op:=(Op.binOp BinOp.eql 28 (Operand.tmp 14) (Operand.const (Vp none)) 28)) (ty:=4) (dst:=some 15) (Vo d.isNone) K_ (fun ww=>zz (p:=d) K_ K_ K_ ww) ?_
  refine Yf [] [0,3,15] ?_
  refine Yc h (fun h=> ?_) fun h=> ?_
  ·refine Yp P2 [4,5] ?_
   exact YT2 ⟨none,2,rfl,h⟩
  ·refine zg (Yt ?_)
   refine YL h fun v17 h=> ?_
   refine Ym2 h fun x e w2 h=> ?_
   refine Yf (Pl 5) [0,6,7] (Ys (Yp P2 [0,6,22] ?_))
   refine Yc h (fun h=> ?_) fun h=> ?_
   ·refine Yp P2 [4,5] ?_
    exact YT2 ⟨none,1,rfl,h⟩
   ·refine zg (Yt (Yn P1 ?_))
    refine zkb (op:=(Op.call (Call.mk (Callee.value (Operand.func 29)) #[(Operand.tmp 24)] #[28]))) (ty:=81) (dst:=some 25) 29 #[Vp d] K_ (fun ww=>by kernel_rfl) (Calls.mono h ?_)
    rintro _ w3 ⟨v25,generation,slot,ok,v25_4,rfl,h⟩
    refine⟨_,rfl,?_⟩
    refine Yn (Pl 6) ?_
    refine Yw pv_ h fun b_1 w4 h=> ?_
    refine Yo h fun w5 h=> ?_
    refine Yf P4 [0,6,9,10,11] ?_
    refine Ycut (fun l w=>∃(slot1:Int),l=[(0,Vp d),(6,sv_ x),(9,Vi generation),(10,Vi slot1)]∧F_Ab d R x generation slot1 w) ?_ ?_
    ·refine Yp P1 [0,6,9,10,31] ?_
     refine Yc h (fun h=> ?_) fun h=> ?_
     ·refine Yr (Yf P3 [0,6,9,10] ?_)
      exact⟨_,Sub.mk K_,(IntKind.i64.wrap (1 - slot)),rfl,h⟩
     ·refine zg ?_
      exact⟨_,Sub.mk K_,slot,rfl,h⟩
    ·rintro _ w6 ⟨slot1,rfl,h⟩
     unfold F_Ab at h
     refine Ys (Yp P2 [0,6,9,10,35] ?_)
     refine Yc h (fun h=> ?_) fun h=> ?_
     ·refine Yp P2 [4,5] ?_
      exact YT2 ⟨none,3,rfl,h⟩
     ·refine zg (Yt (Yn P4 ?_))
      refine Ym1 h fun v40 w7 h=> ?_
      refine Yf P1 [0,10,13] (Ys (Yt (Yn P3 ?_)))
      refine Ym1 h fun v44 w8 h=> ?_
      refine Yf P1 [0,10,13,45] ?_
      refine Yc h (fun h=> ?_) fun h=> ?_
      ·refine Yp P2 [4,5] ?_
       exact YT2 ⟨none,13,rfl,h⟩
      ·refine zg (Yt (Yn P4 ?_))
       refine Yw pv_ h fun b_2 w9 h=> ?_
       refine Yf P2 [4,5] ?_
       exact YT2 ⟨(some ⟨b_2,0,none⟩),0,rfl,h⟩

/-! ### (*towpath/towpathref19.Saver).Step (function 27) -/
def zXu:=cb_ Tryz.f27
def zYu:=cr_ zXu
def zxt:=cr_ zYu
def zyt:=cr_ zxt
def zzt:=cr_ zyt
def zAt:=cl_ zzt
def zQl:=cr_ zAt
def zBt:=cl_ zQl
def zCt:=co_ zBt
def zDt:=cr_ zQl
def zEt:=cr_ zDt
def zFt:=cr_ zEt
def zGt:=cr_ zFt
def zHt:=co_ zGt

theorem S_f {s:OA} {w:World} {R:Int→WP} (h:F_ld s R w):C_o s w R:=by
 unfold F_ld at h
 refine Yh Tryz.func27 ?_
 ·refine Yp P1 [0] (Ys (Yt (Yn P1 ?_)))
  refine zP (op:=(Op.binOp BinOp.eql 33 (Operand.tmp 6) (Operand.const (Vp none)) 33)) (ty:=4) (dst:=some 7) (Vo s.isNone) K_ (fun ww=>zz (p:=s) K_ K_ K_ ww) ?_
  refine Yf [] [0,7] ?_
  refine Yc h (fun h=> ?_) fun h=> ?_
  ·refine Yp P1 [2] ?_
   exact YS ⟨2,rfl,h⟩
  ·refine zg (Ys (Yt (Yn P1 ?_)))
   refine Ym1 h fun v9 w1 h=> ?_
   refine Yf P1 [0,10] ?_
   refine Yc h (fun h=> ?_) fun h=> ?_
   ·refine Yp P1 [2] ?_
    exact YS ⟨9,rfl,h⟩
   ·refine zg (Yp P1 [0] ?_)
    refine Ycut (fun l w=>∃(e:Int),l=[(0,Vp s),(3,Vi e)]∧F_p s R e w) ?_ ?_
    ·refine Yt (Yn P1 ?_)
     refine Yv 11 h fun hp_20 h=> ?_
     refine Yn P1 (Yn P1 ?_)
     refine Yl h fun v14 h=> ?_
     refine Yf P1 [0,15] ?_
     refine Yc h (fun h=> ?_) fun h=> ?_
     ·refine zsb (id:=7) (ops:=zCt) K_ 8 K_ K_ (fun w5 hw=> ?_)
      replace h:=h w5 hw
      clear hw
      refine Qn P1 ?_
      refine Qv 16 h fun hp_21 h=> ?_
      refine Qn P1 ?_
      refine Qn P1 ?_
      refine Ql h fun v19 h=> ?_
      refine Qn P1 ?_
      refine Qv 20 h fun hp_22 h=> ?_
      refine Qn P1 ?_
      refine Qn P1 ?_
      refine Ql h fun v23 h=> ?_
      refine zRc K_ ?_
      refine Ym1 h fun v24 w6 h=> ?_
      refine Yf P1 [0,3] ?_
      exact⟨_,Sub.mk K_,v24,rfl,h⟩
     ·refine Yt (Yn P1 ?_)
      refine Yv 25 h fun hp_24 h=> ?_
      refine Yn P1 (Yn P1 ?_)
      refine Yl h fun v28 h=> ?_
      refine Yf P3 [0,4] (Yp P3 [0,4,5] ?_)
      refine Ycut (fun l w=>∃(end_:Int),l=[(0,Vp s),(4,Vi (IntKind.i64.wrap ((IntKind.i64.wrap (v28 - 1))*64))),(5,Vi end_)]∧F_q s R v28 end_ w) ?_ ?_
      ·refine Yt (Yn P2 ?_)
       refine Yv 34 h fun hp_32 h=> ?_
       refine Yn P1 (Yn P1 ?_)
       refine Yl h fun v37 h=> ?_
       refine Yf P2 [0,4,5,39] ?_
       refine Yc h (fun h=> ?_) fun h=> ?_
       ·refine Yr (Yn P1 ?_)
        refine Yv 40 h fun hp_33 h=> ?_
        refine Yn P1 (Yn P1 ?_)
        refine Yl h fun v43 h=> ?_
        refine Yf P2 [0,4,5] ?_
        exact⟨_,Sub.mk K_,((v43.len:Nat):Int),rfl,h⟩
       ·refine zg ?_
        exact⟨_,Sub.mk K_,(IntKind.i64.wrap ((IntKind.i64.wrap ((IntKind.i64.wrap (v28 - 1))*64))+64)),rfl,h⟩
      ·rintro _ w7 ⟨end_,rfl,h⟩
       unfold F_q at h
       refine zsb (id:=12) (ops:=zHt) K_ 16 K_ K_ (fun w8 hw=> ?_)
       replace h:=h w8 hw
       clear hw
       refine Qn P1 ?_
       refine Qv 45 h fun hp_28 h=> ?_
       refine Qn P1 ?_
       refine Qn P1 ?_
       refine Ql h fun v48 h=> ?_
       refine Qn P1 ?_
       refine Qv 49 h fun hp_29 h=> ?_
       refine Qn P1 ?_
       refine Qn P1 ?_
       refine Ql h fun v52 h=> ?_
       refine Qn P2 ?_
       refine Qv 54 h fun hp_30 h=> ?_
       refine Qn P1 ?_
       refine Qn P1 ?_
       refine Ql h fun v57 h=> ?_
       refine Qn P2 ?_
       obtain⟨hc,h⟩:=h
       refine zDh (t:=38) (e:=5) (x:=(Operand.tmp 57)) (lo:=(Operand.tmp 58)) (hi:=(Operand.tmp 59)) (s:=v57) (sz:=1) (k:= .i64) (a:=(IntKind.i64.wrap ((IntKind.i64.wrap (v28 - 1))*64))) (k':= .i64) (b:=end_) (ty:=38) (dst:=some 60) K_ K_ K_ K_ K_ K_ hc (fun s1 hs=> ?_)
       replace h:=h s1 hs
       clear hs
       refine zRc K_ ?_
       refine Ym1 h fun v61 w9 h=> ?_
       refine Yf P1 [0,3] ?_
       exact⟨_,Sub.mk K_,v61,rfl,h⟩
    ·rintro _ w2 ⟨e,rfl,h⟩
     unfold F_p at h
     refine Ycut (fun l w=>l=[(3,Vi e)]∧F_o R e w) ?_ ?_
     ·refine Yp P2 [0,3,63] ?_
      refine Yc h (fun h=> ?_) fun h=> ?_
      ·refine Yr (Yn P2 ?_)
       refine Yv 65 h fun hp_17 h=> ?_
       refine Yn P1 (Yn P1 ?_)
       refine Yl h fun v68 h=> ?_
       refine Yn P1 ?_
       refine Yv 64 h fun hp_18 h=> ?_
       refine Yn P1 (Yn P1 ?_)
       refine Yo h fun w4 h=> ?_
       refine Yf [] [3] ?_
       exact⟨_,Sub.mk K_,rfl,h⟩
      ·refine zg ?_
       exact⟨_,Sub.mk K_,rfl,h⟩
     ·rintro _ w3 ⟨rfl,h⟩
      unfold F_o at h
      refine Yp P2 [2] ?_
      exact YS ⟨e,rfl,h⟩

/-! ### towpath/towpathref19.Newest (function 29) -/

theorem S_r {d:OA} {w:World} {R:T_b→Int→Int→Bool→Int→WP} (h:F_4c d R w):C_q d w R:=by
 unfold F_4c at h
 refine Yh Tryz.func29 ?_
 ·refine Yt ?_
  refine Yw pv_ h fun b_ w1 h=> ?_
  refine Yf P4 [0,2] (Ys (Yt (Yn P1 ?_)))
  refine zP (op:=(Op.binOp BinOp.eql 28 (Operand.tmp 17) (Operand.const (Vp none)) 28)) (ty:=4) (dst:=some 18) (Vo d.isNone) K_ (fun ww=>zz (p:=d) K_ K_ K_ ww) ?_
  refine Yf [] [0,2,18] ?_
  refine Yc h (fun h=> ?_) fun h=> ?_
  ·refine Yt (Yn P1 ?_)
   refine Yo h fun w2 h=> ?_
   refine Yf P4 [2,3,4,5,6] ?_
   obtain⟨res,hc_res,h⟩:=h
   exact YTg (rs:=[(ResultVar.cell 2 59),(ResultVar.tmp 3),(ResultVar.tmp 4),(ResultVar.tmp 5),(ResultVar.tmp 6)]) (vs:=[Value.agg #[Vi res.Mark,sv_ res.Beyond,sv_ res.Held],Vi 0,Vi 0,Vo false,Vi 2]) (⟨b_,0,[Vi res.Mark,sv_ res.Beyond,sv_ res.Held],K_,hc_res,(zx (k:=3) K_ K_),.inl ⟨K_,rfl⟩,⟨K_,⟨K_,⟨K_,⟨K_,trivial⟩⟩⟩⟩⟩) ⟨res,0,0,false,2,rfl,h⟩
  ·refine zg (Yt (Yn P1 ?_))
   refine Ym2 h fun a_ v22_1 w3 h=> ?_
   refine Yf (Pl 5) [0,2,7] (Yt (Yn P1 ?_))
   refine Ym2 h fun b_1 v27_1 w4 h=> ?_
   refine Yf (Pl 5) [2,7,9] (Yt (Yn P1 ?_))
   refine Ym3 h fun v32 m_ one w5 h=> ?_
   refine Yn P4 ?_
   refine Yw pv_ h fun b_2 w6 h=> ?_
   refine Yo h fun w7 h=> ?_
   refine Yf P2 [2,9,11,12,13] (Yt (Yn P1 ?_))
   refine Ym3 h fun v38 n_ two w8 h=> ?_
   refine Yn P4 ?_
   refine Yw pv_ h fun b_3 w9 h=> ?_
   refine Yo h fun w10 h=> ?_
   refine Yf P2 [2,11,12,13,14,15,16] (Ys (Yp [.plain,.plain,.plain,.plain,.plain,.plain,.plain,.plain,.pick,.pick] [2,11,12,13,14,15,51] ?_))
   refine Yc h (fun h=> ?_) fun h=> ?_
   ·refine Yt ?_
    refine YL h fun v52 h=> ?_
    refine Yn P2 ?_
    refine Yo h fun w11 h=> ?_
    refine Yf P4 [2,3,4,5,6] ?_
    obtain⟨res1,hc_res1,h⟩:=h
    exact YTg (rs:=[(ResultVar.cell 2 59),(ResultVar.tmp 3),(ResultVar.tmp 4),(ResultVar.tmp 5),(ResultVar.tmp 6)]) (vs:=[Value.agg #[Vi res1.Mark,sv_ res1.Beyond,sv_ res1.Held],Vi (IntKind.i64.wrap n_),Vi 1,Vo true,Vi 0]) (⟨b_,0,[Vi res1.Mark,sv_ res1.Beyond,sv_ res1.Held],K_,hc_res1,(zx (k:=3) K_ K_),.inl ⟨K_,rfl⟩,⟨K_,⟨K_,⟨K_,⟨K_,trivial⟩⟩⟩⟩⟩) ⟨res1,(IntKind.i64.wrap n_),1,true,0,rfl,h⟩
   ·refine zg (Ys (Yp P1 [2,11,12,55] ?_))
    refine Yc h (fun h=> ?_) fun h=> ?_
    ·refine Yt ?_
     refine YL h fun v56 h=> ?_
     refine Yn P2 ?_
     refine Yo h fun w12 h=> ?_
     refine Yf P4 [2,3,4,5,6] ?_
     obtain⟨res2,hc_res2,h⟩:=h
     exact YTg (rs:=[(ResultVar.cell 2 59),(ResultVar.tmp 3),(ResultVar.tmp 4),(ResultVar.tmp 5),(ResultVar.tmp 6)]) (vs:=[Value.agg #[Vi res2.Mark,sv_ res2.Beyond,sv_ res2.Held],Vi (IntKind.i64.wrap m_),Vi 0,Vo true,Vi 0]) (⟨b_,0,[Vi res2.Mark,sv_ res2.Beyond,sv_ res2.Held],K_,hc_res2,(zx (k:=3) K_ K_),.inl ⟨K_,rfl⟩,⟨K_,⟨K_,⟨K_,⟨K_,trivial⟩⟩⟩⟩⟩) ⟨res2,(IntKind.i64.wrap m_),0,true,0,rfl,h⟩
    ·refine zg (Yt (Yn P1 ?_))
     refine Yo h fun w13 h=> ?_
     refine Yf P4 [2,3,4,5,6] ?_
     obtain⟨res3,hc_res3,h⟩:=h
     exact YTg (rs:=[(ResultVar.cell 2 59),(ResultVar.tmp 3),(ResultVar.tmp 4),(ResultVar.tmp 5),(ResultVar.tmp 6)]) (vs:=[Value.agg #[Vi res3.Mark,sv_ res3.Beyond,sv_ res3.Held],Vi 0,Vi 0,Vo false,Vi 0]) (⟨b_,0,[Vi res3.Mark,sv_ res3.Beyond,sv_ res3.Held],K_,hc_res3,(zx (k:=3) K_ K_),.inl ⟨K_,rfl⟩,⟨K_,⟨K_,⟨K_,⟨K_,trivial⟩⟩⟩⟩⟩) ⟨res3,0,0,false,0,rfl,h⟩

/-! ### (*towpath/towpathref19.Saver).Left (function 31) -/
def zZu:=cb_ Tryz.f31
def z0u:=cr_ zZu
def zIt:=cr_ z0u
def zJt:=cl_ zIt
def zKt:=co_ zJt
def zgc:List Nat:=[0,2,3,4,5,1,6,7]

theorem S_g {s:OA} {w:World} {R:Int→WP} (h:F_md s R w):C_k s w R:=by
 unfold F_md at h
 refine Yh Tryz.func31 ?_
 ·refine Yp P1 [0] (Ys (Yt (Yn P1 ?_)))
  refine zP (op:=(Op.binOp BinOp.eql 33 (Operand.tmp 3) (Operand.const (Vp none)) 33)) (ty:=4) (dst:=some 4) (Vo s.isNone) K_ (fun ww=>zz (p:=s) K_ K_ K_ ww) ?_
  refine Yf [] [0,4] ?_
  refine Yc h (fun h=> ?_) fun h=> ?_
  ·refine Yp P1 [2] ?_
   exact YS ⟨0,rfl,h⟩
  ·refine zg (Ys ?_)
   refine zm (id:=3) (ops:=zKt) zgc K_ K_ K_ K_ (fun w1 hw=> ?_)
   replace h:=h w1 hw
   clear hw
   refine Mn P2 ?_
   refine Mv 7 h fun hp_0 h=> ?_
   refine Mn P1 ?_
   refine Mn P1 ?_
   refine Ml 5 h fun v10 hc h=> ?_
   refine zo (op:=(Op.call (Call.mk (Callee.value (Operand.func 92)) #[(Operand.tmp 5)] #[33]))) (ty:=3) (dst:=some 6) 1 [0] [(5,fun w'=>w'.cell? ⟨(pblk s),(poff s)+3,none⟩=some (Vi v10))] 92 #[Vp s] K_ K_ K_ K_ K_ (fun ww=>by kernel_rfl) (Calls.mono h ?_)
   rintro _ w2 ⟨v6,rfl,h⟩
   obtain⟨hk0,h⟩:=h
   refine⟨_,rfl,⟨hk0,trivial⟩,?_⟩
   refine Mf P2 [2] ?_
   exact YS ⟨(IntKind.i64.wrap (v6 - v10)),rfl,h⟩

/-! ### towpath/towpathref19.Bytes (function 79) -/

theorem S_8b {generation:Int} {x:Slc} {w:World} {R:Slc→WP} (h:F_1d generation x R w):C_fc generation x w R:=by
 unfold F_1d at h
 refine Yh Tryz.func79 ?_
 ·refine Yp P1 [0,1] (Yt ?_)
  refine Ym2 h fun b_ v11_1 w1 h=> ?_
  refine Yf (Pl 5) [0,1,5] (Yt (Yn P1 ?_))
  refine Ym2 h fun c v16_1 w2 h=> ?_
  refine Yf (Pl 5) [1,5,7] (Yt (Yn P4 ?_))
  refine Ym2 h fun c1 v24_1 w3 h=> ?_
  refine Yf P4 [1,5,7] (Yt (Yn P1 ?_))
  refine Ym1 h fun v28 w4 h=> ?_
  refine Yn P1 ?_
  refine Ym1 h fun v30 w5 h=> ?_
  refine Yf P1 [1,5,7,9] (Yt (Yn P2 ?_))
  obtain⟨src,hs,h⟩:=h
  refine zH (t:=38) (tx:=38) (e:=5) (a:=(Operand.tmp 31)) (xo:=(Operand.tmp 32)) (s:=b_) (x:=c1) (sz:=1) (by_:=1) (zs:=[Value.int .u8 0]) (ty:=38) (dst:=some 33)  src K_ K_ K_ K_ K_ K_ K_ K_ K_ hs (zj.mono h (fun b_1 w6 h=> ?_))
  refine Yf P1 [1,5,9] (Yt (Yn P3 ?_))
  refine Ym2 h fun b_2 v38_1 w7 h=> ?_
  refine Yf P4 [1,5] (Yt (Yn P2 ?_))
  obtain⟨src,hs,h⟩:=h
  refine zH (t:=38) (tx:=38) (e:=5) (a:=(Operand.tmp 41)) (xo:=(Operand.tmp 42)) (s:=b_2) (x:=x) (sz:=1) (by_:=1) (zs:=[Value.int .u8 0]) (ty:=38) (dst:=some 43)  src K_ K_ K_ K_ K_ K_ K_ K_ K_ hs (zj.mono h (fun v43 w8 h=> ?_))
  refine Yf P1 [4] ?_
  exact YS ⟨v43,rfl,h⟩
end
end Go.Proofs.YtjlfdepkphibgaaGreatDoor
