/- WRITTEN BY PROGRAM (dec.py): for each Go function the clean formula F, the call's contract C, and the proof S that F gives C. -/
import Derived.Test.YtjlfdepkphibgaaGreatDoorRows
import Derived.Test.YtjlfdepkphibgaaGreatDoorGF
namespace Go.Proofs.YtjlfdepkphibgaaGreatDoor
open Go
set_option linter.unusedVariables false
set_option maxRecDepth 100000
set_option maxHeartbeats 4000000
noncomputable section

/-! ### towpath/towpathref19.Whole (function 89) -/

theorem S_9b {b_:Slc} {w:World} {R:T_b→Int→Bool→WP} (h:F_4d b_ R w):C_Db b_ w R:=by
 unfold F_4d at h
 refine Yh Tryz.func89 ?_
 ·refine Yt ?_
  refine Yw pv_ h fun b_1 w1 h=> ?_
  refine Yf P2 [0,2] (Yt (Yn P2 ?_))
  refine Yw pv_ h fun b_2 w2 h=> ?_
  refine Yo h fun w3 h=> ?_
  refine Yf [] [0,2,5] (Yt ?_)
  refine YL h fun v16 h=> ?_
  refine Ym2 h fun v17 magic w4 h=> ?_
  refine Yn P3 ?_
  refine Yo h fun w5 h=> ?_
  refine Yf P1 [0,2,5,6] (Yt ?_)
  refine YL h fun v21 h=> ?_
  refine Ym2 h fun v22 generation w6 h=> ?_
  refine Yn P3 ?_
  refine Yo h fun w7 h=> ?_
  refine Yf P1 [0,2,5,6,7] (Yt ?_)
  refine YL h fun v26 h=> ?_
  refine Ym2 h fun v27 length w8 h=> ?_
  refine Yn P3 ?_
  refine Yo h fun w9 h=> ?_
  refine Yf P1 [0,2,5,6,7,8] (Yt ?_)
  refine YL h fun v31 h=> ?_
  refine Ym2 h fun v32 sum w10 h=> ?_
  refine Yn P3 ?_
  refine Yo h fun w11 h=> ?_
  refine Yf P1 [0,2,5,6,7,8,9] (Ys ?_)
  refine Ycut (fun l w=>∃(t56:Bool),l=[(0,sv_ b_),(2,pv_ b_1),(7,Value.int .u64 generation),(9,Value.int .u64 sum),(56,Vo t56)]∧F_g b_ R b_1 generation sum t56 w) ?_ ?_
  ·refine Yr (Yn P1 ?_)
   refine Yl h fun v36 h=> ?_
   refine Yn [.plain,.plain,.plain,.plain,.pick,.plain,.plain,.plain,.pick,.plain,.plain,.plain,.pick,.plain,.plain] ?_
   refine Yspl 50 h (fun h=> ?_) fun h=> ?_
   ·refine Yf [.skip,.skip,.skip,.skip,.plain] [0,2,7,9,56] ?_
    exact⟨_,Sub.mk K_,true,rfl,h⟩
   ·refine YL h fun v52 h=> ?_
    refine Ym1 h fun v53 w21 h=> ?_
    refine Yf [.sure,.sure,.plain] [0,2,7,9,56] ?_
    exact⟨_,Sub.mk K_,(length != (IntKind.u64.wrap v53)),rfl,h⟩
  ·rintro _ w12 ⟨t56,rfl,h⟩
   unfold F_g at h
   refine Yc h (fun h=> ?_) fun h=> ?_
   ·refine Yt (Yn P1 ?_)
    refine Yo h fun w13 h=> ?_
    refine Yf P2 [2,3,4] ?_
    obtain⟨res,hc_res,h⟩:=h
    exact YTg (rs:=[(ResultVar.cell 2 59),(ResultVar.tmp 3),(ResultVar.tmp 4)]) (vs:=[Value.agg #[Vi res.Mark,sv_ res.Beyond,sv_ res.Held],Value.int .u64 0,Vo false]) (⟨b_1,0,[Vi res.Mark,sv_ res.Beyond,sv_ res.Held],K_,hc_res,(zx (k:=3) K_ K_),.inl ⟨K_,rfl⟩,⟨K_,⟨K_,trivial⟩⟩⟩) ⟨res,0,false,rfl,h⟩
   ·refine zg (Yt (Yn P1 ?_))
    obtain⟨hc,h⟩:=h
    refine zld (t:=38) (e:=5) (x:=(Operand.tmp 58)) (lo:=(Operand.const (Value.int IntKind.i64 20))) (s:=b_) (sz:=1) (k:= .i64) (a:=20) (ty:=38) (dst:=some 59) K_ K_ K_ K_ K_ hc (fun s hs=> ?_)
    replace h:=h s hs
    clear hs
    refine Yf P1 [0,2,7,9,10] (Ys (Yt (Yn P2 ?_)))
    obtain⟨hc,h⟩:=h
    refine zte (t:=38) (e:=5) (x:=(Operand.tmp 61)) (lo:=(Operand.const (Value.int IntKind.i64 4))) (hi:=(Operand.const (Value.int IntKind.i64 16))) (s:=b_) (sz:=1) (k:= .i64) (a:=4) (k':= .i64) (b:=16) (ty:=38) (dst:=some 62) K_ K_ K_ K_ K_ K_ hc (fun s1 hs=> ?_)
    replace h:=h s1 hs
    clear hs
    refine Ym1 h fun v63 w14 h=> ?_
    refine Yn P1 ?_
    refine Ym1 h fun v65 w15 h=> ?_
    refine Yf P2 [2,7,10,67] ?_
    refine Yc h (fun h=> ?_) fun h=> ?_
    ·refine Yt (Yn P1 ?_)
     refine Yo h fun w16 h=> ?_
     refine Yf P2 [2,3,4] ?_
     obtain⟨res1,hc_res1,h⟩:=h
     exact YTg (rs:=[(ResultVar.cell 2 59),(ResultVar.tmp 3),(ResultVar.tmp 4)]) (vs:=[Value.agg #[Vi res1.Mark,sv_ res1.Beyond,sv_ res1.Held],Value.int .u64 0,Vo false]) (⟨b_1,0,[Vi res1.Mark,sv_ res1.Beyond,sv_ res1.Held],K_,hc_res1,(zx (k:=3) K_ K_),.inl ⟨K_,rfl⟩,⟨K_,⟨K_,trivial⟩⟩⟩) ⟨res1,0,false,rfl,h⟩
    ·refine zg (Yt (Yn P1 ?_))
     refine Ym2 h fun v71 e w17 h=> ?_
     refine Yn P3 ?_
     refine Yw pv_ h fun b_3 w18 h=> ?_
     refine Yo h fun w19 h=> ?_
     refine Yf P1 [2,7,11,12] (Yt ?_)
     refine YL h fun v74 h=> ?_
     refine Yn P3 ?_
     refine Yo h fun w20 h=> ?_
     refine Yf P2 [2,3,4] ?_
     obtain⟨res2,hc_res2,h⟩:=h
     exact YTg (rs:=[(ResultVar.cell 2 59),(ResultVar.tmp 3),(ResultVar.tmp 4)]) (vs:=[Value.agg #[Vi res2.Mark,sv_ res2.Beyond,sv_ res2.Held],Value.int .u64 generation,Vo (e==0)]) (⟨b_1,0,[Vi res2.Mark,sv_ res2.Beyond,sv_ res2.Held],K_,hc_res2,(zx (k:=3) K_ K_),.inl ⟨K_,rfl⟩,⟨K_,⟨K_,trivial⟩⟩⟩) ⟨res2,generation,(e==0),rfl,h⟩

/-! ### (*towpath/towpathref19.Saver).all (function 92) -/

theorem S_Gb {s:OA} {w:World} {R:Int→WP} (h:F_se s R w):C_pc s w R:=by
 unfold F_se at h
 refine Yh Tryz.func92 ?_
 ·refine Yp P1 [0] (Yt (Yn P1 ?_))
  refine Yv 3 h fun hp_0 h=> ?_
  refine Yn P1 (Yn P1 ?_)
  refine Yl h fun v6 h=> ?_
  refine Yf (Pl 6) [2] ?_
  exact YS ⟨(IntKind.i64.wrap (1+(IntKind.i64.wrap (Int.tdiv (IntKind.i64.wrap ((IntKind.i64.wrap (((v6.len:Nat):Int)+64)) - 1)) 64)))),rfl,h⟩
end
end Go.Proofs.YtjlfdepkphibgaaGreatDoor
