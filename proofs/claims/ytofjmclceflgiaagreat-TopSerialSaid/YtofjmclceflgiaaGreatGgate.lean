/- WRITTEN BY PROGRAM (dec.py): for each Go function the clean formula F, the call's contract C, and the proof S that F gives C. -/
import Derived.Test.YtofjmclceflgiaaGreatRows
import Derived.Test.YtofjmclceflgiaaGreatGF
namespace Go.Proofs.YtofjmclceflgiaaGreat
open Go
set_option linter.unusedVariables false
set_option maxRecDepth 100000
set_option maxHeartbeats 4000000
noncomputable section

/-! ### (*towpath/gate.Gate).Mark (function 26) -/

theorem S_wb {g:OA} {w:World} {R:Int→WP} (h:F_Xc g R w):C_P g w R:=by
 unfold F_Xc at h
 refine Yh Tryz.func26 ?_
 ·refine Yp P1 [0] (Ys (Yt (Yn P1 ?_)))
  refine zw (op:=(Op.binOp BinOp.eql 77 (Operand.tmp 3) (Operand.const (Vp none)) 77)) (ty:=4) (dst:=some 4) (Vo g.isNone) K_ (fun ww=>zy (p:=g) K_ K_ K_ ww) ?_
  refine Yf [] [0,4] ?_
  refine Yc h (fun h=> ?_) fun h=> ?_
  ·refine Yp P1 [2] ?_
   exact YS ⟨0,rfl,h⟩
  ·refine zk (Yt (Yn P1 ?_))
   refine Yv 5 h fun hp_0 h=> ?_
   refine Yn P1 (Yn P1 ?_)
   refine Yl h fun v8 h=> ?_
   refine Yf P1 [2] ?_
   exact YS ⟨v8,rfl,h⟩

/-! ### towpath/gate.New (function 40) -/

theorem S_6b {mark:Int} {beyond:Slc} {w:World} {R:OA→Int→WP} (h:F_Md mark beyond R w):C_dc mark beyond w R:=by
 unfold F_Md at h
 refine Yh Tryz.func40 ?_
 ·refine Yp P2 [0,1] (Ys (Yp [.plain,.plain,.plain,.plain,.plain,.pick] [0,1,14] ?_))
  refine Yc h (fun h=> ?_) fun h=> ?_
  ·refine Yp P2 [4,5] ?_
   exact YT2 ⟨none,1,rfl,h⟩
  ·refine zk (Yt (Yn P3 ?_))
   refine Yw pv_ h fun b_ w1 h=> ?_
   refine Yf P1 [0,1,6] (Ys (Yp P3 [0,6,19,20,21] (Yd 0 ?_)))
   obtain⟨I,μ,h0,hr⟩:=h
   refine znb (fun m l w=>∃(t21:Int),l=[(0,Vi mark),(6,pv_ b_),(19,sv_ beyond),(20,Vi ((beyond.len:Nat):Int)),(21,Vi t21)]∧I t21 w∧μ t21 w=m) ⟨0,rfl,h0,rfl⟩ ?_
   rintro _ _ w2 ⟨t21,rfl,hI,rfl⟩
   obtain⟨again_,again__h,h⟩:∃ again_:Int→WP,(∀ t21' w',again_ t21' w'→I t21' w'∧μ t21' w'<μ t21 w2)∧F_Vc mark beyond R b_ again_ t21 w2:=⟨_,fun _ _ h=>h,hr t21 w2 hI⟩
   clear h0 hI
   unfold F_Vc at h
   refine Yp P1 [0,6,19,20,21,22] (Ys ?_)
   refine Yc h (fun h=> ?_) fun h=> ?_
   ·refine zk (Ys (Yd 1 (Yt ?_)))
    obtain⟨hp_7,h⟩:=h
    refine Yu 19 (fun pp=> .slice pp beyond.len beyond.cap) hp_7 ?_
    refine Yi1 h fun h=> ?_
    refine Yl h fun n_ h=> ?_
    refine Yn P1 (Yu 19 (fun pp=> .slice pp beyond.len beyond.cap) hp_7.symm ?_)
    refine Yf [] [0,6,8,19,20,21] (Ys ?_)
    refine Ycut (fun l w=>∃(t40:Bool),l=[(0,Vi mark),(6,pv_ b_),(8,Vi n_),(19,sv_ beyond),(20,Vi ((beyond.len:Nat):Int)),(21,Vi t21),(40,Vo t40)]∧F_mc R b_ t21 again_ n_ t40 w) ?_ ?_
    ·refine Yr (Yn [.plain,.plain,.plain,.plain,.plain,.plain,.plain,.pick,.plain,.plain,.plain,.plain,.plain] ?_)
     refine Yspl 33 h (fun h=> ?_) fun h=> ?_
     ·refine Yf [.skip,.skip,.plain] [0,6,8,19,20,21,40] ?_
      exact⟨_,Sub.mk K_,true,rfl,h⟩
     ·refine Yl h fun v38 h=> ?_
      refine Yf [.sure,.plain] [0,6,8,19,20,21,40] ?_
      exact⟨_,Sub.mk K_,(decide (n_≤v38)),rfl,h⟩
    ·rintro _ w3 ⟨t40,rfl,h⟩
     unfold F_mc at h
     refine Yc h (fun h=> ?_) fun h=> ?_
     ·refine Yp P2 [4,5] ?_
      exact YT2 ⟨none,1,rfl,h⟩
     ·refine zk (Yr (Yn P2 ?_))
      refine Ym0 h fun w4 h=> ?_
      refine Yf [] [0,6,19,20,21] (Yr (Yf P2 [0,6,19,20,21] ?_))
      have hb_:=again__h _ _ h
      exact⟨_,hb_.2,_,Sub.mk K_,(IntKind.i64.wrap (t21+1)),rfl,hb_.1,rfl⟩
   ·refine z3 0 (Yp P3 [4,5] ?_)
    exact YT2 ⟨(some ⟨b_,0,none⟩),0,rfl,h⟩

/-! ### (*towpath/gate.Gate).set (function 60) -/
def z9v:=cb_ Tryz.f60
def zaw:=cl_ z9v
def zbw:=co_ zaw

theorem S_Fb {g:OA} {n_:Int} {w:World} {R:WP} (h:F_ed g n_ R w):C_cb g n_ w R:=by
 unfold F_ed at h
 refine Yh Tryz.func60 ?_
 ·refine Ys ?_
  refine zn (id:=0) (ops:=zbw) K_ 14 K_ K_ (fun w1 hw=> ?_)
  replace h:=h w1 hw
  clear hw
  refine Qn P3 ?_
  refine Qv 4 h fun hp_1 h=> ?_
  refine Qn P1 ?_
  refine Qn P1 ?_
  obtain⟨h0,h1,h⟩:=h
  refine zeb (t:=161) (e:=160) (x:=(Operand.tmp 8)) (ix:=(Operand.tmp 6)) (b:=(pblk g)) (o:=((poff g)+2)) (len:=1025) (k:= .i64) (j:=(IntKind.i64.wrap (Int.tdiv n_ 64))) (ty:=0) (dst:=some 9) K_ K_ K_ K_ K_ h0 h1 ?_
  refine Ql h fun v10 h=> ?_
  refine Qn P2 ?_
  obtain⟨h0,h⟩:=h
  refine zbd (op:=(Op.binOp BinOp.shl 160 (Operand.const (Value.int IntKind.u64 1)) (Operand.tmp 12) 3)) (ty:=160) (dst:=some 13) (Value.int .u64 (IntKind.u64.wrap (1*2 ^ (min (Int.tmod n_ 64).toNat 64)))) K_ (fun ww=>zEk (k':= .i64) K_ K_ K_ h0 ww) ?_
  refine Qn P3 ?_
  obtain⟨h0,h1,h⟩:=h
  refine zeb (t:=161) (e:=160) (x:=(Operand.tmp 16)) (ix:=(Operand.tmp 6)) (b:=(pblk g)) (o:=((poff g)+2)) (len:=1025) (k:= .i64) (j:=(IntKind.i64.wrap (Int.tdiv n_ 64))) (ty:=0) (dst:=some 17) K_ K_ K_ K_ K_ h0 h1 ?_
  refine zD K_ ?_
  refine Yo h fun w2 h=> ?_
  refine Yf [] [0,1] (Yr (Yn P2 ?_))
  refine Yv 19 h fun hp_2 h=> ?_
  refine Yn P1 (Yn P1 ?_)
  refine Yl h fun v22 h=> ?_
  refine Yn P2 ?_
  refine Yv 18 h fun hp_3 h=> ?_
  refine Yn P1 (Yn P1 ?_)
  refine Yo h fun w3 h=> ?_
  refine Yf [] [] ?_
  repeat (first | refine zjh ?_ | refine zCf ?_ | refine zkh ?_ | refine zDf ?_ | refine zZe K_ ?_)
  refine z7e ?_
  repeat (first | refine zM ?_ | refine zA ?_ | refine zF ?_ | refine zN ?_)
  exact retT (rs:=[]) (vs:=[]) K_ (trivial) K_ ⟨rfl,h⟩

/-! ### (*towpath/gate.Gate).is (function 188) -/

theorem S_Ib {g:OA} {n_:Int} {w:World} {R:Bool→WP} (h:F_kd g n_ R w):C_hb g n_ w R:=by
 unfold F_kd at h
 refine Yh Tryz.func188 ?_
 ·refine Yp P1 [0,1] (Yt (Yn (Pl 6) ?_))
  refine Yspl 7 h (fun h=> ?_) fun h=> ?_
  ·refine Yv 8 h fun hp_0 h=> ?_
   refine Yn [.sure] (Yn [.sure] ?_)
   obtain⟨h0,h1,h⟩:=h
   refine zdb (t:=161) (e:=160) (x:=(Operand.tmp 12)) (ix:=(Operand.tmp 10)) (b:=(pblk g)) (o:=((poff g)+2)) (len:=1025) (k:= .i64) (j:=(IntKind.i64.wrap (Int.tdiv n_ 64))) (ty:=0) (dst:=some 13) K_ K_ K_ K_ K_ h0 h1 ?_
   refine Yl h fun v14 h=> ?_
   refine Yn [.sure,.sure] ?_
   obtain⟨h0,h⟩:=h
   refine zw (op:=(Op.binOp BinOp.shr 160 (Operand.tmp 14) (Operand.tmp 16) 3)) (ty:=160) (dst:=some 17) (Value.int .u64 (Int.fdiv v14 (2 ^ (min (Int.tmod n_ 64).toNat 64)))) K_ (fun ww=>zxo (k':= .i64) K_ K_ K_ h0 ww) ?_
   refine Yf [.sure,.sure,.plain,.plain] [4] ?_
   exact YS ⟨((band .u64 (Int.fdiv v14 (2 ^ (min (Int.tmod n_ 64).toNat 64))) 1)==1),rfl,h⟩
  ·refine Yf [.skip,.skip,.skip,.skip,.skip,.skip,.skip,.skip,.skip,.plain,.plain] [4] ?_
   exact YS ⟨false,rfl,h⟩

/-! ### (*towpath/gate.Gate).Done (function 284) -/
def zqt:=cb_ Tryz.f284
def zrt:=cr_ zqt
def zup:=cr_ zrt
def zvp:=cr_ zup
def zwp:=cr_ zvp
def zxp:=cl_ zwp
def zyp:=cl_ zxp
def zzp:=cl_ zyp
def zAp:=cr_ zzp
def zBp:=cl_ zAp
def zCp:=cl_ zBp
def zDp:=cr_ zCp
def zEp:=co_ zDp

theorem S_xb {g:OA} {number:Int} {w:World} {R:Int→Int→WP} (h:F_bd g number R w):C_zb g number w R:=by
 unfold F_bd at h
 refine Yh Tryz.func284 ?_
 ·refine Yp P2 [0,1] (Ys (Yd 0 ?_))
  refine Ycut (fun l w=>∃(t7:Bool),l=[(0,Vp g),(1,Vi number),(7,Vo t7)]∧F_eb g number R t7 w) ?_ ?_
  ·refine Yr (Yn P1 ?_)
   refine zw (op:=(Op.binOp BinOp.eql 77 (Operand.tmp 8) (Operand.const (Vp none)) 77)) (ty:=4) (dst:=some 9) (Vo g.isNone) K_ (fun ww=>zy (p:=g) K_ K_ K_ ww) ?_
   refine Yn P2 ?_
   refine Yspl 10 h (fun h=> ?_) fun h=> ?_
   ·refine Yf [.skip,.skip,.skip,.skip,.plain,.plain] [0,1,7] ?_
    exact⟨_,Sub.mk K_,true,rfl,h⟩
   ·refine Yv 11 h fun hp_31 h=> ?_
    refine Yn [.sure] (Yn [.sure] ?_)
    refine Yl h fun v14 h=> ?_
    refine Yf [.sure,.plain,.plain] [0,1,7] ?_
    exact⟨_,Sub.mk K_,(!v14),rfl,h⟩
  ·rintro _ w1 ⟨t7,rfl,h⟩
   unfold F_eb at h
   refine Yc h (fun h=> ?_) fun h=> ?_
   ·refine Yp P2 [4,5] ?_
    exact YT2 ⟨0,2,rfl,h⟩
   ·refine Ycut (fun l w=>∃(t17:Bool),l=[(0,Vp g),(1,Vi number),(17,Vo t17)]∧F_S g number R t17 w) ?_ ?_
    ·refine Yr (Yn [.plain,.plain,.plain,.plain,.plain,.pick,.plain,.plain,.plain] ?_)
     refine Yspl 24 h (fun h=> ?_) fun h=> ?_
     ·refine Yf [.skip,.plain,.plain] [0,1,17] ?_
      exact⟨_,Sub.mk K_,true,rfl,h⟩
     ·refine Ym1 h fun v27 w9 h=> ?_
      refine Yf P2 [0,1,17] ?_
      exact⟨_,Sub.mk K_,v27,rfl,h⟩
    ·rintro _ w2 ⟨t17,rfl,h⟩
     unfold F_S at h
     refine Yc h (fun h=> ?_) fun h=> ?_
     ·refine Yp P2 [4,5] ?_
      exact YT2 ⟨0,1,rfl,h⟩
     ·refine zk (Yt (Yn P2 ?_))
      refine Ym0 h fun w3 h=> ?_
      refine Yf [] [0] (Yp P1 [0,6] (Ys (Yd 1 ?_)))
      obtain⟨I,μ,h0,hr⟩:=h
      refine znb (fun m l w=>∃(up:Int),l=[(0,Vp g),(6,Vi up)]∧I up w∧μ up w=m) ⟨0,rfl,h0,rfl⟩ ?_
      rintro _ _ w4 ⟨up,rfl,hI,rfl⟩
      obtain⟨again_,again__h,h⟩:∃ again_:Int→WP,(∀ up' w',again_ up' w'→I up' w'∧μ up' w'<μ up w4)∧F_Eb g R again_ up w4:=⟨_,fun _ _ h=>h,hr up w4 hI⟩
      clear h0 hI
      unfold F_Eb at h
      refine Ys (Yt (Yn P2 ?_))
      refine Yv 33 h fun hp_20 h=> ?_
      refine Yn P1 (Yn P1 ?_)
      refine Yl h fun v36 h=> ?_
      refine Yn P1 ?_
      refine Ym1 h fun v38 w5 h=> ?_
      refine Yf [] [0,6,38] ?_
      refine Yc h (fun h=> ?_) fun h=> ?_
      ·refine zk (Ys (Yd 2 (Yt (Yn P1 ?_))))
       refine Yv 41 h fun hp_27 h=> ?_
       refine Yn P1 (Yn P1 ?_)
       refine Yl h fun v44 h=> ?_
       refine Yn P3 ?_
       refine Yo h fun w6 h=> ?_
       refine Yf [] [0,6] ?_
       refine zn (id:=10) (ops:=zEp) K_ 20 K_ K_ (fun w7 hw=> ?_)
       replace h:=h w7 hw
       clear hw
       refine Qn P2 ?_
       refine Qv 49 h fun hp_28 h=> ?_
       refine Qn P1 ?_
       refine Qn P1 ?_
       refine Ql h fun v52 h=> ?_
       refine Qn P1 ?_
       refine Qv 48 h fun hp_29 h=> ?_
       refine Qn P1 ?_
       refine Qn P1 ?_
       obtain⟨h0,h1,h⟩:=h
       refine zeb (t:=161) (e:=160) (x:=(Operand.tmp 55)) (ix:=(Operand.tmp 53)) (b:=(pblk g)) (o:=((poff g)+2)) (len:=1025) (k:= .i64) (j:=(IntKind.i64.wrap (Int.tdiv v52 64))) (ty:=0) (dst:=some 56) K_ K_ K_ K_ K_ h0 h1 ?_
       refine Ql h fun v57 h=> ?_
       refine Qn P1 ?_
       refine Qv 58 h fun hp_30 h=> ?_
       refine Qn P1 ?_
       refine Qn P1 ?_
       refine Ql h fun v61 h=> ?_
       refine Qn P1 ?_
       obtain⟨h0,h⟩:=h
       refine zbd (op:=(Op.binOp BinOp.shl 160 (Operand.const (Value.int IntKind.u64 1)) (Operand.tmp 62) 3)) (ty:=160) (dst:=some 63) (Value.int .u64 (IntKind.u64.wrap (1*2 ^ (min (Int.tmod v61 64).toNat 64)))) K_ (fun ww=>zEk (k':= .i64) K_ K_ K_ h0 ww) ?_
       refine Qn P3 ?_
       obtain⟨h0,h1,h⟩:=h
       refine zeb (t:=161) (e:=160) (x:=(Operand.tmp 66)) (ix:=(Operand.tmp 53)) (b:=(pblk g)) (o:=((poff g)+2)) (len:=1025) (k:= .i64) (j:=(IntKind.i64.wrap (Int.tdiv v52 64))) (ty:=0) (dst:=some 67) K_ K_ K_ K_ K_ h0 h1 ?_
       refine zD K_ ?_
       refine Yo h fun w8 h=> ?_
       refine Yf [] [0,6] (Yr (Yf P3 [0,6] ?_))
       have hb_:=again__h _ _ h
       exact⟨_,hb_.2,_,Sub.mk K_,(IntKind.i64.wrap (up+1)),rfl,hb_.1,rfl⟩
      ·refine z3 1 (Yp P3 [4,5] ?_)
       exact YT2 ⟨up,0,rfl,h⟩

/-! ### (*towpath/gate.Gate).Has (function 286) -/

theorem S_Gb {g:OA} {number:Int} {w:World} {R:Bool→WP} (h:F_id g number R w):C_Jb g number w R:=by
 unfold F_id at h
 refine Yh Tryz.func286 ?_
 ·refine Yp P1 [0,1] (Yt (Yn P1 ?_))
  refine zw (op:=(Op.binOp BinOp.neq 77 (Operand.tmp 5) (Operand.const (Vp none)) 77)) (ty:=4) (dst:=some 6) (Vo (!g.isNone)) K_ (fun ww=>zE (p:=g) K_ K_ K_ ww) ?_
  refine Yn P2 ?_
  refine Yspl 7 h (fun h=> ?_) fun h=> ?_
  ·refine Yv 8 h fun hp_0 h=> ?_
   refine Yn [.sure] (Yn [.sure] ?_)
   refine Yl h fun v11 h=> ?_
   refine Yn [.plain,.plain,.plain,.plain,.pick,.plain,.plain,.plain] ?_
   refine Yspl 17 h (fun h=> ?_) fun h=> ?_
   ·refine Yv 19 h fun hp_1 h=> ?_
    refine Yn [.sure] (Yn [.sure] ?_)
    refine Yl h fun v22 h=> ?_
    refine Yn [.sure,.sure,.plain,.plain] ?_
    refine Yspl 24 h (fun h=> ?_) fun h=> ?_
    ·refine Yf [.skip,.sure,.plain,.plain] [4] ?_
     exact YS ⟨true,rfl,h⟩
    ·refine Ym1 h fun v27 w1 h=> ?_
     refine Yf [.sure,.plain,.plain] [4] ?_
     exact YS ⟨v27,rfl,h⟩
   ·refine Yf [.skip,.skip,.skip,.skip,.skip,.skip,.skip,.skip,.skip,.plain,.plain] [4] ?_
    exact YS ⟨false,rfl,h⟩
  ·refine Yf [.skip,.skip,.skip,.plain,.plain,.skip,.skip,.plain,.plain,.skip,.skip,.skip,.skip,.skip,.skip,.skip,.skip,.skip,.skip,.skip,.plain,.plain] [4] ?_
   exact YS ⟨false,rfl,h⟩
end
end Go.Proofs.YtofjmclceflgiaaGreat
