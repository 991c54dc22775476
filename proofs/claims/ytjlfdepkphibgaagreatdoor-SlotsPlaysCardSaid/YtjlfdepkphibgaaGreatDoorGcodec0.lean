/- WRITTEN BY PROGRAM (dec.py): for each Go function the clean formula F, the call's contract C, and the proof S that F gives C. -/
import Derived.Test.YtjlfdepkphibgaaGreatDoorRows
import Derived.Test.YtjlfdepkphibgaaGreatDoorGF
namespace Go.Proofs.YtjlfdepkphibgaaGreatDoor
open Go
set_option linter.unusedVariables false
set_option maxRecDepth 100000
set_option maxHeartbeats 4000000
noncomputable section

/-! ### towpath/codec.NewWriter (function 119) -/

theorem S_uc {w:World} {R:OA→WP} (h:F_df R w):C_wc w R:=by
 unfold F_df at h
 refine Yh Tryz.func119 ?_
 ·refine Yp P1 [] (Yt (Yn P1 ?_))
  refine Yw pv_ h fun b_ w1 h=> ?_
  refine Yf P1 [0] ?_
  exact YS ⟨(some ⟨b_,0,none⟩),rfl,h⟩

/-! ### (*towpath/codec.Writer).Var (function 120) -/

theorem S_lc {w_:OA} {n_:Int} {w:World} {R:WP} (h:F_2e w_ n_ R w):C_f w_ n_ w R:=by
 unfold F_2e at h
 refine Yh Tryz.func120 ?_
 ·refine Ys (Yt (Yn P1 ?_))
  refine Ym1 h fun v5 w1 h=> ?_
  refine Yf [] [0,1,5] ?_
  refine Yc h (fun h=> ?_) fun h=> ?_
  ·exact YT0 ⟨rfl,h⟩
  ·refine zg (Ys (Yd 0 ?_))
   obtain⟨I,μ,h0,hr⟩:=h
   refine zN (fun m l w=>∃(n_1:Int),l=[(0,Vp w_),(1,Value.int .u64 n_1)]∧I n_1 w∧μ n_1 w=m) ⟨n_,rfl,h0,rfl⟩ ?_
   rintro _ _ w2 ⟨n_1,rfl,hI,rfl⟩
   obtain⟨again_,again__h,h⟩:∃ again_:Int→WP,(∀ n_1' w',again_ n_1' w'→I n_1' w'∧μ n_1' w'<μ n_1 w2)∧F_6c w_ R again_ n_1 w2:=⟨_,fun _ _ h=>h,hr n_1 w2 hI⟩
   clear h0 hI
   unfold F_6c at h
   refine Ys (Yp P2 [0,1,7] ?_)
   refine Yc h (fun h=> ?_) fun h=> ?_
   ·refine zg (Ys (Yd 1 (Yr (Yn P2 ?_))))
    refine Yv 11 h fun hp_6 h=> ?_
    refine Yn P1 (Yn P1 ?_)
    refine Yl h fun v14 h=> ?_
    refine Yn P3 ?_
    refine Yw (sl_ 1 1) h fun b_ w3 h=> ?_
    obtain⟨src,hs,h⟩:=h
    refine zH (t:=38) (tx:=38) (e:=5) (a:=(Operand.tmp 14)) (xo:=(Operand.tmp 18)) (s:=v14) (x:=(Slc.mk (some ⟨b_,0,none⟩) 1 1)) (sz:=1) (by_:=1) (zs:=[Value.int .u8 0]) (ty:=38) (dst:=some 19)  src K_ K_ K_ K_ K_ K_ K_ K_ K_ hs (zj.mono h (fun v19 w4 h=> ?_))
    refine Yv 10 h fun hp_7 h=> ?_
    refine Yn P1 (Yn P1 ?_)
    refine Yo h fun w5 h=> ?_
    refine Yf [] [0,1] (Yr (Yf P3 [0,1] ?_))
    have hb_:=again__h _ _ h
    exact⟨_,hb_.2,_,Sub.mk K_,(Int.fdiv n_1 (2 ^ 7)),rfl,hb_.1,rfl⟩
   ·refine zM 0 (Yr (Yn P2 ?_))
    refine Yv 23 h fun hp_8 h=> ?_
    refine Yn P1 (Yn P1 ?_)
    refine Yl h fun v26 h=> ?_
    refine Yn P2 ?_
    refine Yw (sl_ 1 1) h fun b_1 w6 h=> ?_
    obtain⟨src,hs,h⟩:=h
    refine zH (t:=38) (tx:=38) (e:=5) (a:=(Operand.tmp 26)) (xo:=(Operand.tmp 29)) (s:=v26) (x:=(Slc.mk (some ⟨b_1,0,none⟩) 1 1)) (sz:=1) (by_:=1) (zs:=[Value.int .u8 0]) (ty:=38) (dst:=some 30)  src K_ K_ K_ K_ K_ K_ K_ K_ K_ hs (zj.mono h (fun v30 w7 h=> ?_))
    refine Yv 22 h fun hp_9 h=> ?_
    refine Yn P1 (Yn P1 ?_)
    refine Yo h fun w8 h=> ?_
    refine Yf [] [] ?_
    repeat (first | refine zK ?_ | refine zA ?_ | refine zL ?_ | refine zB ?_ | refine zv K_ ?_)
    refine zw ?_
    repeat (first | refine zC ?_ | refine zp ?_ | refine zu ?_ | refine zE ?_)
    exact retT (rs:=[]) (vs:=[]) K_ (trivial) K_ ⟨rfl,h⟩

/-! ### (*towpath/codec.Writer).Text (function 121) -/

theorem S_bc {w_:OA} {s:ByteArray} {w:World} {R:WP} (h:F_Re w_ s R w):C_Wb w_ s w R:=by
 unfold F_Re at h
 refine Yh Tryz.func121 ?_
 ·refine Ys (Yt (Yn P1 ?_))
  refine Ym1 h fun v5 w1 h=> ?_
  refine Yf [] [0,1,5] ?_
  refine Yc h (fun h=> ?_) fun h=> ?_
  ·exact YT0 ⟨rfl,h⟩
  ·refine zg (Yt (Yn P4 ?_))
   refine Ym0 h fun w2 h=> ?_
   refine Yf [] [0,1] (Yr (Yn P2 ?_))
   refine Yv 12 h fun hp_0 h=> ?_
   refine Yn P1 (Yn P1 ?_)
   refine Yl h fun v15 h=> ?_
   refine Yn P1 ?_
   refine zmg (t:=38) (tx:=9) (e:=5) (a:=(Operand.tmp 15)) (xo:=(Operand.tmp 16)) (s:=v15) (str:=s) (by_:=1) (zs:=[Value.int .u8 0]) (ty:=38) (dst:=some 17)  K_ K_ K_ K_ K_ K_ K_ K_ K_ (zj.mono h (fun v17 w3 h=> ?_))
   refine Yv 11 h fun hp_1 h=> ?_
   refine Yn P1 (Yn P1 ?_)
   refine Yo h fun w4 h=> ?_
   refine Yf [] [] ?_
   repeat (first | refine zK ?_ | refine zA ?_ | refine zL ?_ | refine zB ?_ | refine zv K_ ?_)
   refine zw ?_
   repeat (first | refine zC ?_ | refine zp ?_ | refine zu ?_ | refine zE ?_)
   exact retT (rs:=[]) (vs:=[]) K_ (trivial) K_ ⟨rfl,h⟩

/-! ### (*towpath/codec.Writer).Fixed (function 122) -/

theorem S_0b {w_:OA} {n_:Int} {width:Int} {w:World} {R:Int→WP} (h:F_Je w_ n_ width R w):C_Fb w_ n_ width w R:=by
 unfold F_Je at h
 refine Yh Tryz.func122 ?_
 ·refine Yp P1 [0,1,2] (Ys (Yd 0 (Yt (Yn P1 ?_))))
  refine Ym1 h fun v9 w1 h=> ?_
  refine Yf P1 [0,1,2,7] ?_
  refine Yc h (fun h=> ?_) fun h=> ?_
  ·refine Yp P1 [6] ?_
   exact YS ⟨2,rfl,h⟩
  ·refine Yp [.plain,.plain,.plain,.plain,.plain,.pick,.plain] [0,1,2,10] ?_
   refine Yc h (fun h=> ?_) fun h=> ?_
   ·refine Yp P1 [6] ?_
    exact YS ⟨1,rfl,h⟩
   ·refine Yt (Yn P3 ?_)
    obtain⟨h0,h⟩:=h
    refine zP (op:=(Op.binOp BinOp.shr 93 (Operand.tmp 18) (Operand.tmp 20) 3)) (ty:=93) (dst:=some 21) (Value.int .u64 (Int.fdiv n_ (2 ^ (min (IntKind.i64.wrap (8*width)).toNat 64)))) K_ (fun ww=>zuj (k':= .i64) K_ K_ K_ h0 ww) ?_
    refine Yf P2 [0,1,2,17] ?_
    refine Yc h (fun h=> ?_) fun h=> ?_
    ·refine Yp P1 [6] ?_
     exact YS ⟨3,rfl,h⟩
    ·refine zg (Ys (Yp P2 [0,1,23,24] (Yd 1 ?_)))
     obtain⟨I,μ,h0,hr⟩:=h
     refine zN (fun m l w=>∃(n_1:Int) (t24:Int),l=[(0,Vp w_),(1,Value.int .u64 n_1),(23,Vi width),(24,Vi t24)]∧I n_1 t24 w∧μ n_1 t24 w=m) ⟨n_,0,rfl,h0,rfl⟩ ?_
     rintro _ _ w2 ⟨n_1,t24,rfl,hI,rfl⟩
     obtain⟨again_,again__h,h⟩:∃ again_:Int→Int→WP,(∀ n_1' t24' w',again_ n_1' t24' w'→I n_1' t24' w'∧μ n_1' t24' w'<μ n_1 t24 w2)∧F_vc w_ width R again_ n_1 t24 w2:=⟨_,fun _ _ _ h=>h,hr n_1 t24 w2 hI⟩
     clear h0 hI
     unfold F_vc at h
     refine Yp P1 [0,1,23,24,25] (Ys ?_)
     refine Yc h (fun h=> ?_) fun h=> ?_
     ·refine zg (Ys (Yd 2 (Yt (Yn P2 ?_))))
      refine Yv 27 h fun hp_14 h=> ?_
      refine Yn P1 (Yn P1 ?_)
      refine Yl h fun v30 h=> ?_
      refine Yn P2 ?_
      refine Yw (sl_ 1 1) h fun b_ w3 h=> ?_
      obtain⟨src,hs,h⟩:=h
      refine zH (t:=38) (tx:=38) (e:=5) (a:=(Operand.tmp 30)) (xo:=(Operand.tmp 33)) (s:=v30) (x:=(Slc.mk (some ⟨b_,0,none⟩) 1 1)) (sz:=1) (by_:=1) (zs:=[Value.int .u8 0]) (ty:=38) (dst:=some 34)  src K_ K_ K_ K_ K_ K_ K_ K_ K_ hs (zj.mono h (fun v34 w4 h=> ?_))
      refine Yv 26 h fun hp_15 h=> ?_
      refine Yn P1 (Yn P1 ?_)
      refine Yo h fun w5 h=> ?_
      refine Yf [] [0,1,23,24] (Yr (Yf P3 [0,1,23,24] (Yr (Yf P2 [0,1,23,24] ?_))))
      have hb_:=again__h _ _ _ h
      exact⟨_,hb_.2,_,Sub.mk K_,(Int.fdiv n_1 (2 ^ 8)),(IntKind.i64.wrap (t24+1)),rfl,hb_.1,rfl⟩
     ·refine zM 1 (Yp P1 [6] ?_)
      exact YS ⟨0,rfl,h⟩

/-! ### (*towpath/codec.Writer).Done (function 123) -/

theorem S_cc {w_:OA} {w:World} {R:Slc→WP} (h:F_Se w_ R w):C_lc w_ w R:=by
 unfold F_Se at h
 refine Yh Tryz.func123 ?_
 ·refine Yp P1 [0] (Ys (Yt (Yn P1 ?_)))
  refine Ym1 h fun v4 w1 h=> ?_
  refine Yf [] [0,4] ?_
  refine Yc h (fun h=> ?_) fun h=> ?_
  ·refine Yp P1 [2] ?_
   exact YS ⟨(Slc.mk none 0 0),rfl,h⟩
  ·refine zg (Yt (Yn P1 ?_))
   refine Yv 5 h fun hp_0 h=> ?_
   refine Yn P1 (Yn P1 ?_)
   refine Yl h fun v8 h=> ?_
   refine Ym1 h fun v9 w2 h=> ?_
   refine Yf P1 [2] ?_
   exact YS ⟨v9,rfl,h⟩

/-! ### (*towpath/codec.Writer).gone (function 145) -/

theorem S_dc {w_:OA} {w:World} {R:Bool→WP} (h:F_Te w_ R w):C_A w_ w R:=by
 unfold F_Te at h
 refine Yh Tryz.func145 ?_
 ·refine Yp P1 [0] (Yt (Yn P1 ?_))
  refine zP (op:=(Op.binOp BinOp.eql 174 (Operand.tmp 3) (Operand.const (Vp none)) 174)) (ty:=4) (dst:=some 4) (Vo w_.isNone) K_ (fun ww=>zz (p:=w_) K_ K_ K_ ww) ?_
  refine Yn P2 ?_
  refine Yspl 5 h (fun h=> ?_) fun h=> ?_
  ·refine Yf [.skip,.skip,.skip,.skip,.plain,.plain] [2] ?_
   exact YS ⟨true,rfl,h⟩
  ·refine Yv 6 h fun hp_0 h=> ?_
   refine Yn [.sure] (Yn [.sure] ?_)
   refine Yl h fun v9 h=> ?_
   refine Yf [.sure,.plain,.plain] [2] ?_
   exact YS ⟨(!v9),rfl,h⟩

/-! ### towpath/codec.NewReader (function 154) -/

theorem S_vc {b_:Slc} {w:World} {R:OA→WP} (h:F_ef b_ R w):C_xc b_ w R:=by
 unfold F_ef at h
 refine Yh Tryz.func154 ?_
 ·refine Yp P1 [0] (Yt (Yn P1 ?_))
  refine Ym1 h fun v4 w1 h=> ?_
  refine Yn P1 ?_
  refine Yw pv_ h fun b_1 w2 h=> ?_
  refine Yf P1 [2] ?_
  exact YS ⟨(some ⟨b_1,0,none⟩),rfl,h⟩

/-! ### (*towpath/codec.Reader).Left (function 156) -/

theorem S_ec {r:OA} {w:World} {R:Int→WP} (h:F_Ue r R w):C_8 r w R:=by
 unfold F_Ue at h
 refine Yh Tryz.func156 ?_
 ·refine Yp P1 [0] (Ys (Yt (Yn P1 ?_)))
  refine zP (op:=(Op.binOp BinOp.eql 210 (Operand.tmp 3) (Operand.const (Vp none)) 210)) (ty:=4) (dst:=some 4) (Vo r.isNone) K_ (fun ww=>zz (p:=r) K_ K_ K_ ww) ?_
  refine Yf [] [0,4] ?_
  refine Yc h (fun h=> ?_) fun h=> ?_
  ·refine Yp P1 [2] ?_
   exact YS ⟨0,rfl,h⟩
  ·refine zg (Yt (Yn P1 ?_))
   refine Yv 5 h fun hp_0 h=> ?_
   refine Yn P1 (Yn P1 ?_)
   refine Yl h fun v8 h=> ?_
   refine Yf P2 [2] ?_
   exact YS ⟨((v8.len:Nat):Int),rfl,h⟩

/-! ### (*towpath/codec.Reader).End (function 157) -/

theorem S_mc {r:OA} {w:World} {R:Int→WP} (h:F_4e r R w):C_sc r w R:=by
 unfold F_4e at h
 refine Yh Tryz.func157 ?_
 ·refine Yp P1 [0] (Ys (Yd 0 ?_))
  refine Ycut (fun l w=>∃(t3:Bool),l=[(0,Vp r),(3,Vo t3)]∧F_cd r R t3 w) ?_ ?_
  ·refine Yr (Yn P1 ?_)
   refine zP (op:=(Op.binOp BinOp.eql 210 (Operand.tmp 4) (Operand.const (Vp none)) 210)) (ty:=4) (dst:=some 5) (Vo r.isNone) K_ (fun ww=>zz (p:=r) K_ K_ K_ ww) ?_
   refine Yn P2 ?_
   refine Yspl 6 h (fun h=> ?_) fun h=> ?_
   ·refine Yf [.skip,.skip,.skip,.skip,.plain,.plain] [0,3] ?_
    exact⟨_,Sub.mk K_,true,rfl,h⟩
   ·refine Yv 7 h fun hp_12 h=> ?_
    refine Yn [.sure] (Yn [.sure] ?_)
    refine Yl h fun v10 h=> ?_
    refine Yf [.sure,.plain,.plain] [0,3] ?_
    exact⟨_,Sub.mk K_,(!v10),rfl,h⟩
  ·rintro _ w1 ⟨t3,rfl,h⟩
   unfold F_cd at h
   refine Yc h (fun h=> ?_) fun h=> ?_
   ·refine Yp P1 [2] ?_
    exact YS ⟨2,rfl,h⟩
   ·refine Ycut (fun l w=>∃(t13:Bool),l=[(0,Vp r),(13,Vo t13)]∧F_bd r R t13 w) ?_ ?_
    ·refine Yr (Yn P1 ?_)
     refine Yv 14 h fun hp_10 h=> ?_
     refine Yn P1 (Yn P1 ?_)
     refine Yl h fun v17 h=> ?_
     refine Yn P3 ?_
     refine Yspl 19 h (fun h=> ?_) fun h=> ?_
     ·refine Yv 20 h fun hp_11 h=> ?_
      refine Yn [.sure] (Yn [.sure] ?_)
      refine Yl h fun v23 h=> ?_
      refine Yf [.sure,.sure,.plain,.plain] [0,13] ?_
      exact⟨_,Sub.mk K_,(decide (((v23.len:Nat):Int)>0)),rfl,h⟩
     ·refine Yf [.skip,.skip,.skip,.skip,.skip,.plain,.plain] [0,13] ?_
      exact⟨_,Sub.mk K_,false,rfl,h⟩
    ·rintro _ w2 ⟨t13,rfl,h⟩
     unfold F_bd at h
     refine Yc h (fun h=> ?_) fun h=> ?_
     ·refine Yp P1 [2] ?_
      exact YS ⟨4,rfl,h⟩
     ·refine zg (Yt (Yn P1 ?_))
      refine Yv 27 h fun hp_9 h=> ?_
      refine Yn P1 (Yn P1 ?_)
      refine Yl h fun v30 h=> ?_
      refine Yf P1 [2] ?_
      exact YS ⟨v30,rfl,h⟩

/-! ### (*towpath/codec.Reader).Var (function 159) -/

theorem S_nc {r:OA} {w:World} {R:Int→WP} (h:F_5e r R w):C_8b r w R:=by
 unfold F_5e at h
 refine Yh Tryz.func159 ?_
 ·refine Yt ?_
  refine Yw pv_ h fun b_ w1 h=> ?_
  refine Yf [] [0,2] (Yt (Yn P2 ?_))
  refine Ym1 h fun v5 w2 h=> ?_
  refine Yf [] [2] (Yt ?_)
  refine Yl h fun v6 h=> ?_
  refine Yo h fun w3 h=> ?_
  refine Yf [] [2] ?_
  obtain⟨res,hc_res,h⟩:=h
  exact YSg (rs:=[(ResultVar.cell 2 93)]) (v:=Value.int .u64 res) (⟨b_,0,[Value.int .u64 res],K_,hc_res,(zx (k:=1) K_ K_),.inr ⟨K_,rfl⟩,trivial⟩) ⟨res,rfl,h⟩

/-! ### (*towpath/codec.Reader).Fixed (function 161) -/

theorem S_1b {r:OA} {width:Int} {w:World} {R:Int→WP} (h:F_Oe r width R w):C_ic r width w R:=by
 unfold F_Oe at h
 refine Yh Tryz.func161 ?_
 ·refine Yt ?_
  refine Yw pv_ h fun b_ w1 h=> ?_
  refine Yw pv_ h fun b_1 w2 h=> ?_
  refine Yf [] [0,3,4] (Yt (Yn P2 ?_))
  refine Ym1 h fun v7 w3 h=> ?_
  refine Yf [] [4] (Yt ?_)
  refine Yl h fun v8 h=> ?_
  refine Yo h fun w4 h=> ?_
  refine Yf [] [4] ?_
  obtain⟨res,hc_res,h⟩:=h
  exact YSg (rs:=[(ResultVar.cell 4 93)]) (v:=Value.int .u64 res) (⟨b_1,0,[Value.int .u64 res],K_,hc_res,(zx (k:=1) K_ K_),.inr ⟨K_,rfl⟩,trivial⟩) ⟨res,rfl,h⟩

/-! ### (*towpath/codec.Reader).Text (function 162) -/

theorem S_fc {r:OA} {most:Int} {w:World} {R:ByteArray→WP} (h:F_Ve r most R w):C_Zb r most w R:=by
 unfold F_Ve at h
 refine Yh Tryz.func162 ?_
 ·refine Yt ?_
  refine Yw pv_ h fun b_ w1 h=> ?_
  refine Yw pv_ h fun b_1 w2 h=> ?_
  refine Yf [] [0,3,4] (Yt (Yn P2 ?_))
  refine Ym1 h fun v7 w3 h=> ?_
  refine Yf [] [4] (Yt ?_)
  refine Yl h fun v8 h=> ?_
  refine Yo h fun w4 h=> ?_
  refine Yf [] [4] ?_
  obtain⟨res,hc_res,h⟩:=h
  exact YSg (rs:=[(ResultVar.cell 4 9)]) (v:=Value.string res) (⟨b_1,0,[Value.string res],K_,hc_res,(zx (k:=1) K_ K_),.inr ⟨K_,rfl⟩,trivial⟩) ⟨res,rfl,h⟩

/-! ### (*towpath/codec.Reader).take (function 181) -/
def zYr:=cb_ Tryz.f181
def zZr:=cr_ zYr
def zVm:=cr_ zZr
def zWm:=cr_ zVm
def zXm:=cr_ zWm
def zYm:=cl_ zXm
def zZm:=co_ zYm

theorem S_gc {r:OA} {next:Value} {w:World} {R:Bool→WP} (h:F_We r next R w):C_9 r next w R:=by
 unfold F_We at h
 refine Yh Tryz.func181 ?_
 ·refine Yp P1 [0,1] (Ys ?_)
  refine Ycut (fun l w=>∃(t22:Bool),l=[(0,Vp r),(1,next),(22,Vo t22)]∧F_Sb r next R t22 w) ?_ ?_
  ·refine Yr (Yn P1 ?_)
   refine zP (op:=(Op.binOp BinOp.eql 210 (Operand.tmp 7) (Operand.const (Vp none)) 210)) (ty:=4) (dst:=some 8) (Vo r.isNone) K_ (fun ww=>zz (p:=r) K_ K_ K_ ww) ?_
   refine Yn P2 ?_
   refine Yspl 9 h (fun h=> ?_) fun h=> ?_
   ·refine Yf [.skip,.skip,.skip,.skip,.plain,.plain,.skip,.skip,.skip,.skip,.skip,.plain] [0,1,22] ?_
    exact⟨_,Sub.mk K_,true,rfl,h⟩
   ·refine Yv 10 h fun hp_20 h=> ?_
    refine Yn [.sure] (Yn [.sure] ?_)
    refine Yl h fun v13 h=> ?_
    refine Yn [.sure,.plain,.plain,.plain] ?_
    refine Yspl 16 h (fun h=> ?_) fun h=> ?_
    ·refine Yf [.skip,.skip,.skip,.skip,.plain] [0,1,22] ?_
     exact⟨_,Sub.mk K_,true,rfl,h⟩
    ·refine Yv 17 h fun hp_21 h=> ?_
     refine Yn [.sure] (Yn [.sure] ?_)
     refine Yl h fun v20 h=> ?_
     refine Yf [.sure,.plain] [0,1,22] ?_
     exact⟨_,Sub.mk K_,(v20 != 0),rfl,h⟩
  ·rintro _ w1 ⟨t22,rfl,h⟩
   unfold F_Sb at h
   refine Yc h (fun h=> ?_) fun h=> ?_
   ·refine Yp P1 [4] ?_
    exact YS ⟨false,rfl,h⟩
   ·refine zg (Yt (Yn P2 ?_))
    refine Yv 25 h fun hp_7 h=> ?_
    refine Yn P1 (Yn P1 ?_)
    refine Yl h fun v28 h=> ?_
    refine zgb (fo:=(Operand.tmp 24)) (aa:=#[(Operand.tmp 28)]) (ts:=#[38]) (fv:=next) (ty:=240) (dst:=some 29) #[sv_ v28] K_ K_ K_ (zU.mono h ?_)
    rintro _ w2 ⟨n_,e,rfl,h⟩
    refine⟨_,rfl,?_⟩
    refine Yf (Pl 5) [0,5,6] (Ys (Yp P2 [0,5,6,33] ?_))
    refine Yc h (fun h=> ?_) fun h=> ?_
    ·refine Yt (Yn P2 ?_)
     refine Yv 34 h fun hp_11 h=> ?_
     refine Yn P1 (Yn P1 ?_)
     refine Yo h fun w3 h=> ?_
     refine Yf [] [] (Yp P1 [4] ?_)
     exact YS ⟨false,rfl,h⟩
    ·refine zg (Ys ?_)
     refine zsb (id:=7) (ops:=zZm) K_ 19 K_ K_ (fun w4 hw=> ?_)
     replace h:=h w4 hw
     clear hw
     refine Qn P2 ?_
     refine Qv 39 h fun hp_16 h=> ?_
     refine Qn P1 ?_
     refine Qn P1 ?_
     refine Ql h fun v42 h=> ?_
     refine Qn P2 ?_
     refine Qv 44 h fun hp_17 h=> ?_
     refine Qn P1 ?_
     refine Qn P1 ?_
     refine Ql h fun v47 h=> ?_
     refine Qn P2 ?_
     refine Qv 49 h fun hp_18 h=> ?_
     refine Qn P1 ?_
     refine Qn P1 ?_
     refine Ql h fun v52 h=> ?_
     refine Qn P1 ?_
     obtain⟨hc,h⟩:=h
     refine z6g (t:=38) (e:=5) (x:=(Operand.tmp 42)) (lo:=(Operand.tmp 43)) (hi:=(Operand.tmp 48)) (mx:=(Operand.tmp 53)) (s:=v42) (sz:=1) (k:= .i64) (a:=n_) (k':= .i64) (b:=((v47.len:Nat):Int)) (k'':= .i64) (c:=((v52.len:Nat):Int)) (ty:=38) (dst:=some 54) K_ K_ K_ K_ K_ K_ K_ hc (fun s hs=> ?_)
     replace h:=h s hs
     clear hs
     refine Qv 38 h fun hp_19 h=> ?_
     refine Qn P1 ?_
     refine Qn P1 ?_
     refine zRc K_ ?_
     refine Yo h fun w5 h=> ?_
     refine Yf [] [] (Yp P1 [4] ?_)
     exact YS ⟨true,rfl,h⟩

/-! ### (*towpath/codec.Reader).Var$1 (function 182) -/

theorem S_2b {b_:Slc} {t1:OA} {w:World} {R:Int→Int→WP} (h:F_Pe b_ t1 R w):C_Rc b_ t1 w R:=by
 unfold F_Pe at h
 refine Yh Tryz.func182 ?_
 ·refine Yp P2 [0,1] (Yt (Yn P1 ?_))
  refine Ym3 h fun v size e w1 h=> ?_
  refine Yf (Pl 7) [1,5,6,7] (Yt (Yn P1 ?_))
  refine Yv 1 h fun hp_1 h=> ?_
  refine Yo h fun w2 h=> ?_
  refine Yf [] [6,7] (Yp P4 [3,4] ?_)
  exact YT2 ⟨size,e,rfl,h⟩

/-! ### towpath/codec.short (function 183) -/

theorem S_Fc {b_:Slc} {w:World} {R:Int→Int→Int→WP} (h:F_bf b_ R w):C_zc b_ w R:=by
 unfold F_bf at h
 refine Yh Tryz.func183 ?_
 ·refine Yp P3 [0,2] (Ys (Yp P3 [2,7,8,9] (Yd 0 ?_)))
  obtain⟨I,μ,h0,hr⟩:=h
  refine zN (fun m l w=>∃(n_:Int) (t9:Int),l=[(2,Value.int .u64 n_),(7,sv_ b_),(8,Vi ((b_.len:Nat):Int)),(9,Vi t9)]∧I n_ t9 w∧μ n_ t9 w=m) ⟨0,0,rfl,h0,rfl⟩ ?_
  rintro _ _ w1 ⟨n_,t9,rfl,hI,rfl⟩
  obtain⟨again_,again__h,h⟩:∃ again_:Int→Int→WP,(∀ n_' t9' w',again_ n_' t9' w'→I n_' t9' w'∧μ n_' t9' w'<μ n_ t9 w1)∧F_ce b_ R again_ n_ t9 w1:=⟨_,fun _ _ _ h=>h,hr n_ t9 w1 hI⟩
  clear h0 hI
  unfold F_ce at h
  refine Yp P1 [2,7,8,9,10] (Ys ?_)
  refine Yc h (fun h=> ?_) fun h=> ?_
  ·refine zg (Ys (Yd 1 (Yt (Yn P1 ?_))))
   obtain⟨hp_7,h⟩:=h
   refine Yu 7 (fun pp=> .slice pp b_.len b_.cap) hp_7 ?_
   refine Yi1 h fun h=> ?_
   refine Yl h fun c h=> ?_
   refine Yn P2 (Yu 7 (fun pp=> .slice pp b_.len b_.cap) hp_7.symm ?_)
   refine Yf [] [2,5,6,7,8,9] (Ys (Yp [.plain,.plain,.plain,.plain,.plain,.pick,.plain,.plain,.plain,.plain,.plain,.plain,.pick,.pick] [2,5,6,7,8,9,27] ?_))
   refine Yc h (fun h=> ?_) fun h=> ?_
   ·refine Yp P3 [2,3,4] ?_
    exact YT3 ⟨0,0,4,rfl,h⟩
   ·refine zg (Yt (Yn (Pl 6) ?_))
    obtain⟨h0,h⟩:=h
    refine zP (op:=(Op.binOp BinOp.shl 93 (Operand.tmp 31) (Operand.tmp 33) 3)) (ty:=93) (dst:=some 34) (Value.int .u64 (IntKind.u64.wrap ((IntKind.u64.wrap (band .u8 c 127))*2 ^ (min (IntKind.i64.wrap (7*t9)).toNat 64)))) K_ (fun ww=>zem (k':= .i64) K_ K_ K_ h0 ww) ?_
    refine Yf P2 [2,5,6,7,8,9] (Yp P2 [2,5,7,8,9,37] ?_)
    refine Yc h (fun h=> ?_) fun h=> ?_
    ·refine Yp (Pl 6) [2,3,4] ?_
     exact YT3 ⟨(bor .u64 n_ (IntKind.u64.wrap ((IntKind.u64.wrap (band .u8 c 127))*2 ^ (min (IntKind.i64.wrap (7*t9)).toNat 64)))),(IntKind.i64.wrap (t9+1)),0,rfl,h⟩
    ·refine zg (Yr (Yf P2 [2,7,8,9] ?_))
     have hb_:=again__h _ _ _ h
     exact⟨_,hb_.2,_,Sub.mk K_,(bor .u64 n_ (IntKind.u64.wrap ((IntKind.u64.wrap (band .u8 c 127))*2 ^ (min (IntKind.i64.wrap (7*t9)).toNat 64)))),(IntKind.i64.wrap (t9+1)),rfl,hb_.1,rfl⟩
  ·refine zM 0 (Yp P3 [2,3,4] ?_)
   exact YT3 ⟨0,0,5,rfl,h⟩
end
end Go.Proofs.YtjlfdepkphibgaaGreatDoor
