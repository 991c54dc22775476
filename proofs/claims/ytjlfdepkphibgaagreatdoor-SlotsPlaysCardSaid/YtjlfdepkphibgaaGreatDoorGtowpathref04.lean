/- WRITTEN BY PROGRAM (dec.py): for each Go function the clean formula F, the call's contract C, and the proof S that F gives C. -/
import Derived.Test.YtjlfdepkphibgaaGreatDoorRows
import Derived.Test.YtjlfdepkphibgaaGreatDoorGF
namespace Go.Proofs.YtjlfdepkphibgaaGreatDoor
open Go
set_option linter.unusedVariables false
set_option maxRecDepth 100000
set_option maxHeartbeats 4000000
noncomputable section

/-! ### towpath/towpathref04.New (function 7) -/

theorem S_kc {capacity:Int} {w:World} {R:OA→Int→WP} (h:F_0e capacity R w):C_oc capacity w R:=by
 unfold F_0e at h
 refine Yh Tryz.func7 ?_
 ·refine Yp P2 [0] (Ys (Yp [.plain,.plain,.plain,.plain,.plain,.pick] [0,9] ?_))
  refine Yc h (fun h=> ?_) fun h=> ?_
  ·refine Yp P2 [2,3] ?_
   exact YT2 ⟨none,1,rfl,h⟩
  ·refine zg (Yt (Yn P2 ?_))
   refine Yw pv_ h fun b_ w1 h=> ?_
   refine Yf P2 [2,3] ?_
   exact YT2 ⟨(some ⟨b_,0,none⟩),0,rfl,h⟩

/-! ### (*towpath/towpathref04.Disk).Write (function 20) -/

theorem S_d {d:OA} {slot:Int} {at_:Int} {b_:Slc} {w:World} {R:Int→WP} (h:F_jd d slot at_ b_ R w):C_i d slot at_ b_ w R:=by
 unfold F_jd at h
 refine Yh Tryz.func20 ?_
 ·refine Yp P1 [0,1,2,3] (Ys (Yt (Yn P1 ?_)))
  refine zP (op:=(Op.binOp BinOp.eql 28 (Operand.tmp 12) (Operand.const (Vp none)) 28)) (ty:=4) (dst:=some 13) (Vo d.isNone) K_ (fun ww=>zz (p:=d) K_ K_ K_ ww) ?_
  refine Yf [] [0,1,2,3,13] ?_
  refine Yc h (fun h=> ?_) fun h=> ?_
  ·refine Yp P1 [8] ?_
   exact YS ⟨2,rfl,h⟩
  ·refine zg (Ys (Yp [.plain,.plain,.plain,.plain,.plain,.pick,.plain,.plain,.plain,.pick,.plain,.plain,.plain,.plain,.pick] [0,1,2,3,28] ?_))
   refine Yc h (fun h=> ?_) fun h=> ?_
   ·refine Yp P1 [8] ?_
    exact YS ⟨1,rfl,h⟩
   ·refine zg (Yt (Yn P2 ?_))
    refine Yv 29 h fun hp_1 h=> ?_
    refine Yn P1 (Yn P1 ?_)
    obtain⟨h0,h1,h⟩:=h
    refine zab (t:=69) (e:=38) (x:=(Operand.tmp 32)) (ix:=(Operand.tmp 30)) (b:=(pblk d)) (o:=((poff d)+1)) (len:=2) (k:= .i64) (j:=slot) (ty:=0) (dst:=some 33) K_ K_ K_ K_ K_ h0 h1 ?_
    refine Yl h fun old h=> ?_
    refine Yf P1 [0,1,2,3,9] (Ys (Yp P4 [0,1,2,3,9,38] ?_))
    refine Yc h (fun h=> ?_) fun h=> ?_
    ·refine Yp P1 [8] ?_
     exact YS ⟨6,rfl,h⟩
    ·refine zg (Ys (Yt (Yn (Pl 5) ?_)))
     refine Yv 43 h fun hp_5 h=> ?_
     refine Yn P1 (Yn P1 ?_)
     refine Yl h fun v46 h=> ?_
     refine Yf P1 [0,1,2,3,9,47] ?_
     refine Yc h (fun h=> ?_) fun h=> ?_
     ·refine Yp P1 [8] ?_
      exact YS ⟨13,rfl,h⟩
     ·refine zg (Yt (Yn P1 ?_))
      refine Ym1 h fun v49 w1 h=> ?_
      refine Yf P1 [0,1,2,3,9,10] (Ys (Yp P2 [0,1,2,3,9,10,51] ?_))
      refine Yc h (fun h=> ?_) fun h=> ?_
      ·refine Yp P2 [8] ?_
       exact YS ⟨v49,rfl,h⟩
      ·refine zg (Yp P1 [0,1,2,3,9,11] (Yt (Yn P3 ?_)))
       obtain⟨h0,h1,h⟩:=h
       refine zyb (t:=38) (e:=5) (x:=(Operand.tmp 54)) (hi:=(Operand.tmp 55)) (p:=old.ptr) (l:=old.len) (c:=old.cap) (sz:=1) (k:= .i64) (j:=at_) (ty:=38) (dst:=some 56) K_ K_ K_ K_ K_ h0 h1 ?_
       obtain⟨src,hs,h⟩:=h
       refine zH (t:=38) (tx:=38) (e:=5) (a:=(Operand.tmp 53)) (xo:=(Operand.tmp 56)) (s:=(Slc.mk none 0 0)) (x:=(Slc.mk old.ptr at_.toNat old.cap)) (sz:=1) (by_:=1) (zs:=[Value.int .u8 0]) (ty:=38) (dst:=some 57)  src K_ K_ K_ K_ K_ K_ K_ K_ K_ hs (zj.mono h (fun l_ w2 h=> ?_))
       refine Yf P1 [0,1,2,3,9,11] (Yt (Yn P2 ?_))
       obtain⟨src,hs,h⟩:=h
       refine zH (t:=38) (tx:=38) (e:=5) (a:=(Operand.tmp 58)) (xo:=(Operand.tmp 59)) (s:=l_) (x:=b_) (sz:=1) (by_:=1) (zs:=[Value.int .u8 0]) (ty:=38) (dst:=some 60)  src K_ K_ K_ K_ K_ K_ K_ K_ K_ hs (zj.mono h (fun l_1 w3 h=> ?_))
       refine Yf P1 [0,1,2,3,9,11] ?_
       refine Ycut (fun l w=>∃(l_2:Slc),l=[(0,Vp d),(1,Vi slot),(11,sv_ l_2)]∧F_L d slot R l_2 w) ?_ ?_
       ·refine Yp (Pl 7) [0,1,2,3,9,11,67] ?_
        refine Yc h (fun h=> ?_) fun h=> ?_
        ·refine Yr (Yn (Pl 6) ?_)
         obtain⟨hc,h⟩:=h
         refine zld (t:=38) (e:=5) (x:=(Operand.tmp 69)) (lo:=(Operand.tmp 73)) (s:=old) (sz:=1) (k:= .i64) (a:=(IntKind.i64.wrap (at_+((b_.len:Nat):Int)))) (ty:=38) (dst:=some 74) K_ K_ K_ K_ K_ hc (fun s hs=> ?_)
         replace h:=h s hs
         clear hs
         obtain⟨src,hs,h⟩:=h
         refine zH (t:=38) (tx:=38) (e:=5) (a:=(Operand.tmp 68)) (xo:=(Operand.tmp 74)) (s:=l_1) (x:=s) (sz:=1) (by_:=1) (zs:=[Value.int .u8 0]) (ty:=38) (dst:=some 75)  src K_ K_ K_ K_ K_ K_ K_ K_ K_ hs (zj.mono h (fun l_3 w6 h=> ?_))
         refine Yf P1 [0,1,11] ?_
         exact⟨_,Sub.mk K_,l_3,rfl,h⟩
        ·refine zg ?_
         exact⟨_,Sub.mk K_,l_1,rfl,h⟩
       ·rintro _ w4 ⟨l_2,rfl,h⟩
        unfold F_L at h
        refine Yt (Yn P3 ?_)
        refine Yv 76 h fun hp_7 h=> ?_
        refine Yn P1 (Yn P1 ?_)
        obtain⟨h0,h1,h⟩:=h
        refine zab (t:=69) (e:=38) (x:=(Operand.tmp 80)) (ix:=(Operand.tmp 77)) (b:=(pblk d)) (o:=((poff d)+1)) (len:=2) (k:= .i64) (j:=slot) (ty:=0) (dst:=some 81) K_ K_ K_ K_ K_ h0 h1 ?_
        refine Yo h fun w5 h=> ?_
        refine Yf [] [] (Yp P1 [8] ?_)
        exact YS ⟨0,rfl,h⟩

/-! ### (*towpath/towpathref04.Disk).Clear (function 22) -/

theorem S_e {d:OA} {slot:Int} {w:World} {R:Int→WP} (h:F_kd d slot R w):C_j d slot w R:=by
 unfold F_kd at h
 refine Yh Tryz.func22 ?_
 ·refine Yp P1 [0,1] (Ys (Yt (Yn P1 ?_)))
  refine zP (op:=(Op.binOp BinOp.eql 28 (Operand.tmp 6) (Operand.const (Vp none)) 28)) (ty:=4) (dst:=some 7) (Vo d.isNone) K_ (fun ww=>zz (p:=d) K_ K_ K_ ww) ?_
  refine Yf [] [0,1,7] ?_
  refine Yc h (fun h=> ?_) fun h=> ?_
  ·refine Yp P1 [4] ?_
   exact YS ⟨2,rfl,h⟩
  ·refine zg (Ys (Yp [.plain,.plain,.plain,.plain,.plain,.pick] [0,1,13] ?_))
   refine Yc h (fun h=> ?_) fun h=> ?_
   ·refine Yp P1 [4] ?_
    exact YS ⟨1,rfl,h⟩
   ·refine zg (Yt (Yn P1 ?_))
    refine Ym1 h fun v15 w1 h=> ?_
    refine Yf P1 [0,1,5] ?_
    refine Ycut (fun l w=>l=[(5,Vi v15)]∧F_M R v15 w) ?_ ?_
    ·refine Yp P2 [0,1,5,17] ?_
     refine Yc h (fun h=> ?_) fun h=> ?_
     ·refine Yr (Yn P2 ?_)
      refine Yv 18 h fun hp_1 h=> ?_
      refine Yn P1 (Yn P1 ?_)
      obtain⟨h0,h1,h⟩:=h
      refine zab (t:=69) (e:=38) (x:=(Operand.tmp 21)) (ix:=(Operand.tmp 19)) (b:=(pblk d)) (o:=((poff d)+1)) (len:=2) (k:= .i64) (j:=slot) (ty:=0) (dst:=some 22) K_ K_ K_ K_ K_ h0 h1 ?_
      refine Yo h fun w3 h=> ?_
      refine Yf [] [5] ?_
      exact⟨_,Sub.mk K_,rfl,h⟩
     ·refine zg ?_
      exact⟨_,Sub.mk K_,rfl,h⟩
    ·rintro _ w2 ⟨rfl,h⟩
     unfold F_M at h
     refine Yp P2 [4] ?_
     exact YS ⟨v15,rfl,h⟩

/-! ### (*towpath/towpathref04.Disk).Cut (function 24) -/

theorem S_m {d:OA} {n_:Int} {w:World} {R:Int→WP} (h:F_Ce d n_ R w):C_y d n_ w R:=by
 unfold F_Ce at h
 refine Yh Tryz.func24 ?_
 ·refine Yp P1 [0,1] (Ys (Yt (Yn P1 ?_)))
  refine zP (op:=(Op.binOp BinOp.eql 28 (Operand.tmp 5) (Operand.const (Vp none)) 28)) (ty:=4) (dst:=some 6) (Vo d.isNone) K_ (fun ww=>zz (p:=d) K_ K_ K_ ww) ?_
  refine Yf [] [0,1,6] ?_
  refine Yc h (fun h=> ?_) fun h=> ?_
  ·refine Yp P1 [4] ?_
   exact YS ⟨2,rfl,h⟩
  ·refine zg (Ys (Yt (Yn P1 ?_)))
   refine Yv 7 h fun hp_3 h=> ?_
   refine Yn P1 (Yn P1 ?_)
   refine Yl h fun v10 h=> ?_
   refine Yf [] [0,1,10] ?_
   refine Yc h (fun h=> ?_) fun h=> ?_
   ·refine Yp P1 [4] ?_
    exact YS ⟨11,rfl,h⟩
   ·refine zg (Yt (Yn P2 ?_))
    refine Yv 11 h fun hp_5 h=> ?_
    refine Yn P1 (Yn P1 ?_)
    refine Yo h fun w1 h=> ?_
    refine Yf [] [0,1] ?_
    refine Ycut (fun l w=>l=[]∧F_6 R w) ?_ ?_
    ·refine Yp P2 [0,16] ?_
     refine Yc h (fun h=> ?_) fun h=> ?_
     ·refine Yr (Yn P1 ?_)
      refine Yv 17 h fun hp_7 h=> ?_
      refine Yn P1 (Yn P1 ?_)
      refine Yo h fun w3 h=> ?_
      refine Yf [] [] ?_
      exact⟨_,Sub.mk K_,rfl,h⟩
     ·refine zg ?_
      exact⟨_,Sub.mk K_,rfl,h⟩
    ·rintro _ w2 ⟨rfl,h⟩
     unfold F_6 at h
     refine Yp P1 [4] ?_
     exact YS ⟨0,rfl,h⟩

/-! ### (*towpath/towpathref04.Disk).Mend (function 26) -/

theorem S_h {d:OA} {w:World} {R:Int→WP} (h:F_pe d R w):C_t d w R:=by
 unfold F_pe at h
 refine Yh Tryz.func26 ?_
 ·refine Yp P1 [0] (Ys (Yt (Yn P1 ?_)))
  refine zP (op:=(Op.binOp BinOp.eql 28 (Operand.tmp 3) (Operand.const (Vp none)) 28)) (ty:=4) (dst:=some 4) (Vo d.isNone) K_ (fun ww=>zz (p:=d) K_ K_ K_ ww) ?_
  refine Yf [] [0,4] ?_
  refine Yc h (fun h=> ?_) fun h=> ?_
  ·refine Yp P1 [2] ?_
   exact YS ⟨2,rfl,h⟩
  ·refine zg (Yt (Yn P1 ?_))
   refine Yv 5 h fun hp_1 h=> ?_
   refine Yn P1 (Yn P1 ?_)
   refine Yo h fun w1 h=> ?_
   refine Yf [] [0] (Yt (Yn P1 ?_))
   refine Yv 8 h fun hp_3 h=> ?_
   refine Yn P1 (Yn P1 ?_)
   refine Yo h fun w2 h=> ?_
   refine Yf [] [] (Yp P1 [2] ?_)
   exact YS ⟨0,rfl,h⟩

/-! ### (*towpath/towpathref04.Disk).Dead (function 33) -/

theorem S_i {d:OA} {w:World} {R:Bool→WP} (h:F_qe d R w):C_u d w R:=by
 unfold F_qe at h
 refine Yh Tryz.func33 ?_
 ·refine Yp P1 [0] (Yt (Yn P1 ?_))
  refine zP (op:=(Op.binOp BinOp.neq 28 (Operand.tmp 3) (Operand.const (Vp none)) 28)) (ty:=4) (dst:=some 4) (Vo (!d.isNone)) K_ (fun ww=>zfe (p:=d) K_ K_ K_ ww) ?_
  refine Yn P2 ?_
  refine Yspl 5 h (fun h=> ?_) fun h=> ?_
  ·refine Yv 6 h fun hp_0 h=> ?_
   refine Yn [.sure] (Yn [.sure] ?_)
   refine Yl h fun v9 h=> ?_
   refine Yf P2 [2] ?_
   exact YS ⟨v9,rfl,h⟩
  ·refine Yf [.skip,.skip,.skip,.plain,.plain] [2] ?_
   exact YS ⟨false,rfl,h⟩

/-! ### (*towpath/towpathref04.Disk).Writes (function 35) -/

theorem S_b {d:OA} {w:World} {R:Int→WP} (h:F_de d R w):C_l d w R:=by
 unfold F_de at h
 refine Yh Tryz.func35 ?_
 ·refine Yp P1 [0] (Ys (Yt (Yn P1 ?_)))
  refine zP (op:=(Op.binOp BinOp.eql 28 (Operand.tmp 3) (Operand.const (Vp none)) 28)) (ty:=4) (dst:=some 4) (Vo d.isNone) K_ (fun ww=>zz (p:=d) K_ K_ K_ ww) ?_
  refine Yf [] [0,4] ?_
  refine Yc h (fun h=> ?_) fun h=> ?_
  ·refine Yp P1 [2] ?_
   exact YS ⟨0,rfl,h⟩
  ·refine zg (Yt (Yn P1 ?_))
   refine Yv 5 h fun hp_0 h=> ?_
   refine Yn P1 (Yn P1 ?_)
   refine Yl h fun v8 h=> ?_
   refine Yf P1 [2] ?_
   exact YS ⟨v8,rfl,h⟩

/-! ### (*towpath/towpathref04.Disk).Read (function 37) -/

theorem S_a {d:OA} {slot:Int} {w:World} {R:Slc→Int→WP} (h:F_dc d slot R w):C_b d slot w R:=by
 unfold F_dc at h
 refine Yh Tryz.func37 ?_
 ·refine Yp P2 [0,1] (Ys (Yt (Yn P1 ?_)))
  refine zP (op:=(Op.binOp BinOp.eql 28 (Operand.tmp 6) (Operand.const (Vp none)) 28)) (ty:=4) (dst:=some 7) (Vo d.isNone) K_ (fun ww=>zz (p:=d) K_ K_ K_ ww) ?_
  refine Yf [] [0,1,7] ?_
  refine Yc h (fun h=> ?_) fun h=> ?_
  ·refine Yp P2 [4,5] ?_
   exact YT2 ⟨(Slc.mk none 0 0),2,rfl,h⟩
  ·refine zg (Ys (Yp [.plain,.plain,.plain,.plain,.plain,.pick] [0,1,13] ?_))
   refine Yc h (fun h=> ?_) fun h=> ?_
   ·refine Yp P2 [4,5] ?_
    exact YT2 ⟨(Slc.mk none 0 0),1,rfl,h⟩
   ·refine zg (Yt (Yn P2 ?_))
    refine Yv 14 h fun hp_0 h=> ?_
    refine Yn P1 (Yn P1 ?_)
    obtain⟨h0,h1,h⟩:=h
    refine zab (t:=69) (e:=38) (x:=(Operand.tmp 17)) (ix:=(Operand.tmp 15)) (b:=(pblk d)) (o:=((poff d)+1)) (len:=2) (k:= .i64) (j:=slot) (ty:=0) (dst:=some 18) K_ K_ K_ K_ K_ h0 h1 ?_
    refine Yl h fun v19 h=> ?_
    refine Yf P2 [4,5] ?_
    exact YT2 ⟨v19,0,rfl,h⟩

/-! ### (*towpath/towpathref04.Disk).Capacity (function 80) -/

theorem S_U {d:OA} {w:World} {R:Int→WP} (h:F_Sd d R w):C_kb d w R:=by
 unfold F_Sd at h
 refine Yh Tryz.func80 ?_
 ·refine Yp P1 [0] (Ys (Yt (Yn P1 ?_)))
  refine zP (op:=(Op.binOp BinOp.eql 28 (Operand.tmp 3) (Operand.const (Vp none)) 28)) (ty:=4) (dst:=some 4) (Vo d.isNone) K_ (fun ww=>zz (p:=d) K_ K_ K_ ww) ?_
  refine Yf [] [0,4] ?_
  refine Yc h (fun h=> ?_) fun h=> ?_
  ·refine Yp P1 [2] ?_
   exact YS ⟨0,rfl,h⟩
  ·refine zg (Yt (Yn P1 ?_))
   refine Yv 5 h fun hp_0 h=> ?_
   refine Yn P1 (Yn P1 ?_)
   refine Yl h fun v8 h=> ?_
   refine Yf P1 [2] ?_
   exact YS ⟨v8,rfl,h⟩

/-! ### (*towpath/towpathref04.Disk).raw (function 87) -/

theorem S_Ob {d:OA} {w:World} {R:Int→WP} (h:F_Hd d R w):C_5 d w R:=by
 unfold F_Hd at h
 refine Yh Tryz.func87 ?_
 ·refine Yp P1 [0] (Ys ?_)
  refine Ycut (fun l w=>∃(t13:Bool),l=[(0,Vp d),(13,Vo t13)]∧F_k d R t13 w) ?_ ?_
  ·refine Yr (Yn P1 ?_)
   refine Yv 3 h fun hp_22 h=> ?_
   refine Yn P1 (Yn P1 ?_)
   refine Yl h fun v6 h=> ?_
   refine Yn P2 ?_
   refine Yspl 7 h (fun h=> ?_) fun h=> ?_
   ·refine Yf [.skip,.skip,.skip,.skip,.plain] [0,13] ?_
    exact⟨_,Sub.mk K_,true,rfl,h⟩
   ·refine Yv 8 h fun hp_23 h=> ?_
    refine Yn [.sure] (Yn [.sure] ?_)
    refine Yl h fun v11 h=> ?_
    refine Yf [.sure,.plain] [0,13] ?_
    exact⟨_,Sub.mk K_,(v11==0),rfl,h⟩
  ·rintro _ w1 ⟨t13,rfl,h⟩
   unfold F_k at h
   refine Yc h (fun h=> ?_) fun h=> ?_
   ·refine Yt (Yn P1 ?_)
    refine Yv 14 h fun hp_9 h=> ?_
    refine Yn P1 (Yn P1 ?_)
    refine Yo h fun w2 h=> ?_
    refine Yf [] [] (Yp P1 [2] ?_)
    exact YS ⟨11,rfl,h⟩
   ·refine zg ?_
    refine Ycut (fun l w=>l=[(0,Vp d)]∧F_w d R w) ?_ ?_
    ·refine Yt (Yn P1 ?_)
     refine Yv 17 h fun hp_19 h=> ?_
     refine Yn P1 (Yn P1 ?_)
     refine Yl h fun v20 h=> ?_
     refine Yf P1 [0,21] ?_
     refine Yc h (fun h=> ?_) fun h=> ?_
     ·refine Yr (Yn P2 ?_)
      refine Yv 23 h fun hp_20 h=> ?_
      refine Yn P1 (Yn P1 ?_)
      refine Yl h fun v26 h=> ?_
      refine Yn P1 ?_
      refine Yv 22 h fun hp_21 h=> ?_
      refine Yn P1 (Yn P1 ?_)
      refine Yo h fun w5 h=> ?_
      refine Yf [] [0] ?_
      exact⟨_,Sub.mk K_,rfl,h⟩
     ·refine zg ?_
      exact⟨_,Sub.mk K_,rfl,h⟩
    ·rintro _ w3 ⟨rfl,h⟩
     unfold F_w at h
     refine Yt (Yn P2 ?_)
     refine Yv 31 h fun hp_16 h=> ?_
     refine Yn P1 (Yn P1 ?_)
     refine Yl h fun v34 h=> ?_
     refine Yn P1 ?_
     refine Yv 30 h fun hp_17 h=> ?_
     refine Yn P1 (Yn P1 ?_)
     refine Yo h fun w4 h=> ?_
     refine Yf [] [] (Yp P1 [2] ?_)
     exact YS ⟨0,rfl,h⟩
end
end Go.Proofs.YtjlfdepkphibgaaGreatDoor
