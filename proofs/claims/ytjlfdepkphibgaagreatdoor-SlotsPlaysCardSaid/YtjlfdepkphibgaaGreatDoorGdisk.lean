/- WRITTEN BY PROGRAM (dec.py): for each Go function the clean formula F, the call's contract C, and the proof S that F gives C. -/
import Derived.Test.YtjlfdepkphibgaaGreatDoorRows
import Derived.Test.YtjlfdepkphibgaaGreatDoorGF
namespace Go.Proofs.YtjlfdepkphibgaaGreatDoor
open Go
set_option linter.unusedVariables false
set_option maxRecDepth 100000
set_option maxHeartbeats 4000000
noncomputable section

/-! ### towpath/disk.New (function 6) -/

theorem S_Qc {capacity:Int} {w:World} {R:OA→Int→WP} (h:F_rf capacity R w):C_Qc capacity w R:=by
 unfold F_rf at h
 refine Yh Tryz.func6 ?_
 ·refine Yp P2 [0] (Ys (Yp [.plain,.plain,.plain,.plain,.plain,.pick] [0,9] ?_))
  refine Yc h (fun h=> ?_) fun h=> ?_
  ·refine Yp P2 [2,3] ?_
   exact YT2 ⟨none,1,rfl,h⟩
  ·refine zg (Yt (Yn P2 ?_))
   refine Yw pv_ h fun b_ w1 h=> ?_
   refine Yf P2 [2,3] ?_
   exact YT2 ⟨(some ⟨b_,0,none⟩),0,rfl,h⟩

/-! ### (*towpath/disk.Disk).Write (function 19) -/
def zIu:=cb_ Tryz.f19
def zJu:=cr_ zIu
def zKr:=cr_ zJu
def zLr:=cr_ zKr
def zMr:=cr_ zLr
def zNr:=cl_ zMr
def zOr:=cr_ zNr
def zPr:=cr_ zOr
def zQr:=cl_ zPr
def zRr:=co_ zQr
def zBd:List Nat:=[0,1,2,3,4,5,6,7,8,9,10,11,12,13,14,15,16,18,19,17,20,21]

theorem S_fb {d:OA} {slot:Int} {at_:Int} {b_:Slc} {w:World} {R:Int→WP} (h:F_De d slot at_ b_ R w):C_U d slot at_ b_ w R:=by
 unfold F_De at h
 refine Yh Tryz.func19 ?_
 ·refine Yp P1 [0,1,2,3] (Ys (Yt (Yn P2 ?_)))
  refine Ym1 h fun v14 w1 h=> ?_
  refine Yf P1 [0,1,2,3,9] (Yp P2 [0,1,2,3,9,16] ?_)
  refine Yc h (fun h=> ?_) fun h=> ?_
  ·refine Yp P2 [8] ?_
   exact YS ⟨v14,rfl,h⟩
  ·refine zg (Ys (Yd 0 (Yp [.plain,.plain,.plain,.plain,.plain,.plain,.pick,.plain] [0,1,2,3,18] ?_)))
   refine Yc h (fun h=> ?_) fun h=> ?_
   ·refine Yp P1 [8] ?_
    exact YS ⟨1,rfl,h⟩
   ·refine Yt (Yn P3 ?_)
    refine Yv 28 h fun hp_5 h=> ?_
    refine Yn P1 (Yn P1 ?_)
    obtain⟨h0,h1,h⟩:=h
    refine zab (t:=69) (e:=38) (x:=(Operand.tmp 31)) (ix:=(Operand.tmp 29)) (b:=(pblk d)) (o:=((poff d)+2)) (len:=2) (k:= .i64) (j:=slot) (ty:=0) (dst:=some 32) K_ K_ K_ K_ K_ h0 h1 ?_
    refine Yl h fun v33 h=> ?_
    refine Yf P3 [0,1,2,3,26] ?_
    refine Yc h (fun h=> ?_) fun h=> ?_
    ·refine Yp P1 [8] ?_
     exact YS ⟨6,rfl,h⟩
    ·refine Yt (Yn P2 ?_)
     refine Yv 38 h fun hp_7 h=> ?_
     refine Yn P1 (Yn P1 ?_)
     refine Yl h fun v41 h=> ?_
     refine Yf (Pl 5) [0,1,2,3,36] ?_
     refine Yc h (fun h=> ?_) fun h=> ?_
     ·refine Yp P1 [8] ?_
      exact YS ⟨13,rfl,h⟩
     ·refine zg (Ys (Yt (Yn P1 ?_)))
      refine Ym1 h fun v47 w2 h=> ?_
      refine Yf P1 [0,1,2,3,10] (Yp P2 [0,1,2,3,10,49] ?_)
      refine Yc h (fun h=> ?_) fun h=> ?_
      ·refine Yp P2 [8] ?_
       exact YS ⟨v47,rfl,h⟩
      ·refine zg ?_
       refine Ycut (fun l w=>l=[(0,Vp d),(1,Vi slot),(2,Vi at_),(3,sv_ b_)]∧F_Jb d slot at_ b_ R w) ?_ ?_
       ·refine Yp (Pl 5) [0,1,2,3,11] (Yt (Yn P3 ?_))
        refine Yv 56 h fun hp_16 h=> ?_
        refine Yn P1 (Yn P1 ?_)
        obtain⟨h0,h1,h⟩:=h
        refine zab (t:=69) (e:=38) (x:=(Operand.tmp 59)) (ix:=(Operand.tmp 57)) (b:=(pblk d)) (o:=((poff d)+2)) (len:=2) (k:= .i64) (j:=slot) (ty:=0) (dst:=some 60) K_ K_ K_ K_ K_ h0 h1 ?_
        refine Yl h fun v61 h=> ?_
        refine Yf P2 [0,1,2,3,11,63] ?_
        refine Yc h (fun h=> ?_) fun h=> ?_
        ·refine zm (id:=15) (ops:=zRr) zBd K_ K_ K_ K_ (fun w5 hw=> ?_)
         replace h:=h w5 hw
         clear hw
         refine Mn P4 ?_
         refine Mv 66 h fun hp_17 h=> ?_
         refine Mn P1 ?_
         refine Mn P1 ?_
         obtain⟨h0,h1,h⟩:=h
         refine zpd (i:=6) K_ (t:=69) (e:=38) (x:=(Operand.tmp 69)) (ix:=(Operand.tmp 67)) (b:=(pblk d)) (o:=((poff d)+2)) (len:=2) (k:= .i64) (j:=slot) (ty:=0) (dst:=some 70) K_ K_ K_ K_ K_ h0 h1 ?_
         refine Ml 7 h fun v71 hc h=> ?_
         refine Mn P3 ?_
         refine Mv 73 h fun hp_18 h=> ?_
         refine Mn P1 ?_
         refine Mn P1 ?_
         obtain⟨h0,h1,h⟩:=h
         refine zpd (i:=13) K_ (t:=69) (e:=38) (x:=(Operand.tmp 76)) (ix:=(Operand.tmp 74)) (b:=(pblk d)) (o:=((poff d)+2)) (len:=2) (k:= .i64) (j:=slot) (ty:=0) (dst:=some 77) K_ K_ K_ K_ K_ h0 h1 ?_
         refine Ml 14 h fun v78 hc h=> ?_
         refine Mn P2 ?_
         refine Mv 64 h fun hp_19 h=> ?_
         refine Mn P1 ?_
         refine Mn P1 ?_
         obtain⟨h0,h1,h⟩:=h
         refine z8g (t:=38) (tx:=3) (e:=5) (a:=(Operand.tmp 71)) (xo:=(Operand.tmp 80)) (s:=v71) (l:=(IntKind.i64.wrap ((IntKind.i64.wrap (at_+((b_.len:Nat):Int))) - ((v78.len:Nat):Int)))) (sz:=1) (by_:=1) (zs:=[Value.int .u8 0]) (ty:=38) (dst:=some 81) 17 [7,16,6,8,15,3,5,14,4,13,2,10,12,11,9] [] K_ K_ K_ K_ K_ K_ K_ K_ K_ K_ K_ K_ K_ K_ h0 h1 (zj.mono h (fun v81 w6 h=> ?_))
         refine⟨trivial,?_⟩
         obtain⟨h0,h1,h⟩:=h
         refine zpd (i:=20) K_ (t:=69) (e:=38) (x:=(Operand.tmp 83)) (ix:=(Operand.tmp 65)) (b:=(pblk d)) (o:=((poff d)+2)) (len:=2) (k:= .i64) (j:=slot) (ty:=0) (dst:=some 84) K_ K_ K_ K_ K_ h0 h1 ?_
         refine zoc 21 [0,1,2,3,4,5,6,7,8,9,10,11,12,13,14,15,16,17,20,19,18] [] h fun w7 h=> ?_
         refine⟨trivial,?_⟩
         refine Mf [] [0,1,2,3] ?_
         exact⟨_,Sub.mk K_,rfl,h⟩
        ·refine zg ?_
         exact⟨_,Sub.mk K_,rfl,h⟩
       ·rintro _ w3 ⟨rfl,h⟩
        unfold F_Jb at h
        refine Yt (Yn P2 ?_)
        refine Yv 85 h fun hp_14 h=> ?_
        refine Yn P1 (Yn P1 ?_)
        obtain⟨h0,h1,h⟩:=h
        refine zab (t:=69) (e:=38) (x:=(Operand.tmp 88)) (ix:=(Operand.tmp 86)) (b:=(pblk d)) (o:=((poff d)+2)) (len:=2) (k:= .i64) (j:=slot) (ty:=0) (dst:=some 89) K_ K_ K_ K_ K_ h0 h1 ?_
        refine Yl h fun v90 h=> ?_
        refine Yn P1 ?_
        obtain⟨hc,h⟩:=h
        refine zld (t:=38) (e:=5) (x:=(Operand.tmp 90)) (lo:=(Operand.tmp 91)) (s:=v90) (sz:=1) (k:= .i64) (a:=at_) (ty:=38) (dst:=some 92) K_ K_ K_ K_ K_ hc (fun s hs=> ?_)
        replace h:=h s hs
        clear hs
        refine Yn P1 ?_
        obtain⟨src,hs,h⟩:=h
        refine zMk (t:=38) (tx:=38) (e:=5) (a:=(Operand.tmp 92)) (xo:=(Operand.tmp 93)) (d:=s) (x:=b_) (sz:=1) (ty:=3) (dst:=some 94)  src K_ K_ K_ K_ K_ hs (zAh.mono h (fun w4 h=> ?_))
        refine Yf [] [] (Yp P1 [8] ?_)
        exact YS ⟨0,rfl,h⟩

/-! ### (*towpath/disk.Disk).Clear (function 21) -/

theorem S_n {d:OA} {slot:Int} {w:World} {R:Int→WP} (h:F_cf d slot R w):C_z d slot w R:=by
 unfold F_cf at h
 refine Yh Tryz.func21 ?_
 ·refine Yp P1 [0,1] (Ys (Yt (Yn P2 ?_)))
  refine Ym1 h fun v9 w1 h=> ?_
  refine Yf P1 [0,1,5] (Yp P2 [0,1,5,11] ?_)
  refine Yc h (fun h=> ?_) fun h=> ?_
  ·refine Yp P2 [4] ?_
   exact YS ⟨v9,rfl,h⟩
  ·refine zg (Ys (Yt (Yn P1 ?_)))
   refine Ym1 h fun v14 w2 h=> ?_
   refine Yf P1 [0,1,6] (Yp P2 [0,1,6,16] ?_)
   refine Yc h (fun h=> ?_) fun h=> ?_
   ·refine Yp P2 [4] ?_
    exact YS ⟨v14,rfl,h⟩
   ·refine zg (Yt (Yn P2 ?_))
    refine Yv 18 h fun hp_1 h=> ?_
    refine Yn P1 (Yn P1 ?_)
    obtain⟨h0,h1,h⟩:=h
    refine zab (t:=69) (e:=38) (x:=(Operand.tmp 21)) (ix:=(Operand.tmp 19)) (b:=(pblk d)) (o:=((poff d)+2)) (len:=2) (k:= .i64) (j:=slot) (ty:=0) (dst:=some 22) K_ K_ K_ K_ K_ h0 h1 ?_
    refine Yo h fun w3 h=> ?_
    refine Yf [] [] (Yp P1 [4] ?_)
    exact YS ⟨0,rfl,h⟩

/-! ### (*towpath/disk.Disk).Cut (function 23) -/

theorem S_Pb {d:OA} {n_:Int} {w:World} {R:Int→WP} (h:F_kf d n_ R w):C_6b d n_ w R:=by
 unfold F_kf at h
 refine Yh Tryz.func23 ?_
 ·refine Yp P1 [0,1] (Ys (Yt (Yn P1 ?_)))
  refine Ym1 h fun v7 w1 h=> ?_
  refine Yf P1 [0,1,5] (Yp P2 [0,1,5,9] ?_)
  refine Yc h (fun h=> ?_) fun h=> ?_
  ·refine Yp P2 [4] ?_
   exact YS ⟨v7,rfl,h⟩
  ·refine zg (Ys (Yt (Yn P1 ?_)))
   refine Yv 11 h fun hp_3 h=> ?_
   refine Yn P1 (Yn P1 ?_)
   refine Yl h fun v14 h=> ?_
   refine Yf [] [0,1,14] ?_
   refine Yc h (fun h=> ?_) fun h=> ?_
   ·refine Yp P1 [4] ?_
    exact YS ⟨11,rfl,h⟩
   ·refine zg (Yt (Yn P3 ?_))
    refine Yv 15 h fun hp_5 h=> ?_
    refine Yn P1 (Yn P1 ?_)
    refine Yo h fun w2 h=> ?_
    refine Yf [] [] (Yp P1 [4] ?_)
    exact YS ⟨0,rfl,h⟩

/-! ### (*towpath/disk.Disk).Mend (function 25) -/

theorem S_Cb {d:OA} {w:World} {R:Int→WP} (h:F_ff d R w):C_Ob d w R:=by
 unfold F_ff at h
 refine Yh Tryz.func25 ?_
 ·refine Yp P1 [0] (Ys (Yt (Yn P1 ?_)))
  refine Ym1 h fun v5 w1 h=> ?_
  refine Yf P1 [0,3] (Yp P2 [0,3,7] ?_)
  refine Yc h (fun h=> ?_) fun h=> ?_
  ·refine Yp P2 [2] ?_
   exact YS ⟨v5,rfl,h⟩
  ·refine zg (Yt (Yn P2 ?_))
   refine Yv 9 h fun hp_2 h=> ?_
   refine Yn P1 (Yn P1 ?_)
   refine Yo h fun w2 h=> ?_
   refine Yv 10 h fun hp_3 h=> ?_
   refine Yn P1 (Yn P1 ?_)
   refine Yo h fun w3 h=> ?_
   refine Yf [] [] (Yp P1 [2] ?_)
   exact YS ⟨0,rfl,h⟩

/-! ### (*towpath/disk.Disk).Dead (function 32) -/

theorem S_Db {d:OA} {w:World} {R:Bool→WP} (h:F_gf d R w):C_Qb d w R:=by
 unfold F_gf at h
 refine Yh Tryz.func32 ?_
 ·refine Yp P1 [0] (Yt (Yn P1 ?_))
  refine zP (op:=(Op.binOp BinOp.neq 24 (Operand.tmp 3) (Operand.const (Vp none)) 24)) (ty:=4) (dst:=some 4) (Vo (!d.isNone)) K_ (fun ww=>zfe (p:=d) K_ K_ K_ ww) ?_
  refine Yn P2 ?_
  refine Yspl 5 h (fun h=> ?_) fun h=> ?_
  ·refine Yv 6 h fun hp_0 h=> ?_
   refine Yn [.sure] (Yn [.sure] ?_)
   refine Yl h fun v9 h=> ?_
   refine Yf P2 [2] ?_
   exact YS ⟨v9,rfl,h⟩
  ·refine Yf [.skip,.skip,.skip,.plain,.plain] [2] ?_
   exact YS ⟨false,rfl,h⟩

/-! ### (*towpath/disk.Disk).Writes (function 34) -/

theorem S_6 {d:OA} {w:World} {R:Int→WP} (h:F_1e d R w):C_pb d w R:=by
 unfold F_1e at h
 refine Yh Tryz.func34 ?_
 ·refine Yp P1 [0] (Ys (Yt (Yn P1 ?_)))
  refine zP (op:=(Op.binOp BinOp.eql 24 (Operand.tmp 3) (Operand.const (Vp none)) 24)) (ty:=4) (dst:=some 4) (Vo d.isNone) K_ (fun ww=>zz (p:=d) K_ K_ K_ ww) ?_
  refine Yf [] [0,4] ?_
  refine Yc h (fun h=> ?_) fun h=> ?_
  ·refine Yp P1 [2] ?_
   exact YS ⟨0,rfl,h⟩
  ·refine zg (Yt (Yn P1 ?_))
   refine Yv 5 h fun hp_0 h=> ?_
   refine Yn P1 (Yn P1 ?_)
   refine Yl h fun v8 h=> ?_
   refine Yf P1 [2] ?_
   exact YS ⟨v8,rfl,h⟩

/-! ### (*towpath/disk.Disk).Read (function 36) -/

theorem S_Eb {d:OA} {slot:Int} {w:World} {R:Slc→Int→WP} (h:F_hf d slot R w):C_ab d slot w R:=by
 unfold F_hf at h
 refine Yh Tryz.func36 ?_
 ·refine Yp P2 [0,1] (Ys (Yt (Yn P2 ?_)))
  refine Ym1 h fun v9 w1 h=> ?_
  refine Yf P1 [0,1,6] (Yp P2 [0,1,6,11] ?_)
  refine Yc h (fun h=> ?_) fun h=> ?_
  ·refine Yp P3 [4,5] ?_
   exact YT2 ⟨(Slc.mk none 0 0),v9,rfl,h⟩
  ·refine zg (Yt (Yn P2 ?_))
   refine Yv 13 h fun hp_0 h=> ?_
   refine Yn P1 (Yn P1 ?_)
   obtain⟨h0,h1,h⟩:=h
   refine zab (t:=69) (e:=38) (x:=(Operand.tmp 16)) (ix:=(Operand.tmp 14)) (b:=(pblk d)) (o:=((poff d)+2)) (len:=2) (k:= .i64) (j:=slot) (ty:=0) (dst:=some 17) K_ K_ K_ K_ K_ h0 h1 ?_
   refine Yl h fun v18 h=> ?_
   refine Ym1 h fun v19 w2 h=> ?_
   refine Yf P2 [4,5] ?_
   exact YT2 ⟨v19,0,rfl,h⟩

/-! ### (*towpath/disk.Disk).Capacity (function 77) -/

theorem S_Zb {d:OA} {w:World} {R:Int→WP} (h:F_He d R w):C_ec d w R:=by
 unfold F_He at h
 refine Yh Tryz.func77 ?_
 ·refine Yp P1 [0] (Ys (Yt (Yn P1 ?_)))
  refine zP (op:=(Op.binOp BinOp.eql 24 (Operand.tmp 3) (Operand.const (Vp none)) 24)) (ty:=4) (dst:=some 4) (Vo d.isNone) K_ (fun ww=>zz (p:=d) K_ K_ K_ ww) ?_
  refine Yf [] [0,4] ?_
  refine Yc h (fun h=> ?_) fun h=> ?_
  ·refine Yp P1 [2] ?_
   exact YS ⟨0,rfl,h⟩
  ·refine zg (Yt (Yn P1 ?_))
   refine Yv 5 h fun hp_0 h=> ?_
   refine Yn P1 (Yn P1 ?_)
   refine Yl h fun v8 h=> ?_
   refine Yf P1 [2] ?_
   exact YS ⟨v8,rfl,h⟩

/-! ### (*towpath/disk.Disk).look (function 85) -/

theorem S_Fb {d:OA} {slot:Int} {w:World} {R:Int→WP} (h:F_2d d slot R w):C_v d slot w R:=by
 unfold F_2d at h
 refine Yh Tryz.func85 ?_
 ·refine Yp P1 [0,1] (Ys (Yd 0 ?_))
  refine Ycut (fun l w=>∃(t5:Bool),l=[(1,Vi slot),(5,Vo t5)]∧F_Rb slot R t5 w) ?_ ?_
  ·refine Yr (Yn P1 ?_)
   refine zP (op:=(Op.binOp BinOp.eql 24 (Operand.tmp 6) (Operand.const (Vp none)) 24)) (ty:=4) (dst:=some 7) (Vo d.isNone) K_ (fun ww=>zz (p:=d) K_ K_ K_ ww) ?_
   refine Yn P2 ?_
   refine Yspl 8 h (fun h=> ?_) fun h=> ?_
   ·refine Yf [.skip,.skip,.skip,.skip,.plain,.plain] [1,5] ?_
    exact⟨_,Sub.mk K_,true,rfl,h⟩
   ·refine Yv 9 h fun hp_3 h=> ?_
    refine Yn [.sure] (Yn [.sure] ?_)
    refine Yl h fun v12 h=> ?_
    refine Yf [.sure,.plain,.plain] [1,5] ?_
    exact⟨_,Sub.mk K_,(!v12),rfl,h⟩
  ·rintro _ w1 ⟨t5,rfl,h⟩
   unfold F_Rb at h
   refine Yc h (fun h=> ?_) fun h=> ?_
   ·refine Yp P1 [4] ?_
    exact YS ⟨2,rfl,h⟩
   ·refine Yp [.plain,.plain,.plain,.plain,.plain,.pick,.plain] [15] ?_
    refine Yc h (fun h=> ?_) fun h=> ?_
    ·refine Yp P1 [4] ?_
     exact YS ⟨1,rfl,h⟩
    ·refine zg (Yp P1 [4] ?_)
     exact YS ⟨0,rfl,h⟩

/-! ### (*towpath/disk.Disk).raw (function 86) -/

theorem S_yc {d:OA} {w:World} {R:Int→WP} (h:F_Ie d R w):C_nc d w R:=by
 unfold F_Ie at h
 refine Yh Tryz.func86 ?_
 ·refine Yp P1 [0] (Ys ?_)
  refine Ycut (fun l w=>∃(t13:Bool),l=[(0,Vp d),(13,Vo t13)]∧F_Cb d R t13 w) ?_ ?_
  ·refine Yr (Yn P1 ?_)
   refine Yv 3 h fun hp_16 h=> ?_
   refine Yn P1 (Yn P1 ?_)
   refine Yl h fun v6 h=> ?_
   refine Yn P2 ?_
   refine Yspl 7 h (fun h=> ?_) fun h=> ?_
   ·refine Yf [.skip,.skip,.skip,.skip,.plain] [0,13] ?_
    exact⟨_,Sub.mk K_,true,rfl,h⟩
   ·refine Yv 8 h fun hp_17 h=> ?_
    refine Yn [.sure] (Yn [.sure] ?_)
    refine Yl h fun v11 h=> ?_
    refine Yf [.sure,.plain] [0,13] ?_
    exact⟨_,Sub.mk K_,(v11==0),rfl,h⟩
  ·rintro _ w1 ⟨t13,rfl,h⟩
   unfold F_Cb at h
   refine Yc h (fun h=> ?_) fun h=> ?_
   ·refine Yt (Yn P1 ?_)
    refine Yv 14 h fun hp_9 h=> ?_
    refine Yn P1 (Yn P1 ?_)
    refine Yo h fun w2 h=> ?_
    refine Yf [] [] (Yp P1 [2] ?_)
    exact YS ⟨11,rfl,h⟩
   ·refine zg (Yt (Yn P2 ?_))
    refine Yv 18 h fun hp_12 h=> ?_
    refine Yn P1 (Yn P1 ?_)
    refine Yl h fun v21 h=> ?_
    refine Yn P2 ?_
    refine Yv 17 h fun hp_13 h=> ?_
    refine Yn P1 (Yn P1 ?_)
    refine Yo h fun w3 h=> ?_
    refine Yf [] [0] (Yt (Yn P1 ?_))
    refine Yv 26 h fun hp_15 h=> ?_
    refine Yn P1 (Yn P1 ?_)
    refine Yl h fun v29 h=> ?_
    refine Yn P3 ?_
    refine Yo h fun w4 h=> ?_
    refine Yf [] [] (Yp P1 [2] ?_)
    exact YS ⟨0,rfl,h⟩
end
end Go.Proofs.YtjlfdepkphibgaaGreatDoor
