/- WRITTEN BY PROGRAM (dec.py): for each Go function the clean formula F, the call's contract C, and the proof S that F gives C. -/
import Derived.Test.YtofjmclceflgiaaGreatRows
import Derived.Test.YtofjmclceflgiaaGreatGF
namespace Go.Proofs.YtofjmclceflgiaaGreat
open Go
set_option linter.unusedVariables false
set_option maxRecDepth 100000
set_option maxHeartbeats 4000000
noncomputable section

/-! ### towpath/disk.New (function 18) -/

theorem S_8b {capacity:Int} {w:World} {R:OA→Int→WP} (h:F_Jd capacity R w):C_bc capacity w R:=by
 unfold F_Jd at h
 refine Yh Tryz.func18 ?_
 ·refine Yp P2 [0] (Ys (Yp [.plain,.plain,.plain,.plain,.plain,.pick] [0,9] ?_))
  refine Yc h (fun h=> ?_) fun h=> ?_
  ·refine Yp P2 [2,3] ?_
   exact YT2 ⟨none,1,rfl,h⟩
  ·refine zk (Yt (Yn P2 ?_))
   refine Yw pv_ h fun b_ w1 h=> ?_
   refine Yf P2 [2,3] ?_
   exact YT2 ⟨(some ⟨b_,0,none⟩),0,rfl,h⟩

/-! ### (*towpath/disk.Disk).Read (function 57) -/

theorem S_zb {d:OA} {slot:Int} {w:World} {R:Slc→Int→WP} (h:F_0c d slot R w):C_tb d slot w R:=by
 unfold F_0c at h
 refine Yh Tryz.func57 ?_
 ·refine Yp P2 [0,1] (Ys (Yt (Yn P2 ?_)))
  refine Ym1 h fun v9 w1 h=> ?_
  refine Yf P1 [0,1,6] (Yp P2 [0,1,6,11] ?_)
  refine Yc h (fun h=> ?_) fun h=> ?_
  ·refine Yp P3 [4,5] ?_
   exact YT2 ⟨(Slc.mk none 0 0),v9,rfl,h⟩
  ·refine zk (Yt (Yn P2 ?_))
   refine Yv 13 h fun hp_0 h=> ?_
   refine Yn P1 (Yn P1 ?_)
   obtain⟨h0,h1,h⟩:=h
   refine zdb (t:=110) (e:=109) (x:=(Operand.tmp 16)) (ix:=(Operand.tmp 14)) (b:=(pblk d)) (o:=((poff d)+2)) (len:=2) (k:= .i64) (j:=slot) (ty:=0) (dst:=some 17) K_ K_ K_ K_ K_ h0 h1 ?_
   refine Yl h fun v18 h=> ?_
   refine Ym1 h fun v19 w2 h=> ?_
   refine Yf P2 [4,5] ?_
   exact YT2 ⟨v19,0,rfl,h⟩

/-! ### (*towpath/disk.Disk).look (function 93) -/

theorem S_Ab {d:OA} {slot:Int} {w:World} {R:Int→WP} (h:F_2c d slot R w):C_0b d slot w R:=by
 unfold F_2c at h
 refine Yh Tryz.func93 ?_
 ·refine Yp P1 [0,1] (Ys (Yd 0 ?_))
  refine Ycut (fun l w=>∃(t5:Bool),l=[(1,Vi slot),(5,Vo t5)]∧F_cb slot R t5 w) ?_ ?_
  ·refine Yr (Yn P1 ?_)
   refine zw (op:=(Op.binOp BinOp.eql 29 (Operand.tmp 6) (Operand.const (Vp none)) 29)) (ty:=4) (dst:=some 7) (Vo d.isNone) K_ (fun ww=>zy (p:=d) K_ K_ K_ ww) ?_
   refine Yn P2 ?_
   refine Yspl 8 h (fun h=> ?_) fun h=> ?_
   ·refine Yf [.skip,.skip,.skip,.skip,.plain,.plain] [1,5] ?_
    exact⟨_,Sub.mk K_,true,rfl,h⟩
   ·refine Yv 9 h fun hp_3 h=> ?_
    refine Yn [.sure] (Yn [.sure] ?_)
    refine Yl h fun v12 h=> ?_
    refine Yf [.sure,.plain,.plain] [1,5] ?_
    exact⟨_,Sub.mk K_,(!v12),rfl,h⟩
  ·rintro _ w1 ⟨t5,rfl,h⟩
   unfold F_cb at h
   refine Yc h (fun h=> ?_) fun h=> ?_
   ·refine Yp P1 [4] ?_
    exact YS ⟨2,rfl,h⟩
   ·refine Yp [.plain,.plain,.plain,.plain,.plain,.pick,.plain] [15] ?_
    refine Yc h (fun h=> ?_) fun h=> ?_
    ·refine Yp P1 [4] ?_
     exact YS ⟨1,rfl,h⟩
    ·refine zk (Yp P1 [4] ?_)
     exact YS ⟨0,rfl,h⟩
end
end Go.Proofs.YtofjmclceflgiaaGreat
