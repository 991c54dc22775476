/- WRITTEN BY PROGRAM (dec.py): for each Go function the clean formula F, the call's contract C, and the proof S that F gives C. -/
import Derived.Test.YtofjmclceflgiaaGreatRows
import Derived.Test.YtofjmclceflgiaaGreatGF
namespace Go.Proofs.YtofjmclceflgiaaGreat
open Go
set_option linter.unusedVariables false
set_option maxRecDepth 100000
set_option maxHeartbeats 4000000
noncomputable section

/-! ### slices.Clone[[]towpath/api.Write,towpath/api.Write] (function 56) -/

theorem S_i {s:Slc} {w:World} {R:Slc→WP} (h:F_M s R w):C_l s w R:=by
 unfold F_M at h
 refine Yh Tryz.func56 ?_
 ·refine Yp P1 [0] (Ys (Yt (Yn P1 ?_)))
  refine zw (op:=(Op.binOp BinOp.eql 70 (Operand.tmp 3) (Operand.const (Value.slice none 0 0)) 70)) (ty:=4) (dst:=some 4) (Vo s.ptr.isNone) K_ (fun ww=>zfb (p:=s.ptr) (l:=s.len) (c:=s.cap) K_ K_ K_ ww) ?_
  refine Yf [] [0,4] ?_
  refine Yc h (fun h=> ?_) fun h=> ?_
  ·refine Yp P1 [2] ?_
   exact YS ⟨(Slc.mk none 0 0),rfl,h⟩
  ·refine zk (Yt ?_)
   refine Yw (sl_ 0 0) h fun b_ w1 h=> ?_
   refine Yn P1 ?_
   obtain⟨src,hs,h⟩:=h
   refine zC (t:=70) (tx:=70) (e:=69) (a:=(Operand.tmp 5)) (xo:=(Operand.tmp 6)) (s:=(Slc.mk (some ⟨b_,0,none⟩) 0 0)) (x:=s) (sz:=3) (by_:=40) (zs:=[Value.string ByteArray.empty,Value.string ByteArray.empty,Vo false]) (ty:=70) (dst:=some 7)  src K_ K_ K_ K_ K_ K_ K_ K_ K_ hs (zo.mono h (fun v7 w2 h=> ?_))
   refine Yf P1 [2] ?_
   exact YS ⟨v7,rfl,h⟩

/-! ### slices.Clone[[]towpath/api.Version,towpath/api.Version] (function 63) -/

theorem S_g {s:Slc} {w:World} {R:Slc→WP} (h:F_C s R w):C_a s w R:=by
 unfold F_C at h
 refine Yh Tryz.func63 ?_
 ·refine Yp P1 [0] (Ys (Yt (Yn P1 ?_)))
  refine zw (op:=(Op.binOp BinOp.eql 87 (Operand.tmp 3) (Operand.const (Value.slice none 0 0)) 87)) (ty:=4) (dst:=some 4) (Vo s.ptr.isNone) K_ (fun ww=>zfb (p:=s.ptr) (l:=s.len) (c:=s.cap) K_ K_ K_ ww) ?_
  refine Yf [] [0,4] ?_
  refine Yc h (fun h=> ?_) fun h=> ?_
  ·refine Yp P1 [2] ?_
   exact YS ⟨(Slc.mk none 0 0),rfl,h⟩
  ·refine zk (Yt ?_)
   refine Yw (sl_ 0 0) h fun b_ w1 h=> ?_
   refine Yn P1 ?_
   obtain⟨src,hs,h⟩:=h
   refine zC (t:=87) (tx:=87) (e:=92) (a:=(Operand.tmp 5)) (xo:=(Operand.tmp 6)) (s:=(Slc.mk (some ⟨b_,0,none⟩) 0 0)) (x:=s) (sz:=3) (by_:=32) (zs:=[Vi 0,Value.string ByteArray.empty,Vo false]) (ty:=87) (dst:=some 7)  src K_ K_ K_ K_ K_ K_ K_ K_ K_ hs (zo.mono h (fun v7 w2 h=> ?_))
   refine Yf P1 [2] ?_
   exact YS ⟨v7,rfl,h⟩

/-! ### slices.Clone[[]byte,byte] (function 94) -/

theorem S_n {s:Slc} {w:World} {R:Slc→WP} (h:F_Cc s R w):C_fb s w R:=by
 unfold F_Cc at h
 refine Yh Tryz.func94 ?_
 ·refine Yp P1 [0] (Ys (Yt (Yn P1 ?_)))
  refine zw (op:=(Op.binOp BinOp.eql 109 (Operand.tmp 3) (Operand.const (Value.slice none 0 0)) 109)) (ty:=4) (dst:=some 4) (Vo s.ptr.isNone) K_ (fun ww=>zfb (p:=s.ptr) (l:=s.len) (c:=s.cap) K_ K_ K_ ww) ?_
  refine Yf [] [0,4] ?_
  refine Yc h (fun h=> ?_) fun h=> ?_
  ·refine Yp P1 [2] ?_
   exact YS ⟨(Slc.mk none 0 0),rfl,h⟩
  ·refine zk (Yt ?_)
   refine Yw (sl_ 0 0) h fun b_ w1 h=> ?_
   refine Yn P1 ?_
   obtain⟨src,hs,h⟩:=h
   refine zC (t:=109) (tx:=109) (e:=5) (a:=(Operand.tmp 5)) (xo:=(Operand.tmp 6)) (s:=(Slc.mk (some ⟨b_,0,none⟩) 0 0)) (x:=s) (sz:=1) (by_:=1) (zs:=[Value.int .u8 0]) (ty:=109) (dst:=some 7)  src K_ K_ K_ K_ K_ K_ K_ K_ K_ hs (zo.mono h (fun v7 w2 h=> ?_))
   refine Yf P1 [2] ?_
   exact YS ⟨v7,rfl,h⟩

/-! ### slices.Clone[[]int,int] (function 103) -/

theorem S_y {s:Slc} {w:World} {R:Slc→WP} (h:F_Vb s R w):C_pb s w R:=by
 unfold F_Vb at h
 refine Yh Tryz.func103 ?_
 ·refine Yp P1 [0] (Ys (Yt (Yn P1 ?_)))
  refine zw (op:=(Op.binOp BinOp.eql 25 (Operand.tmp 3) (Operand.const (Value.slice none 0 0)) 25)) (ty:=4) (dst:=some 4) (Vo s.ptr.isNone) K_ (fun ww=>zfb (p:=s.ptr) (l:=s.len) (c:=s.cap) K_ K_ K_ ww) ?_
  refine Yf [] [0,4] ?_
  refine Yc h (fun h=> ?_) fun h=> ?_
  ·refine Yp P1 [2] ?_
   exact YS ⟨(Slc.mk none 0 0),rfl,h⟩
  ·refine zk (Yt ?_)
   refine Yw (sl_ 0 0) h fun b_ w1 h=> ?_
   refine Yn P1 ?_
   obtain⟨src,hs,h⟩:=h
   refine zC (t:=25) (tx:=25) (e:=3) (a:=(Operand.tmp 5)) (xo:=(Operand.tmp 6)) (s:=(Slc.mk (some ⟨b_,0,none⟩) 0 0)) (x:=s) (sz:=1) (by_:=8) (zs:=[Vi 0]) (ty:=25) (dst:=some 7)  src K_ K_ K_ K_ K_ K_ K_ K_ K_ hs (zo.mono h (fun v7 w2 h=> ?_))
   refine Yf P1 [2] ?_
   exact YS ⟨v7,rfl,h⟩

/-! ### slices.ContainsFunc[[]towpath/api.Write,towpath/api.Write] (function 114) -/

theorem S_a {s:Slc} {f:Value} {w:World} {R:Bool→WP} (h:F_7 s f R w):C_b s f w R:=by
 unfold F_7 at h
 refine Yh Tryz.func114 ?_
 ·refine Yp P1 [0,1] (Yt (Yn P2 ?_))
  refine Ym1 h fun v7 w1 h=> ?_
  refine Yf P2 [4] ?_
  exact YS ⟨(decide (v7≥0)),rfl,h⟩

/-! ### slices.IndexFunc[[]towpath/api.Write,towpath/api.Write] (function 140) -/

theorem S_b {s:Slc} {f:Value} {w:World} {R:Int→WP} (h:F_db s f R w):C_x s f w R:=by
 unfold F_db at h
 refine Yh Tryz.func140 ?_
 ·refine Yp P1 [0,1] (Ys (Yp P3 [0,1,7,8] (Yd 0 ?_)))
  obtain⟨I,μ,h0,hr⟩:=h
  refine znb (fun m l w=>∃(t8:Int),l=[(0,sv_ s),(1,f),(7,Vi ((s.len:Nat):Int)),(8,Vi t8)]∧I t8 w∧μ t8 w=m) ⟨0,rfl,h0,rfl⟩ ?_
  rintro _ _ w1 ⟨t8,rfl,hI,rfl⟩
  obtain⟨again_,again__h,h⟩:∃ again_:Int→WP,(∀ t8' w',again_ t8' w'→I t8' w'∧μ t8' w'<μ t8 w1)∧F_f s f R again_ t8 w1:=⟨_,fun _ _ h=>h,hr t8 w1 hI⟩
  clear h0 hI
  unfold F_f at h
  refine Yp P1 [0,1,7,8,9] (Ys ?_)
  refine Yc h (fun h=> ?_) fun h=> ?_
  ·refine zk (Ys (Yd 1 (Yp P2 [0,1,5,7,8] (Yt (Yn P3 ?_)))))
   obtain⟨hp_7,h⟩:=h
   refine Yu 12 (fun pp=> .slice pp s.len s.cap) hp_7 ?_
   refine Yi h fun h=> ?_
   refine YL h fun v15 h=> ?_
   refine zed (fo:=(Operand.tmp 11)) (aa:=#[(Operand.tmp 15)]) (ts:=#[69]) (fv:=f) (ty:=4) (dst:=some 16) #[Value.agg #[Value.string v15.Key,Value.string v15.Val,Vo v15.Drop]] K_ K_ K_ (zbb.mono h ?_)
   rintro _ w2 ⟨v16,rfl,h⟩
   refine⟨_,rfl,?_⟩
   refine Yf [] [0,1,5,7,8,16] ?_
   refine Yc h (fun h=> ?_) fun h=> ?_
   ·refine Yp P2 [4] ?_
    exact YS ⟨t8,rfl,h⟩
   ·refine zk (Yr (Yf P2 [0,1,7,8] ?_))
    have hb_:=again__h _ _ h
    exact⟨_,hb_.2,_,Sub.mk K_,(IntKind.i64.wrap (t8+1)),rfl,hb_.1,rfl⟩
  ·refine z3 0 (Yp P1 [4] ?_)
   exact YS ⟨(-1),rfl,h⟩

/-! ### slices.Insert[[]towpath/api.Version,towpath/api.Version] (function 272) -/
def zOs:=cb_ Tryz.f272
def zPs:=cr_ zOs
def zQs:=cr_ zPs
def zRs:=cr_ zQs
def zyo:=cr_ zRs
def zzo:=cr_ zyo
def zPk:=cr_ zzo
def zAo:=cl_ zPk
def zBo:=cr_ zAo
def zCo:=cl_ zBo
def zDo:=cr_ zCo
def zEo:=cr_ zDo
def zFo:=cl_ zEo
def zGo:=co_ zFo
def zHo:=cr_ zPk
def zIo:=cr_ zHo
def zJo:=cl_ zIo
def zKo:=cr_ zJo
def zLo:=cl_ zKo
def zMo:=cl_ zLo
def zNo:=co_ zMo

theorem S_f {s:Slc} {i:Int} {v:Slc} {w:World} {R:Slc→WP} (h:F_B s i v R w):C_e s i v w R:=by
 unfold F_B at h
 refine Yh Tryz.func272 ?_
 ·refine Yp P1 [0,1,2] (Yt (Yn P2 ?_))
  obtain⟨hc,h⟩:=h
  refine zAb (t:=87) (e:=92) (x:=(Operand.tmp 10)) (lo:=(Operand.tmp 11)) (s:=s) (sz:=3) (k:= .i64) (a:=i) (ty:=87) (dst:=some 12) K_ K_ K_ K_ K_ hc (fun s1 hs=> ?_)
  replace h:=h s1 hs
  clear hs
  refine Yf [] [0,1,2] (Yp P3 [0,1,2,7] (Ys (Yp P2 [0,1,2,7,16] ?_)))
  refine Yc h (fun h=> ?_) fun h=> ?_
  ·refine Yp P2 [6] ?_
   exact YS ⟨s,rfl,h⟩
  ·refine zk (Yp P3 [0,1,2,7,8] (Ys (Yp P3 [0,1,2,7,8,22] ?_)))
   refine Yc h (fun h=> ?_) fun h=> ?_
   ·refine Yt (Yn P2 ?_)
    obtain⟨src,hs,h⟩:=h
    refine zC (t:=87) (tx:=87) (e:=92) (a:=(Operand.tmp 23)) (xo:=(Operand.tmp 24)) (s:=s) (x:=v) (sz:=3) (by_:=32) (zs:=[Vi 0,Value.string ByteArray.empty,Vo false]) (ty:=87) (dst:=some 25)  src K_ K_ K_ K_ K_ K_ K_ K_ K_ hs (zo.mono h (fun v25 w1 h=> ?_))
    refine Yf P1 [6] ?_
    exact YS ⟨v25,rfl,h⟩
   ·refine zk (Ys (Yp (Pl 6) [0,1,2,7,8,31] ?_))
    refine Yc h (fun h=> ?_) fun h=> ?_
    ·refine Yt (Yn P2 ?_)
     obtain⟨h0,h1,h⟩:=h
     refine zIc (t:=87) (e:=92) (x:=(Operand.tmp 32)) (hi:=(Operand.tmp 33)) (p:=s.ptr) (l:=s.len) (c:=s.cap) (sz:=3) (k:= .i64) (j:=i) (ty:=87) (dst:=some 34) K_ K_ K_ K_ K_ h0 h1 ?_
     refine Yn (Pl 5) ?_
     obtain⟨h0,h1,h⟩:=h
     refine zci (t:=87) (tx:=3) (e:=92) (a:=(Operand.tmp 34)) (xo:=(Operand.tmp 39)) (s:=(Slc.mk s.ptr i.toNat s.cap)) (l:=(IntKind.i64.wrap ((IntKind.i64.wrap (((s.len:Nat):Int)+((v.len:Nat):Int))) - i))) (sz:=3) (by_:=32) (zs:=[Vi 0,Value.string ByteArray.empty,Vo false]) (ty:=87) (dst:=some 40)  K_ K_ K_ K_ K_ K_ K_ K_ K_ K_ h0 h1 (zo.mono h (fun s2 w2 h=> ?_))
     refine Yf P1 [0,1,2,7,9] (Yt (Yn P2 ?_))
     obtain⟨hc,h⟩:=h
     refine zAb (t:=87) (e:=92) (x:=(Operand.tmp 41)) (lo:=(Operand.tmp 42)) (s:=s2) (sz:=3) (k:= .i64) (a:=i) (ty:=87) (dst:=some 43) K_ K_ K_ K_ K_ hc (fun s3 hs=> ?_)
     replace h:=h s3 hs
     clear hs
     refine Yn P1 ?_
     obtain⟨src,hs,h⟩:=h
     refine zRd (t:=87) (tx:=87) (e:=92) (a:=(Operand.tmp 43)) (xo:=(Operand.tmp 44)) (d:=s3) (x:=v) (sz:=3) (ty:=3) (dst:=some 45)  src K_ K_ K_ K_ K_ hs (zhd.mono h (fun w3 h=> ?_))
     refine Yf [] [0,1,7,9] (Ys ?_)
     refine zn (id:=11) (ops:=zGo) K_ 8 K_ K_ (fun w4 hw=> ?_)
     replace h:=h w4 hw
     clear hw
     refine Qn P4 ?_
     obtain⟨hc,h⟩:=h
     refine zXb (t:=87) (e:=92) (x:=(Operand.tmp 46)) (lo:=(Operand.tmp 49)) (s:=s2) (sz:=3) (k:= .i64) (a:=(IntKind.i64.wrap (i+((v.len:Nat):Int)))) (ty:=87) (dst:=some 50) K_ K_ K_ K_ K_ hc (fun s4 hs=> ?_)
     replace h:=h s4 hs
     clear hs
     refine Qn P2 ?_
     obtain⟨hc,h⟩:=h
     refine zXb (t:=87) (e:=92) (x:=(Operand.tmp 51)) (lo:=(Operand.tmp 52)) (s:=s) (sz:=3) (k:= .i64) (a:=i) (ty:=87) (dst:=some 53) K_ K_ K_ K_ K_ hc (fun s5 hs=> ?_)
     replace h:=h s5 hs
     clear hs
     refine zD K_ ?_
     obtain⟨src,hs,h⟩:=h
     refine zRd (t:=87) (tx:=87) (e:=92) (a:=(Operand.tmp 50)) (xo:=(Operand.tmp 53)) (d:=s4) (x:=s5) (sz:=3) (ty:=3) (dst:=some 54)  src K_ K_ K_ K_ K_ hs (zhd.mono h (fun w5 h=> ?_))
     refine Yf [] [9] (Yp P2 [6] ?_)
     exact YS ⟨s2,rfl,h⟩
    ·refine zk (Yt (Yn P4 ?_))
     obtain⟨h0,h1,h⟩:=h
     refine zIc (t:=87) (e:=92) (x:=(Operand.tmp 56)) (hi:=(Operand.tmp 59)) (p:=s.ptr) (l:=s.len) (c:=s.cap) (sz:=3) (k:= .i64) (j:=(IntKind.i64.wrap (((s.len:Nat):Int)+((v.len:Nat):Int)))) (ty:=87) (dst:=some 60) K_ K_ K_ K_ K_ h0 h1 ?_
     refine Yf P1 [0,1,2,7,8] (Ys (Yt (Yn (Pl 5) ?_)))
     obtain⟨hc,h⟩:=h
     refine zAb (t:=87) (e:=92) (x:=(Operand.tmp 62)) (lo:=(Operand.tmp 65)) (s:=(Slc.mk s.ptr ((IntKind.i64.wrap (((s.len:Nat):Int)+((v.len:Nat):Int))).toNat) s.cap)) (sz:=3) (k:= .i64) (a:=(IntKind.i64.wrap (i+((v.len:Nat):Int)))) (ty:=87) (dst:=some 66) K_ K_ K_ K_ K_ hc (fun s6 hs=> ?_)
     replace h:=h s6 hs
     clear hs
     obtain⟨hov,h⟩:=h
     refine zAh (fo:=(Operand.func 276)) (a:=(Operand.tmp 61)) (b:=(Operand.tmp 66)) (ts:=#[87,87]) 276 (x:=v) (y:=s6) (tS:=87) (tR:=4) (e:=92) (sz:=3) (ty:=4) (dst:=some 67) K_ K_ K_ K_ Tryz.func276 K_ K_ K_ K_ K_ K_ hov ?_
     clear hov
     refine Yf P1 [0,1,2,7,8,68] ?_
     refine Yc h (fun h=> ?_) fun h=> ?_
     ·refine Ys ?_
      refine zn (id:=15) (ops:=zNo) K_ 8 K_ K_ (fun w6 hw=> ?_)
      replace h:=h w6 hw
      clear hw
      refine Qn P4 ?_
      obtain⟨hc,h⟩:=h
      refine zXb (t:=87) (e:=92) (x:=(Operand.tmp 69)) (lo:=(Operand.tmp 72)) (s:=(Slc.mk s.ptr ((IntKind.i64.wrap (((s.len:Nat):Int)+((v.len:Nat):Int))).toNat) s.cap)) (sz:=3) (k:= .i64) (a:=(IntKind.i64.wrap (i+((v.len:Nat):Int)))) (ty:=87) (dst:=some 73) K_ K_ K_ K_ K_ hc (fun s7 hs=> ?_)
      replace h:=h s7 hs
      clear hs
      refine Qn P2 ?_
      obtain⟨hc,h⟩:=h
      refine zXb (t:=87) (e:=92) (x:=(Operand.tmp 74)) (lo:=(Operand.tmp 75)) (s:=(Slc.mk s.ptr ((IntKind.i64.wrap (((s.len:Nat):Int)+((v.len:Nat):Int))).toNat) s.cap)) (sz:=3) (k:= .i64) (a:=i) (ty:=87) (dst:=some 76) K_ K_ K_ K_ K_ hc (fun s8 hs=> ?_)
      replace h:=h s8 hs
      clear hs
      refine zD K_ ?_
      obtain⟨src,hs,h⟩:=h
      refine zRd (t:=87) (tx:=87) (e:=92) (a:=(Operand.tmp 73)) (xo:=(Operand.tmp 76)) (d:=s7) (x:=s8) (sz:=3) (ty:=3) (dst:=some 77)  src K_ K_ K_ K_ K_ hs (zhd.mono h (fun w7 h=> ?_))
      refine Yf [] [0,1,2] (Yt (Yn P2 ?_))
      obtain⟨hc,h⟩:=h
      refine zAb (t:=87) (e:=92) (x:=(Operand.tmp 78)) (lo:=(Operand.tmp 79)) (s:=(Slc.mk s.ptr ((IntKind.i64.wrap (((s.len:Nat):Int)+((v.len:Nat):Int))).toNat) s.cap)) (sz:=3) (k:= .i64) (a:=i) (ty:=87) (dst:=some 80) K_ K_ K_ K_ K_ hc (fun s9 hs=> ?_)
      replace h:=h s9 hs
      clear hs
      refine Yn P1 ?_
      obtain⟨src,hs,h⟩:=h
      refine zRd (t:=87) (tx:=87) (e:=92) (a:=(Operand.tmp 80)) (xo:=(Operand.tmp 81)) (d:=s9) (x:=v) (sz:=3) (ty:=3) (dst:=some 82)  src K_ K_ K_ K_ K_ hs (zhd.mono h (fun w8 h=> ?_))
      refine Yf [] [0] (Yp P2 [6] ?_)
      exact YS ⟨(Slc.mk s.ptr ((IntKind.i64.wrap (((s.len:Nat):Int)+((v.len:Nat):Int))).toNat) s.cap),rfl,h⟩
     ·refine zk (Yt (Yn P2 ?_))
      obtain⟨hc,h⟩:=h
      refine zAb (t:=87) (e:=92) (x:=(Operand.tmp 84)) (lo:=(Operand.tmp 85)) (s:=(Slc.mk s.ptr ((IntKind.i64.wrap (((s.len:Nat):Int)+((v.len:Nat):Int))).toNat) s.cap)) (sz:=3) (k:= .i64) (a:=((s.len:Nat):Int)) (ty:=87) (dst:=some 86) K_ K_ K_ K_ K_ hc (fun s10 hs=> ?_)
      replace h:=h s10 hs
      clear hs
      refine Yn P1 ?_
      obtain⟨src,hs,h⟩:=h
      refine zRd (t:=87) (tx:=87) (e:=92) (a:=(Operand.tmp 86)) (xo:=(Operand.tmp 87)) (d:=s10) (x:=v) (sz:=3) (ty:=3) (dst:=some 88)  src K_ K_ K_ K_ K_ hs (zhd.mono h (fun w9 h=> ?_))
      refine Yf [] [0,1,7] (Yt (Yn P2 ?_))
      obtain⟨hc,h⟩:=h
      refine zAb (t:=87) (e:=92) (x:=(Operand.tmp 89)) (lo:=(Operand.tmp 90)) (s:=(Slc.mk s.ptr ((IntKind.i64.wrap (((s.len:Nat):Int)+((v.len:Nat):Int))).toNat) s.cap)) (sz:=3) (k:= .i64) (a:=i) (ty:=87) (dst:=some 91) K_ K_ K_ K_ K_ hc (fun s11 hs=> ?_)
      replace h:=h s11 hs
      clear hs
      refine Yn P1 ?_
      refine Ym0 h fun w10 h=> ?_
      refine Yf [] [0] (Yp P2 [6] ?_)
      exact YS ⟨(Slc.mk s.ptr ((IntKind.i64.wrap (((s.len:Nat):Int)+((v.len:Nat):Int))).toNat) s.cap),rfl,h⟩
end
end Go.Proofs.YtofjmclceflgiaaGreat
