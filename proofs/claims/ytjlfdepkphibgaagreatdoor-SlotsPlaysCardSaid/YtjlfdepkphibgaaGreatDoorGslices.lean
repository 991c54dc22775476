/- WRITTEN BY PROGRAM (dec.py): for each Go function the clean formula F, the call's contract C, and the proof S that F gives C. -/
import Derived.Test.YtjlfdepkphibgaaGreatDoorRows
import Derived.Test.YtjlfdepkphibgaaGreatDoorGF
namespace Go.Proofs.YtjlfdepkphibgaaGreatDoor
open Go
set_option linter.unusedVariables false
set_option maxRecDepth 100000
set_option maxHeartbeats 4000000
noncomputable section

/-! ### slices.Clone[[]byte,byte] (function 93) -/

theorem S_qb {s:Slc} {w:World} {R:Slc→WP} (h:F_Bd s R w):C_w s w R:=by
 unfold F_Bd at h
 refine Yh Tryz.func93 ?_
 ·refine Yp P1 [0] (Ys (Yt (Yn P1 ?_)))
  refine zP (op:=(Op.binOp BinOp.eql 38 (Operand.tmp 3) (Operand.const (Value.slice none 0 0)) 38)) (ty:=4) (dst:=some 4) (Vo s.ptr.isNone) K_ (fun ww=>zmd (p:=s.ptr) (l:=s.len) (c:=s.cap) K_ K_ K_ ww) ?_
  refine Yf [] [0,4] ?_
  refine Yc h (fun h=> ?_) fun h=> ?_
  ·refine Yp P1 [2] ?_
   exact YS ⟨(Slc.mk none 0 0),rfl,h⟩
  ·refine zg (Yt ?_)
   refine Yw (sl_ 0 0) h fun b_ w1 h=> ?_
   refine Yn P1 ?_
   obtain⟨src,hs,h⟩:=h
   refine zH (t:=38) (tx:=38) (e:=5) (a:=(Operand.tmp 5)) (xo:=(Operand.tmp 6)) (s:=(Slc.mk (some ⟨b_,0,none⟩) 0 0)) (x:=s) (sz:=1) (by_:=1) (zs:=[Value.int .u8 0]) (ty:=38) (dst:=some 7)  src K_ K_ K_ K_ K_ K_ K_ K_ K_ hs (zj.mono h (fun v7 w2 h=> ?_))
   refine Yf P1 [2] ?_
   exact YS ⟨v7,rfl,h⟩

/-! ### slices.BinarySearch[[]int,int] (function 144) -/

theorem S_z {x:Slc} {target:Int} {w:World} {R:Int→Bool→WP} (h:F_uc x target R w):C_4 x target w R:=by
 unfold F_uc at h
 refine Yh Tryz.func144 ?_
 ·refine Yp P2 [0,1] (Yp P3 [0,1,6] (Yp P3 [0,1,6,7,8] (Ys (Yd 0 ?_))))
  obtain⟨I,μ,h0,hr⟩:=h
  refine zN (fun m l w=>∃(i:Int) (j:Int),l=[(0,sv_ x),(1,Vi target),(6,Vi ((x.len:Nat):Int)),(7,Vi i),(8,Vi j)]∧I i j w∧μ i j w=m) ⟨0,((x.len:Nat):Int),rfl,h0,rfl⟩ ?_
  rintro _ _ w1 ⟨i,j,rfl,hI,rfl⟩
  obtain⟨again_,again__h,h⟩:∃ again_:Int→Int→WP,(∀ i' j' w',again_ i' j' w'→I i' j' w'∧μ i' j' w'<μ i j w1)∧F_5 x target R again_ i j w1:=⟨_,fun _ _ _ h=>h,hr i j w1 hI⟩
  clear h0 hI
  unfold F_5 at h
  refine Ys (Yp P3 [0,1,6,7,8,15] ?_)
  refine Yc h (fun h=> ?_) fun h=> ?_
  ·refine zg (Yd 1 (Yp (Pl 7) [0,1,6,7,8,9] (Yt (Yn P2 ?_))))
   obtain⟨hp_3,h⟩:=h
   refine Yu 22 (fun pp=> .slice pp x.len x.cap) hp_3 ?_
   refine Yi1 h fun h=> ?_
   refine Yl h fun v25 h=> ?_
   refine Yn P1 ?_
   refine Ym1 h fun v27 w2 h=> ?_
   refine Yf [] [0,1,6,7,8,9,27] ?_
   refine Yc h (fun h=> ?_) fun h=> ?_
   ·refine Yr (Yf P3 [0,1,6,7,8] ?_)
    have hb_:=again__h _ _ _ h
    exact⟨_,hb_.2,_,Sub.mk K_,(IntKind.i64.wrap ((IntKind.i64.wrap (Int.fdiv (IntKind.u64.wrap (IntKind.i64.wrap (i+j))) (2 ^ 1)))+1)),j,rfl,hb_.1,rfl⟩
   ·refine Yr (Yf P2 [0,1,6,7,8] ?_)
    have hb_:=again__h _ _ _ h
    exact⟨_,hb_.2,_,Sub.mk K_,i,(IntKind.i64.wrap (Int.fdiv (IntKind.u64.wrap (IntKind.i64.wrap (i+j))) (2 ^ 1))),rfl,hb_.1,rfl⟩
  ·refine zM 0 (Yt (Yn (Pl 7) ?_))
   refine Yspl 35 h (fun h=> ?_) fun h=> ?_
   ·obtain⟨hp_4,h⟩:=h
    refine Yu 36 (fun pp=> .slice pp x.len x.cap) hp_4 ?_
    refine Yi1 h fun h=> ?_
    refine Yl h fun v39 h=> ?_
    refine Yn [.sure,.sure,.sure,.plain,.plain] ?_
    refine Yspl 42 h (fun h=> ?_) fun h=> ?_
    ·refine Yf [.skip,.skip,.skip,.skip,.skip,.skip,.skip,.sure,.plain,.plain,.plain] [4,5] ?_
     exact YT2 ⟨i,true,rfl,h⟩
    ·obtain⟨hp_5,h⟩:=h
     refine Yu 43 (fun pp=> .slice pp x.len x.cap) hp_5 ?_
     refine Yi1 h fun h=> ?_
     refine Yl h fun v46 h=> ?_
     refine Ym1 h fun v47 w3 h=> ?_
     refine Yn [.sure,.plain] ?_
     refine Yspl 48 h (fun h=> ?_) fun h=> ?_
     ·refine Ym1 h fun v50 w4 h=> ?_
      refine Yf [.sure,.sure,.plain,.plain,.plain] [4,5] ?_
      exact YT2 ⟨i,v50,rfl,h⟩
     ·refine Yf [.skip,.sure,.sure,.plain,.plain,.plain] [4,5] ?_
      exact YT2 ⟨i,false,rfl,h⟩
   ·refine Yf [.skip,.skip,.skip,.skip,.skip,.skip,.skip,.skip,.skip,.skip,.skip,.skip,.skip,.skip,.skip,.plain,.plain,.plain] [4,5] ?_
    exact YT2 ⟨i,false,rfl,h⟩

/-! ### slices.Clone[[]towpath/api.Version,towpath/api.Version] (function 175) -/

theorem S_c {s:Slc} {w:World} {R:Slc→WP} (h:F_kb s R w):C_m s w R:=by
 unfold F_kb at h
 refine Yh Tryz.func175 ?_
 ·refine Yp P1 [0] (Ys (Yt (Yn P1 ?_)))
  refine zP (op:=(Op.binOp BinOp.eql 126 (Operand.tmp 3) (Operand.const (Value.slice none 0 0)) 126)) (ty:=4) (dst:=some 4) (Vo s.ptr.isNone) K_ (fun ww=>zmd (p:=s.ptr) (l:=s.len) (c:=s.cap) K_ K_ K_ ww) ?_
  refine Yf [] [0,4] ?_
  refine Yc h (fun h=> ?_) fun h=> ?_
  ·refine Yp P1 [2] ?_
   exact YS ⟨(Slc.mk none 0 0),rfl,h⟩
  ·refine zg (Yt ?_)
   refine Yw (sl_ 0 0) h fun b_ w1 h=> ?_
   refine Yn P1 ?_
   obtain⟨src,hs,h⟩:=h
   refine zH (t:=126) (tx:=126) (e:=130) (a:=(Operand.tmp 5)) (xo:=(Operand.tmp 6)) (s:=(Slc.mk (some ⟨b_,0,none⟩) 0 0)) (x:=s) (sz:=3) (by_:=32) (zs:=[Vi 0,Value.string ByteArray.empty,Vo false]) (ty:=126) (dst:=some 7)  src K_ K_ K_ K_ K_ K_ K_ K_ K_ hs (zj.mono h (fun v7 w2 h=> ?_))
   refine Yf P1 [2] ?_
   exact YS ⟨v7,rfl,h⟩

/-! ### slices.isNaN[int] (function 177) -/

theorem S_jc {x:Int} {w:World} {R:Bool→WP} (h:F_we x R w):C_tc x w R:=by
 unfold F_we at h
 refine Yh Tryz.func177 ?_
 ·refine Yp P1 [0] (Yp P4 [2] ?_)
  exact YS ⟨(x != x),rfl,h⟩
end
end Go.Proofs.YtjlfdepkphibgaaGreatDoor
