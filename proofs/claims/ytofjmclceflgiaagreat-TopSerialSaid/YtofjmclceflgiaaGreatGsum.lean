/- WRITTEN BY PROGRAM (dec.py): for each Go function the clean formula F, the call's contract C, and the proof S that F gives C. -/
import Derived.Test.YtofjmclceflgiaaGreatRows
import Derived.Test.YtofjmclceflgiaaGreatGF
namespace Go.Proofs.YtofjmclceflgiaaGreat
open Go
set_option linter.unusedVariables false
set_option maxRecDepth 100000
set_option maxHeartbeats 4000000
noncomputable section

/-! ### towpath/sum.Hash (function 98) -/

theorem S_4b {key:ByteArray} {w:World} {R:Int→WP} (h:F_Od key R w):C_fc key w R:=by
 unfold F_Od at h
 refine Yh Tryz.func98 ?_
 ·refine Yp P1 [0] (Yp P1 [0,3] (Ys (Yp P3 [0,3,6,7] (Yd 0 ?_))))
  obtain⟨I,μ,h0,hr⟩:=h
  refine znb (fun m l w=>∃(h_:Int) (t7:Int),l=[(0,Value.string key),(3,Value.int .u32 h_),(6,Vi ((key.size:Nat):Int)),(7,Vi t7)]∧I h_ t7 w∧μ h_ t7 w=m) ⟨2166136261,0,rfl,h0,rfl⟩ ?_
  rintro _ _ w1 ⟨h_,t7,rfl,hI,rfl⟩
  obtain⟨again_,again__h,h⟩:∃ again_:Int→Int→WP,(∀ h_' t7' w',again_ h_' t7' w'→I h_' t7' w'∧μ h_' t7' w'<μ h_ t7 w1)∧F_Wc key R again_ h_ t7 w1:=⟨_,fun _ _ _ h=>h,hr h_ t7 w1 hI⟩
  clear h0 hI
  unfold F_Wc at h
  refine Yp P1 [0,3,6,7,8] (Ys ?_)
  refine Yc h (fun h=> ?_) fun h=> ?_
  ·refine zk (Ys (Yd 1 (Yp P2 [0,3,4,6,7] (Yt (Yn P3 ?_)))))
   obtain⟨h0,h1,h⟩:=h
   refine zoh (t:=9) (x:=(Operand.tmp 11)) (ix:=(Operand.tmp 12)) (s:=key) (k:= .i64) (j:=t7) (ty:=5) (dst:=some 13) K_ K_ K_ K_ h0 h1 ?_
   refine Yf P3 [0,3,6,7] (Yr (Yf P3 [0,3,6,7] (Yr (Yf P2 [0,3,6,7] ?_))))
   have hb_:=again__h _ _ _ h
   exact⟨_,hb_.2,_,Sub.mk K_,(IntKind.u32.wrap ((bxor .u32 h_ (IntKind.u32.wrap (zie key t7)))*16777619)),(IntKind.i64.wrap (t7+1)),rfl,hb_.1,rfl⟩
  ·refine z3 0 (Yp P2 [2] ?_)
   exact YS ⟨h_,rfl,h⟩
end
end Go.Proofs.YtofjmclceflgiaaGreat
