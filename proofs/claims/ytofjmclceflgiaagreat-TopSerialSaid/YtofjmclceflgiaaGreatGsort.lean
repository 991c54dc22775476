/- WRITTEN BY PROGRAM (dec.py): for each Go function the clean formula F, the call's contract C, and the proof S that F gives C. -/
import Derived.Test.YtofjmclceflgiaaGreatRows
import Derived.Test.YtofjmclceflgiaaGreatGF
namespace Go.Proofs.YtofjmclceflgiaaGreat
open Go
set_option linter.unusedVariables false
set_option maxRecDepth 100000
set_option maxHeartbeats 4000000
noncomputable section

/-! ### sort.Search (function 274) -/

theorem S_Mb {n_:Int} {f:Value} {w:World} {R:Int→WP} (h:F_qd n_ f R w):C_gc n_ f w R:=by
 unfold F_qd at h
 refine Yh Tryz.func274 ?_
 ·refine Yp P1 [0,1] (Yp P3 [1,5,6] (Ys (Yd 0 ?_)))
  obtain⟨I,μ,h0,hr⟩:=h
  refine znb (fun m l w=>∃(i:Int) (j:Int),l=[(1,f),(5,Vi i),(6,Vi j)]∧I i j w∧μ i j w=m) ⟨0,n_,rfl,h0,rfl⟩ ?_
  rintro _ _ w1 ⟨i,j,rfl,hI,rfl⟩
  obtain⟨again_,again__h,h⟩:∃ again_:Int→Int→WP,(∀ i' j' w',again_ i' j' w'→I i' j' w'∧μ i' j' w'<μ i j w1)∧F_kc f R again_ i j w1:=⟨_,fun _ _ _ h=>h,hr i j w1 hI⟩
  clear h0 hI
  unfold F_kc at h
  refine Ys (Yp P3 [1,5,6,11] ?_)
  refine Yc h (fun h=> ?_) fun h=> ?_
  ·refine zk (Yd 1 (Yp (Pl 7) [1,5,6,7] (Yt (Yn P2 ?_))))
   refine zed (fo:=(Operand.tmp 18)) (aa:=#[(Operand.tmp 19)]) (ts:=#[3]) (fv:=f) (ty:=4) (dst:=some 20) #[Vi (IntKind.i64.wrap (Int.fdiv (IntKind.u64.wrap (IntKind.i64.wrap (i+j))) (2 ^ 1)))] K_ K_ K_ (zbb.mono h ?_)
   rintro _ w2 ⟨v20,rfl,h⟩
   refine⟨_,rfl,?_⟩
   refine Yf P1 [1,5,6,7,21] ?_
   refine Yc h (fun h=> ?_) fun h=> ?_
   ·refine Yr (Yf P3 [1,5,6] ?_)
    have hb_:=again__h _ _ _ h
    exact⟨_,hb_.2,_,Sub.mk K_,(IntKind.i64.wrap ((IntKind.i64.wrap (Int.fdiv (IntKind.u64.wrap (IntKind.i64.wrap (i+j))) (2 ^ 1)))+1)),j,rfl,hb_.1,rfl⟩
   ·refine Yr (Yf P2 [1,5,6] ?_)
    have hb_:=again__h _ _ _ h
    exact⟨_,hb_.2,_,Sub.mk K_,i,(IntKind.i64.wrap (Int.fdiv (IntKind.u64.wrap (IntKind.i64.wrap (i+j))) (2 ^ 1))),rfl,hb_.1,rfl⟩
  ·refine z3 0 (Yp P2 [4] ?_)
   exact YS ⟨i,rfl,h⟩
end
end Go.Proofs.YtofjmclceflgiaaGreat
