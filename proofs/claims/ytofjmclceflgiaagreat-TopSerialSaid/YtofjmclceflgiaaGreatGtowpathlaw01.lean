/- WRITTEN BY PROGRAM (dec.py): for each Go function the clean formula F, the call's contract C, and the proof S that F gives C. -/
import Derived.Test.YtofjmclceflgiaaGreatRows
import Derived.Test.YtofjmclceflgiaaGreatGF
namespace Go.Proofs.YtofjmclceflgiaaGreat
open Go
set_option linter.unusedVariables false
set_option maxRecDepth 100000
set_option maxHeartbeats 4000000
noncomputable section

/-! ### towpath/towpathlaw01.SameEntries (function 12) -/
def zww:=cb_ Tryz.f12
def zxw:=cr_ zww
def zMv:=cr_ zxw
def zNv:=cl_ zMv
def zOv:=cr_ zNv
def zPv:=cl_ zOv
def zQv:=cl_ zPv
def zRv:=cr_ zQv
def zSv:=cl_ zRv
def zTv:=cl_ zSv
def zUv:=cl_ zTv
def zVv:=co_ zUv

theorem S_l {a_:Slc} {b_:Slc} {w:World} {R:Bool→WP} (h:F_mb a_ b_ R w):C_H a_ b_ w R:=by
 unfold F_mb at h
 refine Yh Tryz.func12 ?_
 ·refine Yp P1 [0,1] (Ys (Yp (Pl 5) [0,1,10] ?_))
  refine Yc h (fun h=> ?_) fun h=> ?_
  ·refine Yp P1 [4] ?_
   exact YS ⟨false,rfl,h⟩
  ·refine zk (Ys (Yp P1 [0,1,5] (Yd 0 ?_)))
   obtain⟨I,μ,h0,hr⟩:=h
   refine znb (fun m l w=>∃(i:Int),l=[(0,sv_ a_),(1,sv_ b_),(5,Vi i)]∧I i w∧μ i w=m) ⟨0,rfl,h0,rfl⟩ ?_
   rintro _ _ w1 ⟨i,rfl,hI,rfl⟩
   obtain⟨again_,again__h,h⟩:∃ again_:Int→WP,(∀ i' w',again_ i' w'→I i' w'∧μ i' w'<μ i w1)∧F_F a_ b_ R again_ i w1:=⟨_,fun _ _ h=>h,hr i w1 hI⟩
   clear h0 hI
   unfold F_F at h
   refine Ys (Yp P4 [0,1,5,14] ?_)
   refine Yc h (fun h=> ?_) fun h=> ?_
   ·refine zk (Ys (Yd 1 (Ys ?_)))
    refine zv (id:=6) (ops:=zVv) K_ K_ K_ ?_
    refine Qn P2 ?_
    obtain⟨hp_14,h⟩:=h
    refine Qu 17 (fun pp=> .slice pp a_.len a_.cap) hp_14 ?_
    refine Qi h fun h=> ?_
    refine QL h fun v20 h=> ?_
    refine Qn P2 ?_
    obtain⟨hp_15,h⟩:=h
    refine Qu 21 (fun pp=> .slice pp b_.len b_.cap) hp_15 ?_
    refine Qi h fun h=> ?_
    refine QL h fun v24 h=> ?_
    refine zbd (op:=(Op.binOp BinOp.neq 74 (Operand.tmp 20) (Operand.tmp 24) 74)) (ty:=4) (dst:=some 25) (Vo (!((v20.Key==v24.Key)&&(v20.Val==v24.Val)))) K_ (fun ww=>zpf (xs:=[Value.string v20.Key,Value.string v20.Val]) (ys:=[Value.string v24.Key,Value.string v24.Val]) K_ K_ K_ K_ K_ ww) ?_
    refine Qf [] [0,1,5,25] h fun w2 h=> ?_
    refine Yc h (fun h=> ?_) fun h=> ?_
    ·refine Yp P1 [4] ?_
     exact YS ⟨false,rfl,h⟩
    ·refine zk (Yr (Yf P3 [0,1,5] ?_))
     have hb_:=again__h _ _ h
     exact⟨_,hb_.2,_,Sub.mk K_,(IntKind.i64.wrap (i+1)),rfl,hb_.1,rfl⟩
   ·refine z3 0 (Yp P1 [4] ?_)
    exact YS ⟨true,rfl,h⟩
end
end Go.Proofs.YtofjmclceflgiaaGreat
