/- WRITTEN BY PROGRAM (dec.py): for each Go function the clean formula F, the call's contract C, and the proof S that F gives C. -/
import Derived.Test.YtpedclhflmhakaaRows
import Derived.Test.YtpedclhflmhakaaGF
namespace Go.Proofs.Ytpedclhflmhakaa
open Go
set_option linter.unusedVariables false
set_option maxRecDepth 100000
set_option maxHeartbeats 4000000
noncomputable section

/-! ### towpath/towpathlaw17.CallPlays (function 9) -/

theorem S_towpathlaw17_CallPlays {m_ : T_towpathlaw17_Made} {q : Slc} {w : World} {R : Bool → World → Prop} (h : F_towpathlaw17_CallPlays m_ q R w) : C_towpathlaw17_CallPlays m_ q w R := by
 unfold F_towpathlaw17_CallPlays at h
 refine Yh Try.func9 ?_
 · refine Yt ?_
   refine Yw pv_ h fun b_ w1 h => ?_
   refine Yf P1 [1, 2] ?_
   refine Yt ?_
   refine Yn P1 ?_
   refine Yl h fun v12 h => ?_
   refine Yn P1 ?_
   refine YL h fun v14 h => ?_
   refine Yn P1 ?_
   refine YL h fun v16 h => ?_
   refine Ym2 h fun t_ e w2 h => ?_
   refine Yf (Pl 5) [1, 2, 5, 6] ?_
   refine Yt ?_
   refine Yn P1 ?_
   refine Yl h fun v22 h => ?_
   refine Yn P1 ?_
   refine YL h fun v24 h => ?_
   refine Yn P1 ?_
   refine YL h fun v26 h => ?_
   refine Ym2 h fun x f w3 h => ?_
   refine Yf (Pl 5) [1, 5, 6, 7, 8] ?_
   refine Ys ?_
   refine Ycut (fun l w => ∃ (t39 : Bool), l = [(1, sv_ q), (5, Value.pointer t_), (7, Value.pointer x), (39, Value.bool t39)] ∧ F_towpathlaw17_CallPlays_k0 q R t_ x t39 w) ?_ ?_
   · refine Yr ?_
     refine Yn (Pl 5) ?_
     refine Yspl 33 h (fun h => ?_) fun h => ?_
     · refine Yf [.skip, .skip, .skip, .skip, .plain] [1, 5, 7, 39] ?_
       exact ⟨_, Sub.mk (by kernel_rfl), true, rfl, h⟩
     · refine reg_val (op := (Op.binOp BinOp.eql 72 (Operand.tmp 34) (Operand.const (Value.pointer none)) 72)) (ty := 4) (dst := some 35) (Value.bool t_.isNone) (by kernel_rfl) (fun ww => run_ptr_eql_R (p := t_) (by kernel_rfl) (by kernel_rfl) (by kernel_rfl) ww) ?_
       refine Yn [.sure] ?_
       refine reg_val (op := (Op.binOp BinOp.eql 87 (Operand.tmp 36) (Operand.const (Value.pointer none)) 87)) (ty := 4) (dst := some 37) (Value.bool x.isNone) (by kernel_rfl) (fun ww => run_ptr_eql_R (p := x) (by kernel_rfl) (by kernel_rfl) (by kernel_rfl) ww) ?_
       refine Yf [.sure, .plain] [1, 5, 7, 39] ?_
       exact ⟨_, Sub.mk (by kernel_rfl), (!(t_.isNone == x.isNone)), rfl, h⟩
   · rintro _ w4 ⟨t39, rfl, h⟩
     unfold F_towpathlaw17_CallPlays_k0 at h
     refine Yc h (fun h => ?_) fun h => ?_
     · refine Yp P1 [4] ?_
       exact YS ⟨false, rfl, h⟩
     · refine Yskip ?_
       refine Ys ?_
       refine Yp P1 [1, 5, 7, 9] ?_
       refine Yd 0 ?_
       obtain ⟨I, μ, h0, hr⟩ := h
       refine Yloop (fun m l w => ∃ (i : Int), l = [(1, sv_ q), (5, Value.pointer t_), (7, Value.pointer x), (9, Value.int .i64 i)] ∧ I i w ∧ μ i w = m) ⟨0, rfl, h0, rfl⟩ ?_
       rintro _ _ w5 ⟨i, rfl, hI, rfl⟩
       obtain ⟨again_, again__h, h⟩ : ∃ again_ : Int → World → Prop, (∀ i' w', again_ i' w' → I i' w' ∧ μ i' w' < μ i w5) ∧ F_towpathlaw17_CallPlays_L1 q R t_ x again_ i w5 := ⟨_, fun _ _ h => h, hr i w5 hI⟩
       clear h0 hI
       unfold F_towpathlaw17_CallPlays_L1 at h
       refine Ys ?_
       refine Yp [.plain, .plain, .plain, .plain, .plain, .plain, .plain, .pick] [1, 5, 7, 9, 47] ?_
       refine Yc h (fun h => ?_) fun h => ?_
       · refine Yskip ?_
         refine Ys ?_
         refine Yd 1 ?_
         refine Ycut (fun l w => ∃ (t63 : Bool), l = [(1, sv_ q), (5, Value.pointer t_), (7, Value.pointer x), (9, Value.int .i64 i), (63, Value.bool t63)] ∧ F_towpathlaw17_CallPlays_k2 R i again_ t63 w) ?_ ?_
         · refine Yr ?_
           refine Yn P4 ?_
           obtain ⟨hp_7, h⟩ := h
           refine Yu 52 (fun pp => .slice pp q.len q.cap) hp_7 ?_
           refine Yi h fun h => ?_
           refine YL h fun v55 h => ?_
           refine Ym1 h fun v56 w7 h => ?_
           refine Yn P4 ?_
           refine Yspl 58 h (fun h => ?_) fun h => ?_
           · refine Yf [.skip, .skip, .plain] [1, 5, 7, 9, 63] ?_
             exact ⟨_, Sub.mk (by kernel_rfl), true, rfl, h⟩
           · refine Ym1 h fun v61 w8 h => ?_
             refine Yf [.sure, .plain] [1, 5, 7, 9, 63] ?_
             exact ⟨_, Sub.mk (by kernel_rfl), (!v61), rfl, h⟩
         · rintro _ w6 ⟨t63, rfl, h⟩
           unfold F_towpathlaw17_CallPlays_k2 at h
           refine Yc h (fun h => ?_) fun h => ?_
           · refine Yp P1 [4] ?_
             exact YS ⟨false, rfl, h⟩
           · refine Yskip ?_
             refine Yr ?_
             refine Yf P3 [1, 5, 7, 9] ?_
             have hb_ := again__h _ _ h
             exact ⟨_, hb_.2, _, Sub.mk (by kernel_rfl), (IntKind.i64.wrap (i + 1)), rfl, hb_.1, rfl⟩
       · refine Yexit 0 ?_
         refine Yt ?_
         refine Yn P2 ?_
         refine Ym1 h fun v66 w9 h => ?_
         refine Yn P1 ?_
         refine Yspl 67 h (fun h => ?_) fun h => ?_
         · refine Ym1 h fun v68 w10 h => ?_
           refine Yf P2 [4] ?_
           exact YS ⟨v68, rfl, h⟩
         · refine Yf [.skip, .plain, .plain] [4] ?_
           exact YS ⟨false, rfl, h⟩
end
end Go.Proofs.Ytpedclhflmhakaa
