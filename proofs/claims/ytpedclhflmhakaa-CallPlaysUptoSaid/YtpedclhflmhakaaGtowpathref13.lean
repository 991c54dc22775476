/- WRITTEN BY PROGRAM (dec.py): for each Go function the clean formula F, the call's contract C, and the proof S that F gives C. -/
import Derived.Test.YtpedclhflmhakaaRows
import Derived.Test.YtpedclhflmhakaaGF
namespace Go.Proofs.Ytpedclhflmhakaa
open Go
set_option linter.unusedVariables false
set_option maxRecDepth 100000
set_option maxHeartbeats 4000000
noncomputable section

/-! ### towpath/towpathref13.Check (function 67) -/

theorem S_towpathref13_Check {c : T_api_Config} {w : World} {R : Int → World → Prop} (h : F_towpathref13_Check c R w) : C_towpathref13_Check c w R := by
 unfold F_towpathref13_Check at h
 refine Yh Try.func67 ?_
 · refine Yt ?_
   refine Yw pv_ h fun b_ w1 h => ?_
   refine Yf P1 [1] ?_
   refine Ys ?_
   refine Ycut (fun l w => ∃ (t24 : Bool), l = [(24, Value.bool t24)] ∧ F_towpathref13_Check_k0 R t24 w) ?_ ?_
   · refine Yr ?_
     refine Yn P1 ?_
     refine Yl h fun v4 h => ?_
     refine Ym1 h fun v5 w3 h => ?_
     refine Yn P3 ?_
     refine Yspl 7 h (fun h => ?_) fun h => ?_
     · refine Yf [.skip, .skip, .skip, .plain, .plain, .skip, .skip, .skip, .skip, .plain, .plain, .skip, .skip, .skip, .skip, .plain] [24] ?_
       exact ⟨_, Sub.mk (by kernel_rfl), true, rfl, h⟩
     · refine Yl h fun v9 h => ?_
       refine Ym1 h fun v10 w4 h => ?_
       refine Yn [.sure, .plain, .plain, .plain] ?_
       refine Yspl 13 h (fun h => ?_) fun h => ?_
       · refine Yf [.skip, .skip, .skip, .plain, .plain, .skip, .skip, .skip, .skip, .plain] [24] ?_
         exact ⟨_, Sub.mk (by kernel_rfl), true, rfl, h⟩
       · refine Yl h fun v15 h => ?_
         refine Ym1 h fun v16 w5 h => ?_
         refine Yn [.sure, .plain, .plain, .plain] ?_
         refine Yspl 19 h (fun h => ?_) fun h => ?_
         · refine Yf [.skip, .skip, .skip, .plain] [24] ?_
           exact ⟨_, Sub.mk (by kernel_rfl), true, rfl, h⟩
         · refine Yl h fun v21 h => ?_
           refine Ym1 h fun v22 w6 h => ?_
           refine Yf [.sure, .plain] [24] ?_
           exact ⟨_, Sub.mk (by kernel_rfl), (!v22), rfl, h⟩
   · rintro _ w2 ⟨t24, rfl, h⟩
     unfold F_towpathref13_Check_k0 at h
     refine Yc h (fun h => ?_) fun h => ?_
     · refine Yp P1 [2] ?_
       exact YS ⟨7, rfl, h⟩
     · refine Yskip ?_
       refine Yp P1 [2] ?_
       exact YS ⟨0, rfl, h⟩

/-! ### towpath/towpathref13.in (function 96) -/

theorem S_towpathref13_in {n_ : Int} {most : Int} {w : World} {R : Bool → World → Prop} (h : F_towpathref13_in n_ most R w) : C_towpathref13_in n_ most w R := by
 unfold F_towpathref13_in at h
 refine Yh Try.func96 ?_
 · refine Yp P1 [0, 1] ?_
   refine Yp [.plain, .plain, .plain, .plain, .plain, .plain, .pick, .plain] [4] ?_
   exact YS ⟨((decide (n_ ≥ 1)) && (decide (n_ ≤ most))), rfl, h⟩

/-! ### towpath/towpathref13.Shard (function 98) -/
def c98_0 := cb_ Try.f98
def c98_3 := cr_ c98_0
def c98_6 := cr_ c98_3
def c98_16 := cr_ c98_6
def c98_26 := cr_ c98_16
def c98_27 := cl_ c98_26
def r98_27 := co_ c98_27

theorem S_towpathref13_Shard {c : T_api_Config} {key : ByteArray} {w : World} {R : Int → Int → World → Prop} (h : F_towpathref13_Shard c key R w) : C_towpathref13_Shard c key w R := by
 unfold F_towpathref13_Shard at h
 refine Yh Try.func98 ?_
 · refine Yt ?_
   refine Yw pv_ h fun b_ w1 h => ?_
   refine Yf P2 [1, 2] ?_
   refine Yt ?_
   refine YL h fun v7 h => ?_
   refine Ym1 h fun v8 w2 h => ?_
   refine Yf P1 [1, 2, 6] ?_
   refine Ys ?_
   refine Yp P2 [1, 2, 6, 10] ?_
   refine Yc h (fun h => ?_) fun h => ?_
   · refine Yp P3 [4, 5] ?_
     exact YT2 ⟨0, v8, rfl, h⟩
   · refine Yskip ?_
     refine Ys ?_
     refine Yt ?_
     refine Yn P1 ?_
     refine Ym1 h fun v13 w3 h => ?_
     refine Yf P1 [1, 2, 14] ?_
     refine Yc h (fun h => ?_) fun h => ?_
     · refine Yp P2 [4, 5] ?_
       exact YT2 ⟨0, 1, rfl, h⟩
     · refine Yskip ?_
       refine Ys ?_
       refine wpE_drawregion (id := 6) (ops := r98_27) (by kernel_rfl) (by kernel_rfl) (by kernel_rfl) ?_
       refine Qn P1 ?_
       obtain ⟨v16, hq, h⟩ := h
       refine qreg_enter (op := (Op.call (Call.mk (Callee.value (Operand.func 118)) #[(Operand.tmp 15)] #[9]))) (ty := 178) (dst := some 16) 118 #[Value.string key] (Value.int .u32 v16) (by kernel_rfl) (fun ww => by kernel_rfl) (fun w' he => Calls.mono (hq w' he) (by rintro _ w'' ⟨_, rfl, rfl, hE⟩; exact ⟨rfl, hE⟩)) ?_
       clear hq
       refine Qn P1 ?_
       refine Ql h fun v18 h => ?_
       refine Qn P1 ?_
       obtain ⟨h0, h⟩ := h
       refine qreg_val (op := (Op.binOp BinOp.rem 178 (Operand.tmp 16) (Operand.tmp 19) 178)) (ty := 178) (dst := some 20) (Value.int .u32 (Int.tmod v16 (IntKind.u32.wrap v18))) (by kernel_rfl) (fun ww => run_rem (by kernel_rfl) (by kernel_rfl) h0 ww) ?_
       refine Qf P3 [4, 5] h fun w5 h => ?_
       exact YT2 ⟨(IntKind.i64.wrap (Int.tmod v16 (IntKind.u32.wrap v18))), 0, rfl, h⟩
end
end Go.Proofs.Ytpedclhflmhakaa
