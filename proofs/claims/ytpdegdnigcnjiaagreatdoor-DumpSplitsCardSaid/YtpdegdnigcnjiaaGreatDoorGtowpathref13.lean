/- WRITTEN BY PROGRAM (dec.py): for each Go function the clean formula F, the call's contract C, and the proof S that F gives C. -/
import Derived.Test.YtpdegdnigcnjiaaGreatDoorRows
import Derived.Test.YtpdegdnigcnjiaaGreatDoorGF
namespace Go.Proofs.YtpdegdnigcnjiaaGreatDoor
open Go
set_option linter.unusedVariables false
set_option maxRecDepth 100000
set_option maxHeartbeats 4000000
noncomputable section

/-! ### towpath/towpathref13.Check (function 94) -/

theorem S_towpathref13_Check {c : T_api_Config} {w : World} {R : Int → World → Prop} (h : F_towpathref13_Check c R w) : C_towpathref13_Check c w R := by
 unfold F_towpathref13_Check at h
 refine Yh Tryz.func94 ?_
 · refine Yt ?_
   refine Yw pv_ h fun b_ w1 h => ?_
   refine Yf P1 [1] ?_
   refine Ys ?_
   refine Ycut (fun l w => ∃ (t24 : Bool), l = [(24, Value.bool t24)] ∧ F_towpathref13_Check_k0 R t24 w) ?_ ?_
   · refine Yr ?_
     refine Yn P1 ?_
     refine Yl h fun v4 h => ?_
     refine Ym1 h fun v5 w3 h => ?_
     refine Yn P3 ?_
     refine Yspl 7 h (fun h => ?_) fun h => ?_
     · refine Yf [.skip, .skip, .skip, .plain, .plain, .skip, .skip, .skip, .skip, .plain, .plain, .skip, .skip, .skip, .skip, .plain] [24] ?_
       exact ⟨_, Sub.mk (by kernel_rfl), true, rfl, h⟩
     · refine Yl h fun v9 h => ?_
       refine Ym1 h fun v10 w4 h => ?_
       refine Yn [.sure, .plain, .plain, .plain] ?_
       refine Yspl 13 h (fun h => ?_) fun h => ?_
       · refine Yf [.skip, .skip, .skip, .plain, .plain, .skip, .skip, .skip, .skip, .plain] [24] ?_
         exact ⟨_, Sub.mk (by kernel_rfl), true, rfl, h⟩
       · refine Yl h fun v15 h => ?_
         refine Ym1 h fun v16 w5 h => ?_
         refine Yn [.sure, .plain, .plain, .plain] ?_
         refine Yspl 19 h (fun h => ?_) fun h => ?_
         · refine Yf [.skip, .skip, .skip, .plain] [24] ?_
           exact ⟨_, Sub.mk (by kernel_rfl), true, rfl, h⟩
         · refine Yl h fun v21 h => ?_
           refine Ym1 h fun v22 w6 h => ?_
           refine Yf [.sure, .plain] [24] ?_
           exact ⟨_, Sub.mk (by kernel_rfl), (!v22), rfl, h⟩
   · rintro _ w2 ⟨t24, rfl, h⟩
     unfold F_towpathref13_Check_k0 at h
     refine Yc h (fun h => ?_) fun h => ?_
     · refine Yp P1 [2] ?_
       exact YS ⟨7, rfl, h⟩
     · refine Yskip ?_
       refine Yp P1 [2] ?_
       exact YS ⟨0, rfl, h⟩

/-! ### towpath/towpathref13.Shard (function 96) -/
def c96_0 := cb_ Tryz.f96
def c96_3 := cr_ c96_0
def c96_6 := cr_ c96_3
def c96_16 := cr_ c96_6
def c96_26 := cr_ c96_16
def c96_27 := cl_ c96_26
def r96_27 := co_ c96_27

theorem S_towpathref13_Shard {c : T_api_Config} {key : ByteArray} {w : World} {R : Int → Int → World → Prop} (h : F_towpathref13_Shard c key R w) : C_towpathref13_Shard c key w R := by
 unfold F_towpathref13_Shard at h
 refine Yh Tryz.func96 ?_
 · refine Yt ?_
   refine Yw pv_ h fun b_ w1 h => ?_
   refine Yf P2 [1, 2] ?_
   refine Yt ?_
   refine YL h fun v7 h => ?_
   refine Ym1 h fun v8 w2 h => ?_
   refine Yf P1 [1, 2, 6] ?_
   refine Ys ?_
   refine Yp P2 [1, 2, 6, 10] ?_
   refine Yc h (fun h => ?_) fun h => ?_
   · refine Yp P3 [4, 5] ?_
     exact YT2 ⟨0, v8, rfl, h⟩
   · refine Yskip ?_
     refine Ys ?_
     refine Yt ?_
     refine Yn P1 ?_
     refine Ym1 h fun v13 w3 h => ?_
     refine Yf P1 [1, 2, 14] ?_
     refine Yc h (fun h => ?_) fun h => ?_
     · refine Yp P2 [4, 5] ?_
       exact YT2 ⟨0, 1, rfl, h⟩
     · refine Yskip ?_
       refine Ys ?_
       refine wpE_drawregion (id := 6) (ops := r96_27) (by kernel_rfl) (by kernel_rfl) (by kernel_rfl) ?_
       refine Qn P1 ?_
       obtain ⟨v16, hq, h⟩ := h
       refine qreg_enter (op := (Op.call (Call.mk (Callee.value (Operand.func 158)) #[(Operand.tmp 15)] #[9]))) (ty := 118) (dst := some 16) 158 #[Value.string key] (Value.int .u32 v16) (by kernel_rfl) (fun ww => by kernel_rfl) (fun w' he => Calls.mono (hq w' he) (by rintro _ w'' ⟨_, rfl, rfl, hE⟩; exact ⟨rfl, hE⟩)) ?_
       clear hq
       refine Qn P1 ?_
       refine Ql h fun v18 h => ?_
       refine Qn P1 ?_
       obtain ⟨h0, h⟩ := h
       refine qreg_val (op := (Op.binOp BinOp.rem 118 (Operand.tmp 16) (Operand.tmp 19) 118)) (ty := 118) (dst := some 20) (Value.int .u32 (Int.tmod v16 (IntKind.u32.wrap v18))) (by kernel_rfl) (fun ww => run_rem (by kernel_rfl) (by kernel_rfl) h0 ww) ?_
       refine Qf P3 [4, 5] h fun w5 h => ?_
       exact YT2 ⟨(IntKind.i64.wrap (Int.tmod v16 (IntKind.u32.wrap v18))), 0, rfl, h⟩

/-! ### towpath/towpathref13.in (function 153) -/

theorem S_towpathref13_in {n_ : Int} {most : Int} {w : World} {R : Bool → World → Prop} (h : F_towpathref13_in n_ most R w) : C_towpathref13_in n_ most w R := by
 unfold F_towpathref13_in at h
 refine Yh Tryz.func153 ?_
 · refine Yp P1 [0, 1] ?_
   refine Yp [.plain, .plain, .plain, .plain, .plain, .plain, .pick, .plain] [4] ?_
   exact YS ⟨((decide (n_ ≥ 1)) && (decide (n_ ≤ most))), rfl, h⟩
end
end Go.Proofs.YtpdegdnigcnjiaaGreatDoor
