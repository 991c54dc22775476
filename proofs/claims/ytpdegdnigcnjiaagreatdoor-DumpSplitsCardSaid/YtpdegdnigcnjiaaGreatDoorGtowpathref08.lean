/- WRITTEN BY PROGRAM (dec.py): for each Go function the clean formula F, the call's contract C, and the proof S that F gives C. -/
import Derived.Test.YtpdegdnigcnjiaaGreatDoorRows
import Derived.Test.YtpdegdnigcnjiaaGreatDoorGF
namespace Go.Proofs.YtpdegdnigcnjiaaGreatDoor
open Go
set_option linter.unusedVariables false
set_option maxRecDepth 100000
set_option maxHeartbeats 4000000
noncomputable section

/-! ### towpath/towpathref08.Check (function 193) -/
def c193_0 := cb_ Tryz.f193
def c193_3 := cr_ c193_0
def c193_4 := cl_ c193_3
def c193_7 := cr_ c193_4
def c193_8 := cl_ c193_7
def c193_9 := cl_ c193_8
def c193_16 := cr_ c193_9
def c193_17 := cl_ c193_16
def c193_18 := cl_ c193_17
def c193_19 := cl_ c193_18
def r193_19 := co_ c193_19
def o_towpathref08_Check_19 : List Nat := [0, 1, 2, 3, 4, 5, 6, 7, 8, 9, 10, 11, 12, 13, 14, 15, 16, 17, 18, 19, 20, 21, 22, 23]

theorem S_towpathref08_Check {l_ : Slc} {w : World} {R : Int → World → Prop} (h : F_towpathref08_Check l_ R w) : C_towpathref08_Check l_ w R := by
 unfold F_towpathref08_Check at h
 refine Yh Tryz.func193 ?_
 · refine Yp P1 [0] ?_
   refine Ys ?_
   refine Yp P1 [0, 3] ?_
   refine Yd 0 ?_
   obtain ⟨I, μ, h0, hr⟩ := h
   refine Yloop (fun m l w => ∃ (i : Int), l = [(0, sv_ l_), (3, Value.int .i64 i)] ∧ I i w ∧ μ i w = m) ⟨0, rfl, h0, rfl⟩ ?_
   rintro _ _ w1 ⟨i, rfl, hI, rfl⟩
   obtain ⟨again_, again__h, h⟩ : ∃ again_ : Int → World → Prop, (∀ i' w', again_ i' w' → I i' w' ∧ μ i' w' < μ i w1) ∧ F_towpathref08_Check_L0 l_ R again_ i w1 := ⟨_, fun _ _ h => h, hr i w1 hI⟩
   clear h0 hI
   unfold F_towpathref08_Check_L0 at h
   refine Ys ?_
   refine Yp P4 [0, 3, 7] ?_
   refine Yc h (fun h => ?_) fun h => ?_
   · refine Yskip ?_
     refine Ys ?_
     refine Yd 1 ?_
     refine Ycut (fun l w => ∃ (t33 : Bool), l = [(0, sv_ l_), (3, Value.int .i64 i), (33, Value.bool t33)] ∧ F_towpathref08_Check_k1 R i again_ t33 w) ?_ ?_
     · refine wpE_mixregion (id := 4) (ops := r193_19) o_towpathref08_Check_19 (by kernel_rfl) (by kernel_rfl) (by kernel_rfl) (by kernel_rfl) (fun w3 hw => ?_)
       replace h := h w3 hw
       clear hw
       refine Mn P2 ?_
       obtain ⟨hp_21, h⟩ := h
       refine Mu 10 (fun pp => .slice pp l_.len l_.cap) hp_21 ?_
       refine Mi 2 h fun h => ?_
       refine ML 3 h fun v13 hc h => ?_
       refine mreg_enter (op := (Op.call (Call.mk (Callee.value (Operand.func 209)) #[(Operand.tmp 13)] #[109]))) (ty := 4) (dst := some 14) 4 [3, 2, 0, 1] [] 209 #[Value.agg #[Value.int .i64 v13.Number, Value.string v13.Val, Value.bool v13.Drop]] (by kernel_rfl) (by kernel_rfl) (by kernel_rfl) (by kernel_rfl) (by kernel_rfl) (fun ww => by kernel_rfl) (Calls.mono h ?_)
       rintro _ w4 ⟨v14, rfl, h⟩
       refine ⟨_, rfl, trivial, ?_⟩
       refine Mn (Pl 8) ?_
       refine Mspl 16 h (fun h => ?_) fun h => ?_
       · refine Mf [.skip, .skip, .skip, .skip, .skip, .skip, .skip, .skip, .skip, .skip, .plain] [0, 3, 33] ?_
         exact ⟨_, Sub.mk (by kernel_rfl), true, rfl, h⟩
       · refine Mspl 19 h (fun h => ?_) fun h => ?_
         · obtain ⟨hp_22, h⟩ := h
           refine Mu 20 (fun pp => .slice pp l_.len l_.cap) hp_22 ?_
           refine Mi 13 h fun h => ?_
           refine Mn [.sure] ?_
           refine Ml 15 h fun v25 hc h => ?_
           refine Mn [.sure, .sure] ?_
           obtain ⟨hp_23, h⟩ := h
           refine Mu 26 (fun pp => .slice pp l_.len l_.cap) hp_23 ?_
           refine Mi 18 h fun h => ?_
           refine Mn [.sure] ?_
           refine Ml 20 h fun v30 hc h => ?_
           refine Mf [.sure, .sure, .plain] [0, 3, 33] ?_
           exact ⟨_, Sub.mk (by kernel_rfl), (decide (v25 ≥ v30)), rfl, h⟩
         · refine Mf [.skip, .skip, .skip, .skip, .skip, .skip, .skip, .skip, .skip, .sure, .plain] [0, 3, 33] ?_
           exact ⟨_, Sub.mk (by kernel_rfl), false, rfl, h⟩
     · rintro _ w2 ⟨t33, rfl, h⟩
       unfold F_towpathref08_Check_k1 at h
       refine Yc h (fun h => ?_) fun h => ?_
       · refine Yp P1 [2] ?_
         exact YS ⟨1, rfl, h⟩
       · refine Yskip ?_
         refine Yr ?_
         refine Yf P3 [0, 3] ?_
         have hb_ := again__h _ _ h
         exact ⟨_, hb_.2, _, Sub.mk (by kernel_rfl), (IntKind.i64.wrap (i + 1)), rfl, hb_.1, rfl⟩
   · refine Yexit 0 ?_
     refine Yp P1 [2] ?_
     exact YS ⟨0, rfl, h⟩

/-! ### towpath/towpathref08.May (function 209) -/

theorem S_towpathref08_May {v : T_api_Version} {w : World} {R : Bool → World → Prop} (h : F_towpathref08_May v R w) : C_towpathref08_May v w R := by
 unfold F_towpathref08_May at h
 refine Yh Tryz.func209 ?_
 · refine Yt ?_
   refine Yw pv_ h fun b_ w1 h => ?_
   refine Yf P1 [1] ?_
   refine Yt ?_
   refine Yn P1 ?_
   refine Yl h fun v4 h => ?_
   refine Yn P3 ?_
   refine Yspl 6 h (fun h => ?_) fun h => ?_
   · refine Yl h fun v8 h => ?_
     refine Yn [.sure, .plain, .plain, .plain] ?_
     refine Yspl 11 h (fun h => ?_) fun h => ?_
     · refine Yl h fun v13 h => ?_
       refine Yn [.sure, .sure, .plain, .plain, .plain] ?_
       refine Yspl 17 h (fun h => ?_) fun h => ?_
       · refine Yl h fun v19 h => ?_
         refine Yn [.sure, .sure, .plain] ?_
         refine Yspl 21 h (fun h => ?_) fun h => ?_
         · refine Yf [.skip, .skip, .skip, .sure, .plain, .plain] [2] ?_
           exact YS ⟨true, rfl, h⟩
         · refine Yl h fun v23 h => ?_
           refine Yf [.sure, .sure, .sure, .plain, .plain] [2] ?_
           exact YS ⟨(((v23.size : Nat) : Int) == 0), rfl, h⟩
       · refine Yf [.skip, .skip, .skip, .skip, .skip, .skip, .skip, .skip, .plain, .plain] [2] ?_
         exact YS ⟨false, rfl, h⟩
     · refine Yf [.skip, .skip, .skip, .plain, .plain, .skip, .skip, .skip, .skip, .skip, .skip, .skip, .skip, .skip, .plain, .plain] [2] ?_
       exact YS ⟨false, rfl, h⟩
   · refine Yf [.skip, .skip, .plain, .plain, .skip, .skip, .skip, .skip, .plain, .plain, .skip, .skip, .skip, .skip, .skip, .skip, .skip, .skip, .skip, .plain, .plain] [2] ?_
     exact YS ⟨false, rfl, h⟩
end
end Go.Proofs.YtpdegdnigcnjiaaGreatDoor
