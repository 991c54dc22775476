/- WRITTEN BY PROGRAM (dec.py): for each Go function the clean formula F, the call's contract C, and the proof S that F gives C. -/
import Derived.Test.YtpedclhflmhakaaGreatDoorRows
import Derived.Test.YtpedclhflmhakaaGreatDoorGF
namespace Go.Proofs.YtpedclhflmhakaaGreatDoor
open Go
set_option linter.unusedVariables false
set_option maxRecDepth 100000
set_option maxHeartbeats 4000000
noncomputable section

/-! ### towpath/conf.Check (function 69) -/

theorem S_conf_Check {c : T_api_Config} {w : World} {R : Int → World → Prop} (h : F_conf_Check c R w) : C_conf_Check c w R := by
 unfold F_conf_Check at h
 refine Yh Tryz.func69 ?_
 · refine Yt ?_
   refine Yw pv_ h fun b_ w1 h => ?_
   refine Yf P1 [1] ?_
   refine Ys ?_
   refine Yt ?_
   refine Yn P1 ?_
   refine Yl h fun v6 h => ?_
   refine Yn P2 ?_
   refine Yl h fun v9 h => ?_
   refine Yn P2 ?_
   refine Yl h fun v12 h => ?_
   refine Yn P2 ?_
   refine Yl h fun v15 h => ?_
   refine Yn P1 ?_
   refine Yw (sl_ 4 4) h fun b_1 w2 h => ?_
   refine Yf P2 [17, 18, 19] ?_
   refine Yd 0 ?_
   obtain ⟨I, μ, h0, hr⟩ := h
   refine Yloop (fun m l w => ∃ (t19 : Int), l = [(17, Value.slice (some ⟨b_1, 0, none⟩) 4 4), (18, Value.int .i64 ((4 : Nat) : Int)), (19, Value.int .i64 t19)] ∧ I t19 w ∧ μ t19 w = m) ⟨0, rfl, h0, rfl⟩ ?_
   rintro _ _ w3 ⟨t19, rfl, hI, rfl⟩
   obtain ⟨again_, again__h, h⟩ : ∃ again_ : Int → World → Prop, (∀ t19' w', again_ t19' w' → I t19' w' ∧ μ t19' w' < μ t19 w3) ∧ F_conf_Check_L0 R b_1 again_ t19 w3 := ⟨_, fun _ _ h => h, hr t19 w3 hI⟩
   clear h0 hI
   unfold F_conf_Check_L0 at h
   refine Yp P1 [17, 18, 19, 20] ?_
   refine Ys ?_
   refine Yc h (fun h => ?_) fun h => ?_
   · refine Yskip ?_
     refine Ys ?_
     refine Yd 1 ?_
     refine Yt ?_
     obtain ⟨h0, h1, h⟩ := h
     refine reg_indexS (t := 196) (e := 195) (x := (Operand.tmp 17)) (ix := (Operand.tmp 19)) (b := b_1) (o := 0) (l := 4) (c := 4) (k := .i64) (j := t19) (ty := 0) (dst := some 21) (sz := 2) (by kernel_rfl) (by kernel_rfl) (by kernel_rfl) (by kernel_rfl) (by kernel_rfl) h0 h1 ?_
     refine YL h fun v22 h => ?_
     refine Yw pv_ h fun b_2 w4 h => ?_
     refine Yo h fun w5 h => ?_
     refine Yf [] [4, 17, 18, 19] ?_
     refine Ycut (fun l w => ∃ (t32 : Bool), l = [(17, Value.slice (some ⟨b_1, 0, none⟩) 4 4), (18, Value.int .i64 ((4 : Nat) : Int)), (19, Value.int .i64 t19), (32, Value.bool t32)] ∧ F_conf_Check_k1 R t19 again_ t32 w) ?_ ?_
     · refine Yr ?_
       obtain ⟨h0, h1, h⟩ := h
       refine reg_indexA1 (t := 195) (e := 3) (x := (Operand.tmp 4)) (ix := (Operand.const (Value.int IntKind.i64 0))) (b := b_2) (o := 0) (len := 2) (k := .i64) (j := 0) (ty := 0) (dst := some 23) (by kernel_rfl) (by kernel_rfl) (by kernel_rfl) (by kernel_rfl) (by kernel_rfl) h0 h1 ?_
       refine Yl h fun v24 h => ?_
       refine Yn P2 ?_
       refine Yspl 26 h (fun h => ?_) fun h => ?_
       · refine Yf [.skip, .skip, .skip, .skip, .skip, .plain] [17, 18, 19, 32] ?_
         exact ⟨_, Sub.mk (by kernel_rfl), true, rfl, h⟩
       · obtain ⟨h0, h1, h⟩ := h
         refine reg_indexA1 (t := 195) (e := 3) (x := (Operand.tmp 4)) (ix := (Operand.const (Value.int IntKind.i64 0))) (b := b_2) (o := 0) (len := 2) (k := .i64) (j := 0) (ty := 0) (dst := some 27) (by kernel_rfl) (by kernel_rfl) (by kernel_rfl) (by kernel_rfl) (by kernel_rfl) h0 h1 ?_
         refine Yl h fun v28 h => ?_
         obtain ⟨h0, h1, h⟩ := h
         refine reg_indexA1 (t := 195) (e := 3) (x := (Operand.tmp 4)) (ix := (Operand.const (Value.int IntKind.i64 1))) (b := b_2) (o := 0) (len := 2) (k := .i64) (j := 1) (ty := 0) (dst := some 29) (by kernel_rfl) (by kernel_rfl) (by kernel_rfl) (by kernel_rfl) (by kernel_rfl) h0 h1 ?_
         refine Yl h fun v30 h => ?_
         refine Yf [.sure, .plain] [17, 18, 19, 32] ?_
         exact ⟨_, Sub.mk (by kernel_rfl), (decide (v28 > v30)), rfl, h⟩
     · rintro _ w6 ⟨t32, rfl, h⟩
       unfold F_conf_Check_k1 at h
       refine Yc h (fun h => ?_) fun h => ?_
       · refine Yp P1 [2] ?_
         exact YS ⟨7, rfl, h⟩
       · refine Yskip ?_
         refine Yr ?_
         refine Yf P2 [17, 18, 19] ?_
         have hb_ := again__h _ _ h
         exact ⟨_, hb_.2, _, Sub.mk (by kernel_rfl), (IntKind.i64.wrap (t19 + 1)), rfl, hb_.1, rfl⟩
   · refine Yexit 0 ?_
     refine Yp P1 [2] ?_
     exact YS ⟨0, rfl, h⟩

/-! ### towpath/conf.Shard (function 114) -/
def c114_0 := cb_ Tryz.f114
def c114_3 := cr_ c114_0
def c114_16 := cr_ c114_3
def c114_26 := cr_ c114_16
def c114_27 := cl_ c114_26
def r114_27 := co_ c114_27

theorem S_conf_Shard {c : T_api_Config} {key : ByteArray} {w : World} {R : Int → Int → World → Prop} (h : F_conf_Shard c key R w) : C_conf_Shard c key w R := by
 unfold F_conf_Shard at h
 refine Yh Tryz.func114 ?_
 · refine Yt ?_
   refine Yw pv_ h fun b_ w1 h => ?_
   refine Yf P2 [1, 2] ?_
   refine Ys ?_
   refine Yt ?_
   refine YL h fun v7 h => ?_
   refine Ym1 h fun v8 w2 h => ?_
   refine Yf P1 [1, 2, 6] ?_
   refine Yp P2 [1, 2, 6, 10] ?_
   refine Yc h (fun h => ?_) fun h => ?_
   · refine Yp P3 [4, 5] ?_
     exact YT2 ⟨0, v8, rfl, h⟩
   · refine Yskip ?_
     refine Ys ?_
     refine Yp [.plain, .plain, .plain, .plain, .plain, .plain, .pick] [1, 2, 18] ?_
     refine Yc h (fun h => ?_) fun h => ?_
     · refine Yp P2 [4, 5] ?_
       exact YT2 ⟨0, 1, rfl, h⟩
     · refine Yskip ?_
       refine Ys ?_
       refine wpE_drawregion (id := 6) (ops := r114_27) (by kernel_rfl) (by kernel_rfl) (by kernel_rfl) ?_
       refine Qn P1 ?_
       obtain ⟨v20, hq, h⟩ := h
       refine qreg_enter (op := (Op.call (Call.mk (Callee.value (Operand.func 127)) #[(Operand.tmp 19)] #[9]))) (ty := 203) (dst := some 20) 127 #[Value.string key] (Value.int .u32 v20) (by kernel_rfl) (fun ww => by kernel_rfl) (fun w' he => Calls.mono (hq w' he) (by rintro _ w'' ⟨_, rfl, rfl, hE⟩; exact ⟨rfl, hE⟩)) ?_
       clear hq
       refine Qn P1 ?_
       refine Ql h fun v22 h => ?_
       refine Qn P1 ?_
       obtain ⟨h0, h⟩ := h
       refine qreg_val (op := (Op.binOp BinOp.rem 203 (Operand.tmp 20) (Operand.tmp 23) 203)) (ty := 203) (dst := some 24) (Value.int .u32 (Int.tmod v20 (IntKind.u32.wrap v22))) (by kernel_rfl) (fun ww => run_rem (by kernel_rfl) (by kernel_rfl) h0 ww) ?_
       refine Qf P3 [4, 5] h fun w4 h => ?_
       exact YT2 ⟨(IntKind.i64.wrap (Int.tmod v20 (IntKind.u32.wrap v22))), 0, rfl, h⟩
end
end Go.Proofs.YtpedclhflmhakaaGreatDoor
