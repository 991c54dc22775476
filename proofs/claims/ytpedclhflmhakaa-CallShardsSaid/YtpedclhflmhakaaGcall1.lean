/- WRITTEN BY PROGRAM (dec.py): for each Go function the clean formula F, the call's contract C, and the proof S that F gives C. -/
import Derived.Test.YtpedclhflmhakaaRows
import Derived.Test.YtpedclhflmhakaaGF
namespace Go.Proofs.Ytpedclhflmhakaa
open Go
set_option linter.unusedVariables false
set_option maxRecDepth 100000
set_option maxHeartbeats 4000000
noncomputable section

/-! ### (*towpath/call.Task).All (function 35) -/
def c35_0 := cb_ Try.f35
def c35_3 := cr_ c35_0
def c35_4 := cl_ c35_3
def r35_4 := co_ c35_4
def c35_6 := cr_ c35_3
def o_call_Task_All_4 : List Nat := [0, 1, 2, 3, 4, 5, 6, 7, 8, 9, 10, 11, 12, 13, 14, 15, 16, 17, 18, 19, 20, 21, 22, 23, 24, 25, 26, 27, 28]

theorem S_call_Task_All {t_ : Option Addr} {w : World} {R : Bool → World → Prop} (h : F_call_Task_All t_ R w) : C_call_Task_All t_ w R := by
 unfold F_call_Task_All at h
 unfold C_call_Task_All
 refine Calls.mono (calls_of_wpE (args := [Value.pointer t_]) (R := fun v w' => ∃ (r0 : Bool), v = Value.bool r0 ∧ R r0 w') Try.func35 (c := c35_0) (by kernel_rfl) 31 (by kernel_rfl) (by kernel_rfl) [(0, Value.pointer t_)] (by kernel_rfl) ?_) ?_
 · refine Zp c35_3 P1 [(0, .pointer t_)] ?_
   refine Zs c35_4 c35_6 ?_
   refine wpE_mixregion (id := 1) (ops := r35_4) o_call_Task_All_4 (by kernel_rfl) (by kernel_rfl) (by kernel_rfl) (by kernel_rfl) (fun w1 hw => ?_)
   replace h := h w1 hw
   clear hw
   refine mreg_run P1 1 [(0, [], Value.pointer t_), (3, [], Value.pointer t_)] (by kernel_rfl) (by kernel_rfl) ?_
   refine mreg_enter (op := (Op.call (Call.mk (Callee.value (Operand.func 63)) #[(Operand.tmp 3)] #[72]))) (ty := 4) (dst := some 4) 1 [0] [] 63 #[Value.pointer t_] (by kernel_rfl) (by kernel_rfl) (by kernel_rfl) (by kernel_rfl) (by kernel_rfl) (fun ww => by kernel_rfl) (Calls.mono h ?_)
   rintro _ w2 ⟨v4, rfl, h⟩
   refine ⟨_, rfl, trivial, ?_⟩
   refine mreg_run P2 4 [(0, [], Value.pointer t_), (5, [], Value.bool v4), (6, [(5, true)], Value.pointer t_)] (by kernel_rfl) (by kernel_rfl) ?_
   refine mreg_split 5 v4 (by kernel_rfl) (fun hb => ?_) (fun hb => ?_)
   · replace h := h.1 hb
     refine mreg_run [] 4 [(0, [], Value.pointer t_), (5, [], Value.bool true), (6, [], Value.pointer t_)] (by kernel_rfl) (by kernel_rfl) ?_
     refine mreg_run [] 4 [(0, [], Value.pointer t_), (5, [], Value.bool true), (6, [], Value.pointer t_)] (by kernel_rfl) (by kernel_rfl) ?_
     obtain ⟨hp_0, h⟩ := h
     refine mreg_conv [(0, [], Value.pointer t_), (5, [], Value.bool true), (6, [], Value.pointer (some ⟨(pblk t_), (poff t_), none⟩))] (congrArg (fun pp => ([(0, [], Value.pointer t_), (5, [], Value.bool true), (6, [], Value.pointer pp)] : GEnv)) hp_0) ?_
     refine mreg_run [.sure] 5 [(0, [], Value.pointer t_), (5, [], Value.bool true), (6, [], Value.pointer (some ⟨(pblk t_), (poff t_), none⟩)), (7, [], Value.pointer (some ⟨(pblk t_), (poff t_), none⟩))] (by kernel_rfl) (by kernel_rfl) ?_
     refine mreg_run [.sure] 6 [(0, [], Value.pointer t_), (5, [], Value.bool true), (8, [], Value.pointer (some ⟨(pblk t_), (poff t_) + 8, none⟩))] (by kernel_rfl) (by kernel_rfl) ?_
     obtain ⟨v9, hc, h⟩ := h
     refine mreg_load1 (i := 6) (by kernel_rfl) (t := 4) (a := (Operand.tmp 8)) (b := (pblk t_)) (o := ((poff t_) + 8)) (ty := 4) (dst := some 9) (by kernel_rfl) (by kernel_rfl) (by kernel_rfl) hc ?_
     refine mreg_run P3 10 [(0, [], Value.pointer t_), (11, [], Value.bool v9), (12, [(11, true)], Value.pointer t_)] (by kernel_rfl) (by kernel_rfl) ?_
     refine mreg_split 11 v9 (by kernel_rfl) (fun hb => ?_) (fun hb => ?_)
     · replace h := h.1 hb
       refine mreg_run [] 10 [(0, [], Value.pointer t_), (11, [], Value.bool true), (12, [], Value.pointer t_)] (by kernel_rfl) (by kernel_rfl) ?_
       refine mreg_run [] 10 [(0, [], Value.pointer t_), (11, [], Value.bool true), (12, [], Value.pointer t_)] (by kernel_rfl) (by kernel_rfl) ?_
       obtain ⟨hp_1, h⟩ := h
       refine mreg_conv [(0, [], Value.pointer t_), (11, [], Value.bool true), (12, [], Value.pointer (some ⟨(pblk t_), (poff t_), none⟩))] (congrArg (fun pp => ([(0, [], Value.pointer t_), (11, [], Value.bool true), (12, [], Value.pointer pp)] : GEnv)) hp_1) ?_
       refine mreg_run [.sure] 11 [(0, [], Value.pointer t_), (11, [], Value.bool true), (12, [], Value.pointer (some ⟨(pblk t_), (poff t_), none⟩)), (13, [], Value.pointer (some ⟨(pblk t_), (poff t_), none⟩))] (by kernel_rfl) (by kernel_rfl) ?_
       refine mreg_run [.sure] 12 [(0, [], Value.pointer t_), (11, [], Value.bool true), (14, [], Value.pointer (some ⟨(pblk t_), (poff t_) + 10, none⟩))] (by kernel_rfl) (by kernel_rfl) ?_
       obtain ⟨v15, hc, h⟩ := h
       refine mreg_load1 (i := 12) (by kernel_rfl) (t := 100) (a := (Operand.tmp 14)) (b := (pblk t_)) (o := ((poff t_) + 10)) (ty := 100) (dst := some 15) (by kernel_rfl) (by kernel_rfl) (by kernel_rfl) hc ?_
       refine mreg_run [.sure, .sure, .plain, .plain, .plain] 18 [(0, [], Value.pointer t_), (19, [], Value.bool (((v15.len : Nat) : Int) == 0)), (20, [(19, true)], Value.pointer t_)] (by kernel_rfl) (by kernel_rfl) ?_
       refine mreg_split 19 (((v15.len : Nat) : Int) == 0) (by kernel_rfl) (fun hb => ?_) (fun hb => ?_)
       · replace h := h.1 hb
         refine mreg_run [] 18 [(0, [], Value.pointer t_), (19, [], Value.bool true), (20, [], Value.pointer t_)] (by kernel_rfl) (by kernel_rfl) ?_
         refine mreg_run [] 18 [(0, [], Value.pointer t_), (19, [], Value.bool true), (20, [], Value.pointer t_)] (by kernel_rfl) (by kernel_rfl) ?_
         obtain ⟨hp_2, h⟩ := h
         refine mreg_conv [(0, [], Value.pointer t_), (19, [], Value.bool true), (20, [], Value.pointer (some ⟨(pblk t_), (poff t_), none⟩))] (congrArg (fun pp => ([(0, [], Value.pointer t_), (19, [], Value.bool true), (20, [], Value.pointer pp)] : GEnv)) hp_2) ?_
         refine mreg_run [.sure] 19 [(0, [], Value.pointer t_), (19, [], Value.bool true), (20, [], Value.pointer (some ⟨(pblk t_), (poff t_), none⟩)), (21, [], Value.pointer (some ⟨(pblk t_), (poff t_), none⟩))] (by kernel_rfl) (by kernel_rfl) ?_
         refine mreg_run [.sure] 20 [(0, [], Value.pointer t_), (19, [], Value.bool true), (22, [], Value.pointer (some ⟨(pblk t_), (poff t_) + 12, none⟩))] (by kernel_rfl) (by kernel_rfl) ?_
         obtain ⟨v23, hc, h⟩ := h
         refine mreg_load1 (i := 20) (by kernel_rfl) (t := 101) (a := (Operand.tmp 22)) (b := (pblk t_)) (o := ((poff t_) + 12)) (ty := 101) (dst := some 23) (by kernel_rfl) (by kernel_rfl) (by kernel_rfl) hc ?_
         refine mreg_run [.sure, .sure] 23 [(19, [], Value.bool true), (24, [], Value.int .i64 ((v23.len : Nat) : Int)), (25, [], Value.pointer t_)] (by kernel_rfl) (by kernel_rfl) ?_
         obtain ⟨hp_3, h⟩ := h
         refine mreg_conv [(19, [], Value.bool true), (24, [], Value.int .i64 ((v23.len : Nat) : Int)), (25, [], Value.pointer (some ⟨(pblk t_), (poff t_), none⟩))] (congrArg (fun pp => ([(19, [], Value.bool true), (24, [], Value.int .i64 ((v23.len : Nat) : Int)), (25, [], Value.pointer pp)] : GEnv)) hp_3) ?_
         refine mreg_run [.sure] 24 [(19, [], Value.bool true), (24, [], Value.int .i64 ((v23.len : Nat) : Int)), (25, [], Value.pointer (some ⟨(pblk t_), (poff t_), none⟩)), (26, [], Value.pointer (some ⟨(pblk t_), (poff t_), none⟩))] (by kernel_rfl) (by kernel_rfl) ?_
         refine mreg_run [.sure] 25 [(19, [], Value.bool true), (24, [], Value.int .i64 ((v23.len : Nat) : Int)), (27, [], Value.pointer (some ⟨(pblk t_), (poff t_) + 11, none⟩))] (by kernel_rfl) (by kernel_rfl) ?_
         obtain ⟨v28, hc, h⟩ := h
         refine mreg_load1 (i := 25) (by kernel_rfl) (t := 3) (a := (Operand.tmp 27)) (b := (pblk t_)) (o := ((poff t_) + 11)) (ty := 3) (dst := some 28) (by kernel_rfl) (by kernel_rfl) (by kernel_rfl) hc ?_
         refine mreg_run [.sure, .plain, .plain] 29 [(2, [], Value.bool (((v23.len : Nat) : Int) == v28))] (by kernel_rfl) (by kernel_rfl) ?_
         refine mreg_end [(2, Value.bool (((v23.len : Nat) : Int) == v28))] (by kernel_rfl) (by kernel_rfl) (by kernel_rfl) ?_
         change WpE _ _ c35_6 _ _ _
         refine wpE_ret (by kernel_rfl) ?_
         repeat (first | refine seqQ_ret ?_ | refine blockQ_ret ?_ | refine loopQ_ret ?_ | refine cutQ_ret ?_)
         exact retS (rs := [(ResultVar.tmp 2)]) (v := Value.bool (((v23.len : Nat) : Int) == v28)) (by kernel_rfl) (⟨by kernel_rfl, trivial⟩) ⟨(((v23.len : Nat) : Int) == v28), rfl, h⟩
       · replace h := h.2 hb
         refine mreg_run [] 18 [(0, [], Value.pointer t_), (19, [], Value.bool false), (20, [], undef)] (by kernel_rfl) (by kernel_rfl) ?_
         refine mreg_run [.skip, .skip, .skip, .skip, .skip, .skip, .skip, .skip, .skip, .plain, .plain] 29 [(2, [], Value.bool false)] (by kernel_rfl) (by kernel_rfl) ?_
         refine mreg_end [(2, Value.bool false)] (by kernel_rfl) (by kernel_rfl) (by kernel_rfl) ?_
         change WpE _ _ c35_6 _ _ _
         refine wpE_ret (by kernel_rfl) ?_
         repeat (first | refine seqQ_ret ?_ | refine blockQ_ret ?_ | refine loopQ_ret ?_ | refine cutQ_ret ?_)
         exact retS (rs := [(ResultVar.tmp 2)]) (v := Value.bool false) (by kernel_rfl) (⟨by kernel_rfl, trivial⟩) ⟨false, rfl, h⟩
     · replace h := h.2 hb
       refine mreg_run [] 10 [(0, [], Value.pointer t_), (11, [], Value.bool false), (12, [], undef)] (by kernel_rfl) (by kernel_rfl) ?_
       refine mreg_run [.skip, .skip, .skip, .skip, .skip, .plain, .plain, .skip, .skip, .skip, .skip, .skip, .skip, .skip, .skip, .skip, .skip, .plain, .plain] 29 [(2, [], Value.bool false)] (by kernel_rfl) (by kernel_rfl) ?_
       refine mreg_end [(2, Value.bool false)] (by kernel_rfl) (by kernel_rfl) (by kernel_rfl) ?_
       change WpE _ _ c35_6 _ _ _
       refine wpE_ret (by kernel_rfl) ?_
       repeat (first | refine seqQ_ret ?_ | refine blockQ_ret ?_ | refine loopQ_ret ?_ | refine cutQ_ret ?_)
       exact retS (rs := [(ResultVar.tmp 2)]) (v := Value.bool false) (by kernel_rfl) (⟨by kernel_rfl, trivial⟩) ⟨false, rfl, h⟩
   · replace h := h.2 hb
     refine mreg_run [] 4 [(0, [], Value.pointer t_), (5, [], Value.bool false), (6, [], undef)] (by kernel_rfl) (by kernel_rfl) ?_
     refine mreg_run [.skip, .skip, .skip, .plain, .plain, .skip, .skip, .skip, .skip, .skip, .skip, .plain, .plain, .skip, .skip, .skip, .skip, .skip, .skip, .skip, .skip, .skip, .skip, .plain, .plain] 29 [(2, [], Value.bool false)] (by kernel_rfl) (by kernel_rfl) ?_
     refine mreg_end [(2, Value.bool false)] (by kernel_rfl) (by kernel_rfl) (by kernel_rfl) ?_
     change WpE _ _ c35_6 _ _ _
     refine wpE_ret (by kernel_rfl) ?_
     repeat (first | refine seqQ_ret ?_ | refine blockQ_ret ?_ | refine loopQ_ret ?_ | refine cutQ_ret ?_)
     exact retS (rs := [(ResultVar.tmp 2)]) (v := Value.bool false) (by kernel_rfl) (⟨by kernel_rfl, trivial⟩) ⟨false, rfl, h⟩
 · rintro e w' ⟨v, rfl, r0, rfl, h⟩; exact ⟨r0, rfl, h⟩

/-! ### (*towpath/call.Task).Sent (function 36) -/
def c36_0 := cb_ Try.f36
def c36_3 := cr_ c36_0
def c36_4 := cl_ c36_3
def c36_5 := cl_ c36_4
def c36_6 := cl_ c36_5
def r36_6 := co_ c36_6
def c36_8 := cr_ c36_5
def c36_9 := cl_ c36_8
def c36_12 := cr_ c36_9
def c36_13 := cr_ c36_8
def c36_14 := cl_ c36_13
def r36_14 := co_ c36_14
def c36_16 := cr_ c36_13
def c36_17 := cl_ c36_16
def c36_20 := cr_ c36_17
def c36_21 := cr_ c36_16
def c36_22 := cr_ c36_3
def c36_23 := cl_ c36_22
def r36_23 := co_ c36_23
def c36_25 := cr_ c36_22
def c36_26 := cl_ c36_25
def r36_26 := co_ c36_26
def c36_28 := cr_ c36_25
def c36_31 := cr_ c36_28

theorem S_call_Task_Sent {t_ : Option Addr} {w : World} {R : Int → World → Prop} (h : F_call_Task_Sent t_ R w) : C_call_Task_Sent t_ w R := by
 unfold F_call_Task_Sent at h
 unfold C_call_Task_Sent
 refine Calls.mono (calls_of_wpE (args := [Value.pointer t_]) (R := fun v w' => ∃ (r0 : Int), v = Value.int .i64 r0 ∧ R r0 w') Try.func36 (c := c36_0) (by kernel_rfl) 29 (by kernel_rfl) (by kernel_rfl) [(0, Value.pointer t_)] (by kernel_rfl) ?_) ?_
 · refine Zp c36_3 P1 [(0, .pointer t_)] ?_
   refine Zs c36_4 c36_22 ?_
   refine Zb 0 c36_5 ?_
   refine Zt r36_6 c36_8 ?_
   refine Zn P1 1 [(0, [], .pointer t_), (4, [], .pointer t_)] ?_
   refine Zm 63 #[.pointer t_] (some 5) (Calls.mono h ?_)
   rintro _ w1 ⟨v5, rfl, h⟩
   refine ⟨_, rfl, ?_⟩
   refine Zf P2 [(0, .pointer t_), (3, .bool (!v5))] ?_
   change WpE _ _ c36_8 _ _ _
   refine Zc 3 (!v5) c36_9 c36_13 (fun hb => ?_) (fun hb => ?_)
   · replace h := h.1 hb
     refine Zp c36_12 P1 [(2, .int .i64 2)] ?_
     refine wpE_ret (by kernel_rfl) ?_
     repeat (first | refine seqQ_ret ?_ | refine blockQ_ret ?_ | refine loopQ_ret ?_ | refine cutQ_ret ?_)
     exact retS (rs := [(ResultVar.tmp 2)]) (v := Value.int .i64 2) (by kernel_rfl) (⟨by kernel_rfl, trivial⟩) ⟨2, rfl, h⟩
   · replace h := h.2 hb
     refine Zt r36_14 c36_16 ?_
     refine Zn P1 1 [(0, [], .pointer t_), (8, [], .pointer t_)] ?_
     obtain ⟨hp_3, h⟩ := h
     refine Zv (fun pp => [(0, [], .pointer t_), (8, [], .pointer pp)]) hp_3 ?_
     refine Zn P1 2 [(0, [], .pointer t_), (8, [], .pointer (some ⟨(pblk t_), (poff t_), none⟩)), (9, [], .pointer (some ⟨(pblk t_), (poff t_), none⟩))] ?_
     refine Zn P1 3 [(0, [], .pointer t_), (10, [], .pointer (some ⟨(pblk t_), (poff t_) + 10, none⟩))] ?_
     obtain ⟨v11, hc, h⟩ := h
     refine Zl 100 10 (pblk t_) ((poff t_) + 10) 100 11 hc ?_
     refine Zf P3 [(0, .pointer t_), (7, .bool (((v11.len : Nat) : Int) == 0))] ?_
     change WpE _ _ c36_16 _ _ _
     refine Zc 7 (((v11.len : Nat) : Int) == 0) c36_17 c36_21 (fun hb => ?_) (fun hb => ?_)
     · replace h := h.1 hb
       refine Zp c36_20 P1 [(2, .int .i64 9)] ?_
       refine wpE_ret (by kernel_rfl) ?_
       repeat (first | refine seqQ_ret ?_ | refine blockQ_ret ?_ | refine loopQ_ret ?_ | refine cutQ_ret ?_)
       exact retS (rs := [(ResultVar.tmp 2)]) (v := Value.int .i64 9) (by kernel_rfl) (⟨by kernel_rfl, trivial⟩) ⟨9, rfl, h⟩
     · replace h := h.2 hb
       refine wpE_skip (by kernel_rfl) ?_
       change WpE _ _ c36_22 _ _ _
       refine Zt r36_23 c36_25 ?_
       refine Zn P2 2 [(0, [], .pointer t_), (14, [], .pointer t_), (15, [], .pointer t_)] ?_
       obtain ⟨hp_6, h⟩ := h
       refine Zv (fun pp => [(0, [], .pointer t_), (14, [], .pointer t_), (15, [], .pointer pp)]) hp_6 ?_
       refine Zn P1 3 [(0, [], .pointer t_), (14, [], .pointer t_), (15, [], .pointer (some ⟨(pblk t_), (poff t_), none⟩)), (16, [], .pointer (some ⟨(pblk t_), (poff t_), none⟩))] ?_
       refine Zn P1 4 [(0, [], .pointer t_), (14, [], .pointer t_), (17, [], .pointer (some ⟨(pblk t_), (poff t_) + 10, none⟩))] ?_
       obtain ⟨v18, hc, h⟩ := h
       refine Zl 100 17 (pblk t_) ((poff t_) + 10) 100 18 hc ?_
       refine Zn [] 5 [(0, [], .pointer t_), (14, [], .pointer t_), (18, [], sv_ v18)] ?_
       obtain ⟨hc, h⟩ := h
       refine reg_slice (t := 100) (e := 133) (x := (Operand.tmp 18)) (lo := (Operand.const (Value.int Go.IntKind.i64 1))) (s := v18) (sz := 10) (k := .i64) (a := 1) (ty := 100) (dst := some 19) (by kernel_rfl) (by kernel_rfl) (by kernel_rfl) (by kernel_rfl) (by kernel_rfl) hc (fun s hs => ?_)
       replace h := h s hs
       clear hs
       refine Zn [] 6 [(0, [], .pointer t_), (14, [], .pointer t_), (19, [], sv_ s)] ?_
       obtain ⟨hp_7, h⟩ := h
       refine Zv (fun pp => [(0, [], .pointer t_), (14, [], .pointer pp), (19, [], sv_ s)]) hp_7 ?_
       refine Zn P1 7 [(0, [], .pointer t_), (14, [], .pointer (some ⟨(pblk t_), (poff t_), none⟩)), (19, [], sv_ s), (20, [], .pointer (some ⟨(pblk t_), (poff t_), none⟩))] ?_
       refine Zn P1 8 [(0, [], .pointer t_), (19, [], sv_ s), (21, [], .pointer (some ⟨(pblk t_), (poff t_) + 10, none⟩))] ?_
       obtain ⟨hc, h⟩ := h
       refine Zo 100 21 19 (pblk t_) ((poff t_) + 10) 1 [sv_ s] hc (fun w2 hw => ?_)
       replace h := h w2 hw
       clear hw
       refine Ze [(0, .pointer t_)] ?_
       change WpE _ _ c36_25 _ _ _
       refine Zt r36_26 c36_28 ?_
       refine Zn P1 1 [(22, [], .pointer t_)] ?_
       obtain ⟨hp_9, h⟩ := h
       refine Zv (fun pp => [(22, [], .pointer pp)]) hp_9 ?_
       refine Zn P1 2 [(22, [], .pointer (some ⟨(pblk t_), (poff t_), none⟩)), (23, [], .pointer (some ⟨(pblk t_), (poff t_), none⟩))] ?_
       refine Zn P1 3 [(22, [], .pointer (some ⟨(pblk t_), (poff t_), none⟩)), (24, [], .pointer (some ⟨(pblk t_), (poff t_) + 11, none⟩))] ?_
       obtain ⟨v25, hc, h⟩ := h
       refine Zl 3 24 (pblk t_) ((poff t_) + 11) 3 25 hc ?_
       refine Zn P3 7 [(26, [], .int .i64 (IntKind.i64.wrap (v25 + 1))), (28, [], .pointer (some ⟨(pblk t_), (poff t_) + 11, none⟩))] ?_
       obtain ⟨hc, h⟩ := h
       refine Zo 3 28 26 (pblk t_) ((poff t_) + 11) 1 [.int .i64 (IntKind.i64.wrap (v25 + 1))] hc (fun w3 hw => ?_)
       replace h := h w3 hw
       clear hw
       refine Ze [] ?_
       change WpE _ _ c36_28 _ _ _
       refine Zp c36_31 P1 [(2, .int .i64 0)] ?_
       refine wpE_ret (by kernel_rfl) ?_
       repeat (first | refine seqQ_ret ?_ | refine blockQ_ret ?_ | refine loopQ_ret ?_ | refine cutQ_ret ?_)
       exact retS (rs := [(ResultVar.tmp 2)]) (v := Value.int .i64 0) (by kernel_rfl) (⟨by kernel_rfl, trivial⟩) ⟨0, rfl, h⟩
 · rintro e w' ⟨v, rfl, r0, rfl, h⟩; exact ⟨r0, rfl, h⟩

/-! ### (*towpath/call.Task).Got (function 60) -/
def c60_0 := cb_ Try.f60
def c60_1 := cl_ c60_0
def r60_1 := co_ c60_1
def c60_3 := cr_ c60_0
def c60_4 := cl_ c60_3
def c60_5 := cl_ c60_4
def c60_6 := cl_ c60_5
def r60_6 := co_ c60_6
def c60_8 := cr_ c60_5
def c60_9 := cl_ c60_8
def c60_12 := cr_ c60_9
def c60_13 := cr_ c60_8
def c60_14 := cl_ c60_13
def r60_14 := co_ c60_14
def c60_16 := cr_ c60_13
def c60_17 := cl_ c60_16
def c60_20 := cr_ c60_17
def c60_21 := cr_ c60_16
def c60_22 := cl_ c60_21
def r60_22 := co_ c60_22
def c60_24 := cr_ c60_21
def c60_25 := cl_ c60_24
def c60_28 := cr_ c60_25
def c60_29 := cr_ c60_24
def c60_30 := cr_ c60_3
def c60_31 := cl_ c60_30
def r60_31 := co_ c60_31
def c60_33 := cr_ c60_30
def c60_34 := cl_ c60_33
def c60_35 := cl_ c60_34
def r60_35 := co_ c60_35
def c60_37 := cr_ c60_34
def c60_38 := cl_ c60_37
def c60_39 := cl_ c60_38
def c60_42 := cr_ c60_39
def c60_43 := cl_ c60_42
def c60_44 := cl_ c60_43
def c60_45 := cr_ c60_43
def c60_46 := cr_ c60_42
def c60_47 := cl_ c60_46
def c60_48 := cl_ c60_47
def c60_49 := cl_ c60_48
def r60_49 := co_ c60_49
def c60_51 := cr_ c60_48
def r60_51 := co_ c60_51
def c60_53 := cr_ c60_46
def r60_53 := co_ c60_53
def c60_55 := cr_ c60_33
def c60_56 := cl_ c60_55
def r60_56 := co_ c60_56
def c60_58 := cr_ c60_55
def c60_61 := cr_ c60_58
def o_call_Task_Got_51 : List Nat := [0, 1, 2, 3, 4, 5, 6, 7, 8, 9]
def o_call_Task_Got_56 : List Nat := [0, 1, 2, 3, 4, 5, 6, 7, 8, 10, 11, 12, 9, 13, 14, 15, 16, 17, 18]

theorem S_call_Task_Got {t_ : Option Addr} {r : T_api_Resp} {w : World} {R : Int → World → Prop} (h : F_call_Task_Got t_ r R w) : C_call_Task_Got t_ r w R := by
 unfold F_call_Task_Got at h
 unfold C_call_Task_Got
 refine Calls.mono (calls_of_wpE (args := [Value.pointer t_, Value.agg #[Value.int .i64 r.To, Value.bool r.OK, sv_ r.Entries, sv_ r.Held, Value.int .i64 r.Count]]) (R := fun v w' => ∃ (r0 : Int), v = Value.int .i64 r0 ∧ R r0 w') Try.func60 (c := c60_0) (by kernel_rfl) 70 (by kernel_rfl) (by kernel_rfl) [(0, Value.pointer t_), (1, Value.agg #[Value.int .i64 r.To, Value.bool r.OK, sv_ r.Entries, sv_ r.Held, Value.int .i64 r.Count])] (by kernel_rfl) ?_) ?_
 · refine Zt r60_1 c60_3 ?_
   refine Zn [] 0 [(0, [], .pointer t_), (1, [], .agg #[.int .i64 r.To, .bool r.OK, sv_ r.Entries, sv_ r.Held, .int .i64 r.Count])] ?_
   refine Zw (some 3) (fun bb => pv_ bb) (Obj.cells ([.int .i64 r.To, .bool r.OK, sv_ r.Entries, sv_ r.Held, .int .i64 r.Count]).toArray ty_api_Resp (0, 0)) (fun b_ w1 hb hw => ?_)
   replace h := h b_ w1 hb hw
   clear hb hw
   refine Zf P1 [(0, .pointer t_), (3, pv_ b_)] ?_
   change WpE _ _ c60_3 _ _ _
   refine Zs c60_4 c60_30 ?_
   refine Zb 0 c60_5 ?_
   refine Zt r60_6 c60_8 ?_
   refine Zn P1 1 [(0, [], .pointer t_), (3, [], pv_ b_), (9, [], .pointer t_)] ?_
   refine Zm 63 #[.pointer t_] (some 10) (Calls.mono h ?_)
   rintro _ w2 ⟨v10, rfl, h⟩
   refine ⟨_, rfl, ?_⟩
   refine Zf P2 [(0, .pointer t_), (3, pv_ b_), (8, .bool (!v10))] ?_
   change WpE _ _ c60_8 _ _ _
   refine Zc 8 (!v10) c60_9 c60_13 (fun hb => ?_) (fun hb => ?_)
   · replace h := h.1 hb
     refine Zp c60_12 P1 [(4, .int .i64 2)] ?_
     refine wpE_ret (by kernel_rfl) ?_
     repeat (first | refine seqQ_ret ?_ | refine blockQ_ret ?_ | refine loopQ_ret ?_ | refine cutQ_ret ?_)
     exact retS (rs := [(ResultVar.tmp 4)]) (v := Value.int .i64 2) (by kernel_rfl) (⟨by kernel_rfl, trivial⟩) ⟨2, rfl, h⟩
   · replace h := h.2 hb
     refine Zs c60_14 c60_16 ?_
     refine wpE_drawregion (id := 3) (ops := r60_14) (by kernel_rfl) (by kernel_rfl) (by kernel_rfl) ?_
     refine qreg_run P1 1 [(0, [], Value.pointer t_), (3, [], pv_ b_), (13, [], Value.pointer t_)] (by kernel_rfl) (by kernel_rfl) ?_
     obtain ⟨hp_8, h⟩ := h
     refine qreg_conv [(0, [], Value.pointer t_), (3, [], pv_ b_), (13, [], Value.pointer (some ⟨(pblk t_), (poff t_), none⟩))] (congrArg (fun pp => ([(0, [], Value.pointer t_), (3, [], pv_ b_), (13, [], Value.pointer pp)] : GEnv)) hp_8) ?_
     refine qreg_run P1 2 [(0, [], Value.pointer t_), (3, [], pv_ b_), (13, [], Value.pointer (some ⟨(pblk t_), (poff t_), none⟩)), (14, [], Value.pointer (some ⟨(pblk t_), (poff t_), none⟩))] (by kernel_rfl) (by kernel_rfl) ?_
     refine qreg_run P1 3 [(0, [], Value.pointer t_), (3, [], pv_ b_), (15, [], Value.pointer (some ⟨(pblk t_), (poff t_) + 12, none⟩))] (by kernel_rfl) (by kernel_rfl) ?_
     obtain ⟨v16, hc, h⟩ := h
     refine qreg_load1 (t := 101) (a := (Operand.tmp 15)) (b := (pblk t_)) (o := ((poff t_) + 12)) (ty := 101) (dst := some 16) (by kernel_rfl) (by kernel_rfl) (by kernel_rfl) hc ?_
     refine qreg_run P2 6 [(0, [], Value.pointer t_), (3, [], pv_ b_), (17, [], Value.int .i64 ((v16.len : Nat) : Int)), (18, [], Value.pointer t_)] (by kernel_rfl) (by kernel_rfl) ?_
     obtain ⟨hp_9, h⟩ := h
     refine qreg_conv [(0, [], Value.pointer t_), (3, [], pv_ b_), (17, [], Value.int .i64 ((v16.len : Nat) : Int)), (18, [], Value.pointer (some ⟨(pblk t_), (poff t_), none⟩))] (congrArg (fun pp => ([(0, [], Value.pointer t_), (3, [], pv_ b_), (17, [], Value.int .i64 ((v16.len : Nat) : Int)), (18, [], Value.pointer pp)] : GEnv)) hp_9) ?_
     refine qreg_run P1 7 [(0, [], Value.pointer t_), (3, [], pv_ b_), (17, [], Value.int .i64 ((v16.len : Nat) : Int)), (18, [], Value.pointer (some ⟨(pblk t_), (poff t_), none⟩)), (19, [], Value.pointer (some ⟨(pblk t_), (poff t_), none⟩))] (by kernel_rfl) (by kernel_rfl) ?_
     refine qreg_run P1 8 [(0, [], Value.pointer t_), (3, [], pv_ b_), (17, [], Value.int .i64 ((v16.len : Nat) : Int)), (20, [], Value.pointer (some ⟨(pblk t_), (poff t_) + 11, none⟩))] (by kernel_rfl) (by kernel_rfl) ?_
     obtain ⟨v21, hc, h⟩ := h
     refine qreg_load1 (t := 3) (a := (Operand.tmp 20)) (b := (pblk t_)) (o := ((poff t_) + 11)) (ty := 3) (dst := some 21) (by kernel_rfl) (by kernel_rfl) (by kernel_rfl) hc ?_
     refine qreg_run P2 11 [(0, [], Value.pointer t_), (3, [], pv_ b_), (12, [], Value.bool (decide (((v16.len : Nat) : Int) ≥ v21)))] (by kernel_rfl) (by kernel_rfl) ?_
     refine qreg_end [(0, Value.pointer t_), (3, pv_ b_), (12, Value.bool (decide (((v16.len : Nat) : Int) ≥ v21)))] (by kernel_rfl) (by kernel_rfl) (fun w3 hw => ?_)
     replace h := h w3 hw
     clear hw
     change WpE _ _ c60_16 _ _ _
     refine Zc 12 (decide (((v16.len : Nat) : Int) ≥ v21)) c60_17 c60_21 (fun hb => ?_) (fun hb => ?_)
     · replace h := h.1 hb
       refine Zp c60_20 P1 [(4, .int .i64 9)] ?_
       refine wpE_ret (by kernel_rfl) ?_
       repeat (first | refine seqQ_ret ?_ | refine blockQ_ret ?_ | refine loopQ_ret ?_ | refine cutQ_ret ?_)
       exact retS (rs := [(ResultVar.tmp 4)]) (v := Value.int .i64 9) (by kernel_rfl) (⟨by kernel_rfl, trivial⟩) ⟨9, rfl, h⟩
     · replace h := h.2 hb
       refine Zs c60_22 c60_24 ?_
       refine wpE_drawregion (id := 5) (ops := r60_22) (by kernel_rfl) (by kernel_rfl) (by kernel_rfl) ?_
       refine qreg_run P1 1 [(0, [], Value.pointer t_), (3, [], pv_ b_), (24, [], pv_ b_)] (by kernel_rfl) (by kernel_rfl) ?_
       obtain ⟨v25, hc, h⟩ := h
       refine qreg_load1 (t := 3) (a := (Operand.tmp 24)) (b := b_) (o := 0) (ty := 3) (dst := some 25) (by kernel_rfl) (by kernel_rfl) (by kernel_rfl) hc ?_
       refine qreg_run P1 3 [(0, [], Value.pointer t_), (3, [], pv_ b_), (25, [], Value.int .i64 v25), (26, [], Value.pointer t_)] (by kernel_rfl) (by kernel_rfl) ?_
       obtain ⟨hp_11, h⟩ := h
       refine qreg_conv [(0, [], Value.pointer t_), (3, [], pv_ b_), (25, [], Value.int .i64 v25), (26, [], Value.pointer (some ⟨(pblk t_), (poff t_), none⟩))] (congrArg (fun pp => ([(0, [], Value.pointer t_), (3, [], pv_ b_), (25, [], Value.int .i64 v25), (26, [], Value.pointer pp)] : GEnv)) hp_11) ?_
       refine qreg_run P1 4 [(0, [], Value.pointer t_), (3, [], pv_ b_), (25, [], Value.int .i64 v25), (26, [], Value.pointer (some ⟨(pblk t_), (poff t_), none⟩)), (27, [], Value.pointer (some ⟨(pblk t_), (poff t_), none⟩))] (by kernel_rfl) (by kernel_rfl) ?_
       refine qreg_run P1 5 [(0, [], Value.pointer t_), (3, [], pv_ b_), (25, [], Value.int .i64 v25), (28, [], Value.pointer (some ⟨(pblk t_), (poff t_), none⟩))] (by kernel_rfl) (by kernel_rfl) ?_
       obtain ⟨v29, hc, h⟩ := h
       refine qreg_load1 (t := 3) (a := (Operand.tmp 28)) (b := (pblk t_)) (o := (poff t_)) (ty := 3) (dst := some 29) (by kernel_rfl) (by kernel_rfl) (by kernel_rfl) hc ?_
       refine qreg_run P2 8 [(0, [], Value.pointer t_), (3, [], pv_ b_), (23, [], Value.bool (v25 != v29))] (by kernel_rfl) (by kernel_rfl) ?_
       refine qreg_end [(0, Value.pointer t_), (3, pv_ b_), (23, Value.bool (v25 != v29))] (by kernel_rfl) (by kernel_rfl) (fun w4 hw => ?_)
       replace h := h w4 hw
       clear hw
       change WpE _ _ c60_24 _ _ _
       refine Zc 23 (v25 != v29) c60_25 c60_29 (fun hb => ?_) (fun hb => ?_)
       · replace h := h.1 hb
         refine Zp c60_28 P1 [(4, .int .i64 1)] ?_
         refine wpE_ret (by kernel_rfl) ?_
         repeat (first | refine seqQ_ret ?_ | refine blockQ_ret ?_ | refine loopQ_ret ?_ | refine cutQ_ret ?_)
         exact retS (rs := [(ResultVar.tmp 4)]) (v := Value.int .i64 1) (by kernel_rfl) (⟨by kernel_rfl, trivial⟩) ⟨1, rfl, h⟩
       · replace h := h.2 hb
         refine wpE_skip (by kernel_rfl) ?_
         change WpE _ _ c60_30 _ _ _
         refine Zt r60_31 c60_33 ?_
         refine Zn P1 1 [(0, [], .pointer t_), (3, [], pv_ b_), (31, [], .pointer (some ⟨b_, 3, none⟩))] ?_
         obtain ⟨v32, hc, h⟩ := h
         refine Zl 93 31 b_ 3 93 32 hc ?_
         refine Zn P1 3 [(0, [], .pointer t_), (3, [], pv_ b_), (33, [], .int .i64 ((v32.len : Nat) : Int))] ?_
         obtain ⟨h0, h1, h2, h⟩ := h
         refine reg_makeSlice (t := 93) (e := 143) (lo := (Operand.const (Value.int Go.IntKind.i64 0))) (co := (Operand.tmp 33)) (l := 0) (c := ((v32.len : Nat) : Int)) (sz := 2) (by_ := 40) (zs := [Value.string ByteArray.empty, Value.slice none 0 0]) (ty := 93) (dst := some 34) (by kernel_rfl) (by kernel_rfl) (by kernel_rfl) (by kernel_rfl) (by kernel_rfl) (by kernel_rfl) (by kernel_rfl) (by kernel_rfl) (by kernel_rfl) h0 h1 h2 (fun b_1 w5 hb hw => ?_)
         replace h := h b_1 w5 hb hw
         clear hb hw
         refine Zf P1 [(0, .pointer t_), (3, pv_ b_), (5, .slice (some ⟨b_1, 0, none⟩) 0 (((v32.len : Nat) : Int).toNat))] ?_
         change WpE _ _ c60_33 _ _ _
         refine Zs c60_34 c60_55 ?_
         refine Zt r60_35 c60_37 ?_
         refine Zn P1 1 [(0, [], .pointer t_), (3, [], pv_ b_), (5, [], .slice (some ⟨b_1, 0, none⟩) 0 (((v32.len : Nat) : Int).toNat)), (35, [], .pointer (some ⟨b_, 3, none⟩))] ?_
         obtain ⟨v36, hc, h⟩ := h
         refine Zl 93 35 b_ 3 93 36 hc ?_
         refine Zf P2 [(0, .pointer t_), (3, pv_ b_), (5, .slice (some ⟨b_1, 0, none⟩) 0 (((v32.len : Nat) : Int).toNat)), (36, sv_ v36), (37, .int .i64 ((v36.len : Nat) : Int)), (38, .int .i64 0)] ?_
         change WpE _ _ c60_37 _ _ _
         refine Zb 1 c60_38 ?_
         obtain ⟨I, μ, h0, hr⟩ := h
         refine wpE_loop (x := c60_39) (by kernel_rfl) (fun m l w => ∃ (held : Slc) (t38 : Int), l = [(0, Value.pointer t_), (3, pv_ b_), (5, sv_ held), (36, sv_ v36), (37, Value.int .i64 ((v36.len : Nat) : Int)), (38, Value.int .i64 t38)] ∧ I held t38 w ∧ μ held t38 w = m) (l' := [(0, Value.pointer t_), (3, pv_ b_), (5, Value.slice (some ⟨b_1, 0, none⟩) 0 (((v32.len : Nat) : Int).toNat)), (36, sv_ v36), (37, Value.int .i64 ((v36.len : Nat) : Int)), (38, Value.int .i64 0)]) (Sub.mk (by kernel_rfl)) ⟨(Slc.mk (some ⟨b_1, 0, none⟩) 0 (((v32.len : Nat) : Int).toNat)), 0, rfl, h0, rfl⟩ ?_
         rintro _ _ w6 ⟨held, t38, rfl, hI, rfl⟩
         obtain ⟨again_, again__h, h⟩ : ∃ again_ : Slc → Int → World → Prop, (∀ held' t38' w', again_ held' t38' w' → I held' t38' w' ∧ μ held' t38' w' < μ held t38 w6) ∧ F_call_Task_Got_L0 t_ R b_ v36 again_ held t38 w6 := ⟨_, fun _ _ _ h => h, hr held t38 w6 hI⟩
         clear h0 hI
         unfold F_call_Task_Got_L0 at h
         refine Zp c60_42 P1 [(0, .pointer t_), (3, pv_ b_), (5, sv_ held), (36, sv_ v36), (37, .int .i64 ((v36.len : Nat) : Int)), (38, .int .i64 t38), (39, .bool (decide (t38 < ((v36.len : Nat) : Int))))] ?_
         refine Zs c60_43 c60_46 ?_
         refine Zc 39 (decide (t38 < ((v36.len : Nat) : Int))) c60_44 c60_45 (fun hb => ?_) (fun hb => ?_)
         · replace h := h.1 hb
           refine wpE_skip (by kernel_rfl) ?_
           change WpE _ _ c60_46 _ _ _
           refine Zs c60_47 c60_53 ?_
           refine Zb 2 c60_48 ?_
           refine Zt r60_49 c60_51 ?_
           refine Zn [] 0 [(0, [], .pointer t_), (3, [], pv_ b_), (5, [], sv_ held), (36, [], sv_ v36), (37, [], .int .i64 ((v36.len : Nat) : Int)), (38, [], .int .i64 t38)] ?_
           obtain ⟨hp_19, h⟩ := h
           refine Zv (fun pp => [(0, [], .pointer t_), (3, [], pv_ b_), (5, [], sv_ held), (36, [], .slice pp v36.len v36.cap), (37, [], .int .i64 ((v36.len : Nat) : Int)), (38, [], .int .i64 t38)]) hp_19 ?_
           obtain ⟨h0, h1, h⟩ := h
           refine Zj 93 143 36 38 (pblk v36.ptr) (poff v36.ptr) v36.len v36.cap t38 2 40 0 h0 h1 ?_
           refine Zn [] 1 [(0, [], .pointer t_), (3, [], pv_ b_), (5, [], sv_ held), (36, [], .slice (some ⟨(pblk v36.ptr), (poff v36.ptr), none⟩) v36.len v36.cap), (37, [], .int .i64 ((v36.len : Nat) : Int)), (38, [], .int .i64 t38), (40, [], .pointer (some ⟨(pblk v36.ptr), (poff v36.ptr) + t38.toNat * 2, none⟩))] ?_
           obtain ⟨v41, hc, h⟩ := h
           refine reg_loadN (t := 143) (a := (Operand.tmp 40)) (b := (pblk v36.ptr)) (o := ((poff v36.ptr) + t38.toNat * 2)) (ty := 143) (dst := some 41) [Value.string v41.Key, sv_ v41.Versions] (by kernel_rfl) (by kernel_rfl) (by kernel_rfl) (k := 2) (by kernel_rfl) (by kernel_rfl) hc ?_
           refine Zn [] 2 [(0, [], .pointer t_), (3, [], pv_ b_), (5, [], sv_ held), (36, [], .slice (some ⟨(pblk v36.ptr), (poff v36.ptr), none⟩) v36.len v36.cap), (37, [], .int .i64 ((v36.len : Nat) : Int)), (38, [], .int .i64 t38), (41, [], .agg #[.string v41.Key, sv_ v41.Versions])] ?_
           refine Zw (some 7) (fun bb => pv_ bb) (Obj.cells ([.string ByteArray.empty, .slice none 0 0]).toArray ty_api_Held (0, 0)) (fun b_2 w7 hb hw => ?_)
           replace h := h b_2 w7 hb hw
           clear hb hw
           refine Zn [] 3 [(0, [], .pointer t_), (3, [], pv_ b_), (5, [], sv_ held), (7, [], pv_ b_2), (36, [], .slice (some ⟨(pblk v36.ptr), (poff v36.ptr), none⟩) v36.len v36.cap), (37, [], .int .i64 ((v36.len : Nat) : Int)), (38, [], .int .i64 t38), (41, [], .agg #[.string v41.Key, sv_ v41.Versions])] ?_
           obtain ⟨hc, h⟩ := h
           refine Zo 143 7 41 b_2 0 2 [.string v41.Key, sv_ v41.Versions] hc (fun w8 hw => ?_)
           replace h := h w8 hw
           clear hw
           refine Zn [] 4 [(0, [], .pointer t_), (3, [], pv_ b_), (5, [], sv_ held), (7, [], pv_ b_2), (36, [], .slice (some ⟨(pblk v36.ptr), (poff v36.ptr), none⟩) v36.len v36.cap), (37, [], .int .i64 ((v36.len : Nat) : Int)), (38, [], .int .i64 t38)] ?_
           refine Zv (fun pp => [(0, [], .pointer t_), (3, [], pv_ b_), (5, [], sv_ held), (7, [], pv_ b_2), (36, [], .slice pp v36.len v36.cap), (37, [], .int .i64 ((v36.len : Nat) : Int)), (38, [], .int .i64 t38)]) hp_19.symm ?_
           refine Ze [(0, .pointer t_), (3, pv_ b_), (5, sv_ held), (7, pv_ b_2), (36, sv_ v36), (37, .int .i64 ((v36.len : Nat) : Int)), (38, .int .i64 t38)] ?_
           change WpE _ _ c60_51 _ _ _
           refine wpE_mixregion (id := 11) (ops := r60_51) o_call_Task_Got_51 (by kernel_rfl) (by kernel_rfl) (by kernel_rfl) (by kernel_rfl) (fun w9 hw => ?_)
           replace h := h w9 hw
           clear hw
           refine mreg_run P2 2 [(0, [], Value.pointer t_), (3, [], pv_ b_), (5, [], sv_ held), (7, [], pv_ b_2), (36, [], sv_ v36), (37, [], Value.int .i64 ((v36.len : Nat) : Int)), (38, [], Value.int .i64 t38), (42, [], sv_ held), (43, [], pv_ b_2)] (by kernel_rfl) (by kernel_rfl) ?_
           obtain ⟨v44, hc, h⟩ := h
           refine mreg_load1 (i := 2) (by kernel_rfl) (t := 9) (a := (Operand.tmp 43)) (b := b_2) (o := 0) (ty := 9) (dst := some 44) (by kernel_rfl) (by kernel_rfl) (by kernel_rfl) hc ?_
           refine mreg_run P1 4 [(0, [], Value.pointer t_), (3, [], pv_ b_), (5, [], sv_ held), (36, [], sv_ v36), (37, [], Value.int .i64 ((v36.len : Nat) : Int)), (38, [], Value.int .i64 t38), (42, [], sv_ held), (44, [], Value.string v44), (45, [], Value.pointer (some ⟨b_2, 1, none⟩))] (by kernel_rfl) (by kernel_rfl) ?_
           obtain ⟨v46, hc, h⟩ := h
           refine mreg_load1 (i := 4) (by kernel_rfl) (t := 141) (a := (Operand.tmp 45)) (b := b_2) (o := 1) (ty := 141) (dst := some 46) (by kernel_rfl) (by kernel_rfl) (by kernel_rfl) hc ?_
           refine mreg_run [] 5 [(0, [], Value.pointer t_), (3, [], pv_ b_), (5, [], sv_ held), (36, [], sv_ v36), (37, [], Value.int .i64 ((v36.len : Nat) : Int)), (38, [], Value.int .i64 t38), (42, [], sv_ held), (44, [], Value.string v44), (46, [], sv_ v46)] (by kernel_rfl) (by kernel_rfl) ?_
           refine mreg_enter (op := (Op.call (Call.mk (Callee.value (Operand.func 88)) #[(Operand.tmp 46)] #[141]))) (ty := 141) (dst := some 47) 5 [4, 3] [(2, fun w' => w'.cell? ⟨b_2, 0, none⟩ = some (Value.string v44))] 88 #[sv_ v46] (by kernel_rfl) (by kernel_rfl) (by kernel_rfl) (by kernel_rfl) (by kernel_rfl) (fun ww => by kernel_rfl) (Calls.mono h ?_)
           rintro _ w10 ⟨v47, rfl, h⟩
           obtain ⟨hk0, h⟩ := h
           refine ⟨_, rfl, ⟨hk0, trivial⟩, ?_⟩
           refine mreg_run P1 7 [(0, [], Value.pointer t_), (3, [], pv_ b_), (5, [], sv_ held), (36, [], sv_ v36), (37, [], Value.int .i64 ((v36.len : Nat) : Int)), (38, [], Value.int .i64 t38), (42, [], sv_ held), (48, [], Value.agg #[Value.string v44, sv_ v47])] (by kernel_rfl) (by kernel_rfl) ?_
           refine mreg_new (op := (Op.buildSlice 93 1 #[(0, (Operand.tmp 48))])) (ty := 93) (dst := some 49) 7 [6, 2, 5, 1, 4, 3] [] (fun bb => Value.slice (some ⟨bb, 0, none⟩) 1 1) (Obj.cells ([Value.string v44, sv_ v47]).toArray ty_api_Held (0, 0)) (by kernel_rfl) (by kernel_rfl) (by kernel_rfl) (by kernel_rfl) (by kernel_rfl) (by kernel_rfl) (fun b_3 w11 hb hw => ?_)
           replace h := h b_3 w11 hb hw
           clear hb hw
           refine ⟨trivial, ?_⟩
           refine mreg_run [] 8 [(0, [], Value.pointer t_), (3, [], pv_ b_), (5, [], sv_ held), (36, [], sv_ v36), (37, [], Value.int .i64 ((v36.len : Nat) : Int)), (38, [], Value.int .i64 t38), (42, [], sv_ held), (49, [], Value.slice (some ⟨b_3, 0, none⟩) 1 1)] (by kernel_rfl) (by kernel_rfl) ?_
           obtain ⟨src, hs, h⟩ := h
           refine mreg_append (t := 93) (tx := 93) (e := 143) (a := (Operand.tmp 42)) (xo := (Operand.tmp 49)) (s := held) (x := (Slc.mk (some ⟨b_3, 0, none⟩) 1 1)) (sz := 2) (by_ := 40) (zs := [Value.string ByteArray.empty, Value.slice none 0 0]) (ty := 93) (dst := some 50) 8 [0, 5, 7, 4, 6, 3, 2, 1] [] src (by kernel_rfl) (by kernel_rfl) (by kernel_rfl) (by kernel_rfl) (by kernel_rfl) (by kernel_rfl) (by kernel_rfl) (by kernel_rfl) (by kernel_rfl) (by kernel_rfl) (by kernel_rfl) (by kernel_rfl) (by kernel_rfl) hs (AppendW.mono h (fun held1 w12 h => ?_))
           refine ⟨trivial, ?_⟩
           refine mreg_run P1 10 [(0, [], Value.pointer t_), (3, [], pv_ b_), (5, [], sv_ held1), (36, [], sv_ v36), (37, [], Value.int .i64 ((v36.len : Nat) : Int)), (38, [], Value.int .i64 t38)] (by kernel_rfl) (by kernel_rfl) ?_
           refine mreg_end [(0, Value.pointer t_), (3, pv_ b_), (5, sv_ held1), (36, sv_ v36), (37, Value.int .i64 ((v36.len : Nat) : Int)), (38, Value.int .i64 t38)] (by kernel_rfl) (by kernel_rfl) (by kernel_rfl) ?_
           change WpE _ _ c60_53 _ _ _
           refine Zr r60_53 ?_
           refine Zf P2 [(0, .pointer t_), (3, pv_ b_), (5, sv_ held1), (36, sv_ v36), (37, .int .i64 ((v36.len : Nat) : Int)), (38, .int .i64 (IntKind.i64.wrap (t38 + 1)))] ?_
           have hb_ := again__h _ _ _ h
           exact ⟨_, hb_.2, [(0, Value.pointer t_), (3, pv_ b_), (5, sv_ held1), (36, sv_ v36), (37, Value.int .i64 ((v36.len : Nat) : Int)), (38, Value.int .i64 (IntKind.i64.wrap (t38 + 1)))], Sub.mk (by kernel_rfl), held1, (IntKind.i64.wrap (t38 + 1)), rfl, hb_.1, rfl⟩
         · replace h := h.2 hb
           refine wpE_exit (id := 1) (by kernel_rfl) ?_
           change WpE _ _ c60_55 _ _ _
           refine Zs c60_56 c60_58 ?_
           refine wpE_mixregion (id := 13) (ops := r60_56) o_call_Task_Got_56 (by kernel_rfl) (by kernel_rfl) (by kernel_rfl) (by kernel_rfl) (fun w13 hw => ?_)
           replace h := h w13 hw
           clear hw
           refine mreg_run P2 2 [(3, [], pv_ b_), (5, [], sv_ held), (52, [], Value.pointer t_), (53, [], Value.pointer t_)] (by kernel_rfl) (by kernel_rfl) ?_
           obtain ⟨hp_22, h⟩ := h
           refine mreg_conv [(3, [], pv_ b_), (5, [], sv_ held), (52, [], Value.pointer t_), (53, [], Value.pointer (some ⟨(pblk t_), (poff t_), none⟩))] (congrArg (fun pp => ([(3, [], pv_ b_), (5, [], sv_ held), (52, [], Value.pointer t_), (53, [], Value.pointer pp)] : GEnv)) hp_22) ?_
           refine mreg_run P1 3 [(3, [], pv_ b_), (5, [], sv_ held), (52, [], Value.pointer t_), (53, [], Value.pointer (some ⟨(pblk t_), (poff t_), none⟩)), (54, [], Value.pointer (some ⟨(pblk t_), (poff t_), none⟩))] (by kernel_rfl) (by kernel_rfl) ?_
           refine mreg_run P1 4 [(3, [], pv_ b_), (5, [], sv_ held), (52, [], Value.pointer t_), (55, [], Value.pointer (some ⟨(pblk t_), (poff t_) + 12, none⟩))] (by kernel_rfl) (by kernel_rfl) ?_
           obtain ⟨v56, hc, h⟩ := h
           refine mreg_load1 (i := 4) (by kernel_rfl) (t := 101) (a := (Operand.tmp 55)) (b := (pblk t_)) (o := ((poff t_) + 12)) (ty := 101) (dst := some 56) (by kernel_rfl) (by kernel_rfl) (by kernel_rfl) hc ?_
           refine mreg_run P1 6 [(3, [], pv_ b_), (5, [], sv_ held), (52, [], Value.pointer t_), (56, [], sv_ v56), (57, [], Value.pointer (some ⟨b_, 1, none⟩))] (by kernel_rfl) (by kernel_rfl) ?_
           obtain ⟨v58, hc, h⟩ := h
           refine mreg_load1 (i := 6) (by kernel_rfl) (t := 4) (a := (Operand.tmp 57)) (b := b_) (o := 1) (ty := 4) (dst := some 58) (by kernel_rfl) (by kernel_rfl) (by kernel_rfl) hc ?_
           refine mreg_run P1 8 [(3, [], pv_ b_), (5, [], sv_ held), (52, [], Value.pointer t_), (56, [], sv_ v56), (58, [], Value.bool v58), (59, [], Value.pointer (some ⟨b_, 2, none⟩))] (by kernel_rfl) (by kernel_rfl) ?_
           obtain ⟨v60, hc, h⟩ := h
           refine mreg_load1 (i := 8) (by kernel_rfl) (t := 92) (a := (Operand.tmp 59)) (b := b_) (o := 2) (ty := 92) (dst := some 60) (by kernel_rfl) (by kernel_rfl) (by kernel_rfl) hc ?_
           refine mreg_run P2 11 [(52, [], Value.pointer t_), (56, [], sv_ v56), (58, [], Value.bool v58), (60, [], sv_ v60), (62, [], sv_ held), (63, [], Value.pointer (some ⟨b_, 4, none⟩))] (by kernel_rfl) (by kernel_rfl) ?_
           obtain ⟨v64, hc, h⟩ := h
           refine mreg_load1 (i := 12) (by kernel_rfl) (t := 3) (a := (Operand.tmp 63)) (b := b_) (o := 4) (ty := 3) (dst := some 64) (by kernel_rfl) (by kernel_rfl) (by kernel_rfl) hc ?_
           refine mreg_run [] 12 [(52, [], Value.pointer t_), (56, [], sv_ v56), (58, [], Value.bool v58), (60, [], sv_ v60), (62, [], sv_ held), (64, [], Value.int .i64 v64)] (by kernel_rfl) (by kernel_rfl) ?_
           refine mreg_enter (op := (Op.call (Call.mk (Callee.value (Operand.func 89)) #[(Operand.tmp 60)] #[92]))) (ty := 92) (dst := some 61) 9 [8, 7] [(12, fun w' => w'.cell? ⟨b_, 4, none⟩ = some (Value.int .i64 v64)), (6, fun w' => w'.cell? ⟨b_, 1, none⟩ = some (Value.bool v58)), (4, fun w' => w'.cell? ⟨(pblk t_), (poff t_) + 12, none⟩ = some (sv_ v56))] 89 #[sv_ v60] (by kernel_rfl) (by kernel_rfl) (by kernel_rfl) (by kernel_rfl) (by kernel_rfl) (fun ww => by kernel_rfl) (Calls.mono h ?_)
           rintro _ w14 ⟨v61, rfl, h⟩
           obtain ⟨hk0, hk1, hk2, h⟩ := h
           refine ⟨_, rfl, ⟨hk0, hk1, hk2, trivial⟩, ?_⟩
           refine mreg_run P1 14 [(52, [], Value.pointer t_), (56, [], sv_ v56), (65, [], Value.agg #[Value.int .i64 0, Value.bool v58, sv_ v61, sv_ held, Value.int .i64 v64])] (by kernel_rfl) (by kernel_rfl) ?_
           refine mreg_new (op := (Op.buildSlice 101 1 #[(0, (Operand.tmp 65))])) (ty := 101) (dst := some 66) 14 [13, 6, 9, 10, 12, 5, 8, 11, 7] [(4, fun w' => w'.cell? ⟨(pblk t_), (poff t_) + 12, none⟩ = some (sv_ v56))] (fun bb => Value.slice (some ⟨bb, 0, none⟩) 1 1) (Obj.cells ([Value.int .i64 0, Value.bool v58, sv_ v61, sv_ held, Value.int .i64 v64]).toArray ty_api_Resp (0, 0)) (by kernel_rfl) (by kernel_rfl) (by kernel_rfl) (by kernel_rfl) (by kernel_rfl) (by kernel_rfl) (fun b_4 w15 hb hw => ?_)
           replace h := h b_4 w15 hb hw
           clear hb hw
           obtain ⟨hk0, h⟩ := h
           refine ⟨⟨hk0, trivial⟩, ?_⟩
           refine mreg_run [] 15 [(52, [], Value.pointer t_), (56, [], sv_ v56), (66, [], Value.slice (some ⟨b_4, 0, none⟩) 1 1)] (by kernel_rfl) (by kernel_rfl) ?_
           obtain ⟨src, hs, h⟩ := h
           refine mreg_append (t := 101) (tx := 101) (e := 95) (a := (Operand.tmp 56)) (xo := (Operand.tmp 66)) (s := v56) (x := (Slc.mk (some ⟨b_4, 0, none⟩) 1 1)) (sz := 5) (by_ := 72) (zs := [Value.int .i64 0, Value.bool false, Value.slice none 0 0, Value.slice none 0 0, Value.int .i64 0]) (ty := 101) (dst := some 67) 15 [4, 9, 14, 3, 8, 13, 2, 7, 6, 10, 12, 1, 5, 11] [] src (by kernel_rfl) (by kernel_rfl) (by kernel_rfl) (by kernel_rfl) (by kernel_rfl) (by kernel_rfl) (by kernel_rfl) (by kernel_rfl) (by kernel_rfl) (by kernel_rfl) (by kernel_rfl) (by kernel_rfl) (by kernel_rfl) hs (AppendW.mono h (fun v67 w16 h => ?_))
           refine ⟨trivial, ?_⟩
           refine mreg_run [] 16 [(52, [], Value.pointer t_), (67, [], sv_ v67)] (by kernel_rfl) (by kernel_rfl) ?_
           obtain ⟨hp_23, h⟩ := h
           refine mreg_conv [(52, [], Value.pointer (some ⟨(pblk t_), (poff t_), none⟩)), (67, [], sv_ v67)] (congrArg (fun pp => ([(52, [], Value.pointer pp), (67, [], sv_ v67)] : GEnv)) hp_23) ?_
           refine mreg_run P1 17 [(52, [], Value.pointer (some ⟨(pblk t_), (poff t_), none⟩)), (67, [], sv_ v67), (68, [], Value.pointer (some ⟨(pblk t_), (poff t_), none⟩))] (by kernel_rfl) (by kernel_rfl) ?_
           refine mreg_run P1 18 [(67, [], sv_ v67), (69, [], Value.pointer (some ⟨(pblk t_), (poff t_) + 12, none⟩))] (by kernel_rfl) (by kernel_rfl) ?_
           obtain ⟨hc, h⟩ := h
           refine mreg_store (t := 101) (a := (Operand.tmp 69)) (x := (Operand.tmp 67)) (b := (pblk t_)) (o := ((poff t_) + 12)) (k := 1) (ty := 0) (dst := none) 18 [0, 1, 2, 3, 4, 5, 6, 7, 8, 9, 10, 11, 12, 13, 14, 15, 17, 16] [] [sv_ v67] (by kernel_rfl) (by kernel_rfl) (by kernel_rfl) (by kernel_rfl) (by kernel_rfl) (by kernel_rfl) (by kernel_rfl) (by kernel_rfl) (by kernel_rfl) (by kernel_rfl) hc (fun w17 hw => ?_)
           replace h := h w17 hw
           clear hw
           refine ⟨trivial, ?_⟩
           refine mreg_end [] (by kernel_rfl) (by kernel_rfl) (by kernel_rfl) ?_
           change WpE _ _ c60_58 _ _ _
           refine Zp c60_61 P1 [(4, .int .i64 0)] ?_
           refine wpE_ret (by kernel_rfl) ?_
           repeat (first | refine seqQ_ret ?_ | refine blockQ_ret ?_ | refine loopQ_ret ?_ | refine cutQ_ret ?_)
           exact retS (rs := [(ResultVar.tmp 4)]) (v := Value.int .i64 0) (by kernel_rfl) (⟨by kernel_rfl, trivial⟩) ⟨0, rfl, h⟩
 · rintro e w' ⟨v, rfl, r0, rfl, h⟩; exact ⟨r0, rfl, h⟩
end
end Go.Proofs.Ytpedclhflmhakaa
