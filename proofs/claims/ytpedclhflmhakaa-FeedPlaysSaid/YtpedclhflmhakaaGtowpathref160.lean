/- WRITTEN BY PROGRAM (dec.py): for each Go function the clean formula F, the call's contract C, and the proof S that F gives C. -/
import Derived.Test.YtpedclhflmhakaaRows
import Derived.Test.YtpedclhflmhakaaGF
namespace Go.Proofs.Ytpedclhflmhakaa
open Go
set_option linter.unusedVariables false

/-! ### (*towpath/towpathref16.Feed).Held (function 24) -/
noncomputable def c_towpathref16_Feed_Held_0 : Code := (Try.f24.body).getD Code.skip
noncomputable def c_towpathref16_Feed_Held_1 : Code := Code.l c_towpathref16_Feed_Held_0
noncomputable def r_towpathref16_Feed_Held_1 : Array Oper := Code.ops c_towpathref16_Feed_Held_1
noncomputable def c_towpathref16_Feed_Held_3 : Code := Code.r c_towpathref16_Feed_Held_0
noncomputable def c_towpathref16_Feed_Held_4 : Code := Code.l c_towpathref16_Feed_Held_3
noncomputable def c_towpathref16_Feed_Held_5 : Code := Code.l c_towpathref16_Feed_Held_4
noncomputable def r_towpathref16_Feed_Held_5 : Array Oper := Code.ops c_towpathref16_Feed_Held_5
noncomputable def c_towpathref16_Feed_Held_7 : Code := Code.r c_towpathref16_Feed_Held_4
noncomputable def c_towpathref16_Feed_Held_8 : Code := Code.l c_towpathref16_Feed_Held_7
noncomputable def c_towpathref16_Feed_Held_9 : Code := Code.l c_towpathref16_Feed_Held_8
noncomputable def r_towpathref16_Feed_Held_9 : Array Oper := Code.ops c_towpathref16_Feed_Held_9
noncomputable def c_towpathref16_Feed_Held_11 : Code := Code.r c_towpathref16_Feed_Held_8
noncomputable def c_towpathref16_Feed_Held_12 : Code := Code.r c_towpathref16_Feed_Held_7
noncomputable def c_towpathref16_Feed_Held_13 : Code := Code.r c_towpathref16_Feed_Held_3
noncomputable def c_towpathref16_Feed_Held_14 : Code := Code.l c_towpathref16_Feed_Held_13
noncomputable def r_towpathref16_Feed_Held_14 : Array Oper := Code.ops c_towpathref16_Feed_Held_14
noncomputable def c_towpathref16_Feed_Held_16 : Code := Code.r c_towpathref16_Feed_Held_13

set_option maxRecDepth 100000 in
set_option maxHeartbeats 4000000 in
theorem S_towpathref16_Feed_Held {f : Option Addr} {w : World} {R : Int → World → Prop} (h : F_towpathref16_Feed_Held f R w) : C_towpathref16_Feed_Held f w R := by
  unfold F_towpathref16_Feed_Held at h
  unfold C_towpathref16_Feed_Held
  refine Calls.mono (calls_of_wpE (args := [Value.pointer f]) (R := fun v w' => ∃ (r0 : Int), v = Value.int .i64 r0 ∧ R r0 w') Try.func24 (c := c_towpathref16_Feed_Held_0) (by kernel_rfl) 17 (by kernel_rfl) (by kernel_rfl) [(0, Value.pointer f)] (by kernel_rfl) ?_) ?_
  · refine wpE_seq (x := c_towpathref16_Feed_Held_1) (y := c_towpathref16_Feed_Held_3) (by kernel_rfl) ?_
    refine wpE_region (id := 0) (ops := r_towpathref16_Feed_Held_1) (by kernel_rfl) ?_
    refine reg_run [.plain] 1 [(0, [], Value.pointer f)] (by kernel_rfl) (by kernel_rfl) ?_
    refine reg_end [(0, Value.pointer f)] (by kernel_rfl) (by kernel_rfl) ?_
    change WpE _ _ c_towpathref16_Feed_Held_3 _ _ _
    refine wpE_seq (x := c_towpathref16_Feed_Held_4) (y := c_towpathref16_Feed_Held_13) (by kernel_rfl) ?_
    refine wpE_seq_cut (x := c_towpathref16_Feed_Held_5) (y := c_towpathref16_Feed_Held_7) (by kernel_rfl) (fun l w => ∃ (t11 : Bool), l = [(0, Value.pointer f), (11, Value.bool t11)] ∧ F_towpathref16_Feed_Held_k0 f R t11 w) ?_ ?_
    · refine wpE_region (id := 1) (ops := r_towpathref16_Feed_Held_5) (by kernel_rfl) ?_
      refine reg_run [.plain] 1 [(0, [], Value.pointer f), (3, [], Value.pointer f)] (by kernel_rfl) (by kernel_rfl) ?_
      refine reg_val (op := (Go.Op.binOp Go.BinOp.eql 27 (Go.Operand.tmp 3) (Go.Operand.const (Go.Value.pointer none)) 27)) (ty := 4) (dst := some 4) (Value.bool f.isNone) (by kernel_rfl) (fun ww => run_ptr_eql_R (p := f) (by kernel_rfl) (by kernel_rfl) (by kernel_rfl) ww) ?_
      refine reg_run [.plain, .plain] 4 [(0, [], Value.pointer f), (5, [], Value.bool f.isNone), (6, [(5, false)], Value.pointer f)] (by kernel_rfl) (by kernel_rfl) ?_
      refine reg_split 5 f.isNone (by kernel_rfl) (fun hb => ?_) (fun hb => ?_)
      · replace h := h.1 hb
        refine reg_run [] 4 [(0, [], Value.pointer f), (5, [], Value.bool true), (6, [], undef)] (by kernel_rfl) (by kernel_rfl) ?_
        refine reg_run [.skip, .skip, .skip, .skip, .plain] 9 [(0, [], Value.pointer f), (11, [], Value.bool true)] (by kernel_rfl) (by kernel_rfl) ?_
        refine reg_end [(0, Value.pointer f), (11, Value.bool true)] (by kernel_rfl) (by kernel_rfl) ?_
        exact ⟨[(0, Value.pointer f), (11, Value.bool true)], Sub.mk (by kernel_rfl), true, rfl, h⟩
      · replace h := h.2 hb
        refine reg_run [] 4 [(0, [], Value.pointer f), (5, [], Value.bool false), (6, [], Value.pointer f)] (by kernel_rfl) (by kernel_rfl) ?_
        refine reg_run [] 4 [(0, [], Value.pointer f), (5, [], Value.bool false), (6, [], Value.pointer f)] (by kernel_rfl) (by kernel_rfl) ?_
        obtain ⟨hp_4, h⟩ := h
        refine reg_conv [(0, [], Value.pointer f), (5, [], Value.bool false), (6, [], Value.pointer (some ⟨(pblk f), (poff f), none⟩))] (congrArg (fun pp => ([(0, [], Value.pointer f), (5, [], Value.bool false), (6, [], Value.pointer pp)] : GEnv)) hp_4) ?_
        refine reg_run [.sure] 5 [(0, [], Value.pointer f), (5, [], Value.bool false), (6, [], Value.pointer (some ⟨(pblk f), (poff f), none⟩)), (7, [], Value.pointer (some ⟨(pblk f), (poff f), none⟩))] (by kernel_rfl) (by kernel_rfl) ?_
        refine reg_run [.sure] 6 [(0, [], Value.pointer f), (5, [], Value.bool false), (8, [], Value.pointer (some ⟨(pblk f), (poff f) + 5, none⟩))] (by kernel_rfl) (by kernel_rfl) ?_
        obtain ⟨v9, hc, h⟩ := h
        refine reg_load1 (t := 4) (a := (Go.Operand.tmp 8)) (b := (pblk f)) (o := ((poff f) + 5)) (ty := 4) (dst := some 9) (by kernel_rfl) (by kernel_rfl) (by kernel_rfl) hc ?_
        refine reg_run [.sure, .plain] 9 [(0, [], Value.pointer f), (11, [], Value.bool (!v9))] (by kernel_rfl) (by kernel_rfl) ?_
        refine reg_end [(0, Value.pointer f), (11, Value.bool (!v9))] (by kernel_rfl) (by kernel_rfl) ?_
        exact ⟨[(0, Value.pointer f), (11, Value.bool (!v9))], Sub.mk (by kernel_rfl), (!v9), rfl, h⟩
    · rintro _ w1 ⟨t11, rfl, h⟩
      unfold F_towpathref16_Feed_Held_k0 at h
      refine wpE_cond (o := (Operand.tmp 11)) (b := t11) (x := c_towpathref16_Feed_Held_8) (y := c_towpathref16_Feed_Held_12) (by kernel_rfl) (by kernel_rfl) (fun hb => ?_) (fun hb => ?_)
      · replace h := h.1 hb
        refine wpE_seq (x := c_towpathref16_Feed_Held_9) (y := c_towpathref16_Feed_Held_11) (by kernel_rfl) ?_
        refine wpE_region (id := 2) (ops := r_towpathref16_Feed_Held_9) (by kernel_rfl) ?_
        refine reg_run [.plain] 1 [(2, [], Value.int .i64 0)] (by kernel_rfl) (by kernel_rfl) ?_
        refine reg_end [(2, Value.int .i64 0)] (by kernel_rfl) (by kernel_rfl) ?_
        change WpE _ _ c_towpathref16_Feed_Held_11 _ _ _
        refine wpE_ret (by kernel_rfl) ?_
        repeat (first | refine seqQ_ret ?_ | refine blockQ_ret ?_ | refine loopQ_ret ?_ | refine cutQ_ret ?_)
        exact retS (rs := [(Go.ResultVar.tmp 2)]) (v := Value.int .i64 0) (by kernel_rfl) (⟨by kernel_rfl, trivial⟩) ⟨0, rfl, h⟩
      · replace h := h.2 hb
        refine wpE_skip (by kernel_rfl) ?_
        change WpE _ _ c_towpathref16_Feed_Held_13 _ _ _
        refine wpE_seq (x := c_towpathref16_Feed_Held_14) (y := c_towpathref16_Feed_Held_16) (by kernel_rfl) ?_
        refine wpE_region (id := 3) (ops := r_towpathref16_Feed_Held_14) (by kernel_rfl) ?_
        refine reg_run [.plain] 1 [(12, [], Value.pointer f)] (by kernel_rfl) (by kernel_rfl) ?_
        obtain ⟨hp_3, h⟩ := h
        refine reg_conv [(12, [], Value.pointer (some ⟨(pblk f), (poff f), none⟩))] (congrArg (fun pp => ([(12, [], Value.pointer pp)] : GEnv)) hp_3) ?_
        refine reg_run [.plain] 2 [(12, [], Value.pointer (some ⟨(pblk f), (poff f), none⟩)), (13, [], Value.pointer (some ⟨(pblk f), (poff f), none⟩))] (by kernel_rfl) (by kernel_rfl) ?_
        refine reg_run [.plain, .plain] 4 [(15, [], Value.pointer (some ⟨(pblk f), (poff f) + 6, none⟩))] (by kernel_rfl) (by kernel_rfl) ?_
        obtain ⟨v16, hc, h⟩ := h
        refine reg_load1 (t := 3) (a := (Go.Operand.tmp 15)) (b := (pblk f)) (o := ((poff f) + 6)) (ty := 3) (dst := some 16) (by kernel_rfl) (by kernel_rfl) (by kernel_rfl) hc ?_
        refine reg_run [.plain] 6 [(2, [], Value.int .i64 v16)] (by kernel_rfl) (by kernel_rfl) ?_
        refine reg_end [(2, Value.int .i64 v16)] (by kernel_rfl) (by kernel_rfl) ?_
        change WpE _ _ c_towpathref16_Feed_Held_16 _ _ _
        refine wpE_ret (by kernel_rfl) ?_
        repeat (first | refine seqQ_ret ?_ | refine blockQ_ret ?_ | refine loopQ_ret ?_ | refine cutQ_ret ?_)
        exact retS (rs := [(Go.ResultVar.tmp 2)]) (v := Value.int .i64 v16) (by kernel_rfl) (⟨by kernel_rfl, trivial⟩) ⟨v16, rfl, h⟩
  · rintro e w' ⟨v, rfl, r0, rfl, h⟩; exact ⟨r0, rfl, h⟩

/-! ### (*towpath/towpathref16.Feed).Fed (function 26) -/
noncomputable def c_towpathref16_Feed_Fed_0 : Code := (Try.f26.body).getD Code.skip
noncomputable def c_towpathref16_Feed_Fed_1 : Code := Code.l c_towpathref16_Feed_Fed_0
noncomputable def r_towpathref16_Feed_Fed_1 : Array Oper := Code.ops c_towpathref16_Feed_Fed_1
noncomputable def c_towpathref16_Feed_Fed_3 : Code := Code.r c_towpathref16_Feed_Fed_0
noncomputable def c_towpathref16_Feed_Fed_4 : Code := Code.l c_towpathref16_Feed_Fed_3
noncomputable def c_towpathref16_Feed_Fed_5 : Code := Code.l c_towpathref16_Feed_Fed_4
noncomputable def r_towpathref16_Feed_Fed_5 : Array Oper := Code.ops c_towpathref16_Feed_Fed_5
noncomputable def c_towpathref16_Feed_Fed_7 : Code := Code.r c_towpathref16_Feed_Fed_4
noncomputable def c_towpathref16_Feed_Fed_8 : Code := Code.l c_towpathref16_Feed_Fed_7
noncomputable def c_towpathref16_Feed_Fed_9 : Code := Code.l c_towpathref16_Feed_Fed_8
noncomputable def r_towpathref16_Feed_Fed_9 : Array Oper := Code.ops c_towpathref16_Feed_Fed_9
noncomputable def c_towpathref16_Feed_Fed_11 : Code := Code.r c_towpathref16_Feed_Fed_8
noncomputable def c_towpathref16_Feed_Fed_12 : Code := Code.r c_towpathref16_Feed_Fed_7
noncomputable def c_towpathref16_Feed_Fed_13 : Code := Code.r c_towpathref16_Feed_Fed_3
noncomputable def c_towpathref16_Feed_Fed_14 : Code := Code.l c_towpathref16_Feed_Fed_13
noncomputable def r_towpathref16_Feed_Fed_14 : Array Oper := Code.ops c_towpathref16_Feed_Fed_14
noncomputable def c_towpathref16_Feed_Fed_16 : Code := Code.r c_towpathref16_Feed_Fed_13

set_option maxRecDepth 100000 in
set_option maxHeartbeats 4000000 in
theorem S_towpathref16_Feed_Fed {f : Option Addr} {w : World} {R : Int → World → Prop} (h : F_towpathref16_Feed_Fed f R w) : C_towpathref16_Feed_Fed f w R := by
  unfold F_towpathref16_Feed_Fed at h
  unfold C_towpathref16_Feed_Fed
  refine Calls.mono (calls_of_wpE (args := [Value.pointer f]) (R := fun v w' => ∃ (r0 : Int), v = Value.int .i64 r0 ∧ R r0 w') Try.func26 (c := c_towpathref16_Feed_Fed_0) (by kernel_rfl) 9 (by kernel_rfl) (by kernel_rfl) [(0, Value.pointer f)] (by kernel_rfl) ?_) ?_
  · refine wpE_seq (x := c_towpathref16_Feed_Fed_1) (y := c_towpathref16_Feed_Fed_3) (by kernel_rfl) ?_
    refine wpE_region (id := 0) (ops := r_towpathref16_Feed_Fed_1) (by kernel_rfl) ?_
    refine reg_run [.plain] 1 [(0, [], Value.pointer f)] (by kernel_rfl) (by kernel_rfl) ?_
    refine reg_end [(0, Value.pointer f)] (by kernel_rfl) (by kernel_rfl) ?_
    change WpE _ _ c_towpathref16_Feed_Fed_3 _ _ _
    refine wpE_seq (x := c_towpathref16_Feed_Fed_4) (y := c_towpathref16_Feed_Fed_13) (by kernel_rfl) ?_
    refine wpE_seq (x := c_towpathref16_Feed_Fed_5) (y := c_towpathref16_Feed_Fed_7) (by kernel_rfl) ?_
    refine wpE_region (id := 1) (ops := r_towpathref16_Feed_Fed_5) (by kernel_rfl) ?_
    refine reg_run [.plain] 1 [(0, [], Value.pointer f), (3, [], Value.pointer f)] (by kernel_rfl) (by kernel_rfl) ?_
    refine reg_val (op := (Go.Op.binOp Go.BinOp.eql 27 (Go.Operand.tmp 3) (Go.Operand.const (Go.Value.pointer none)) 27)) (ty := 4) (dst := some 4) (Value.bool f.isNone) (by kernel_rfl) (fun ww => run_ptr_eql_R (p := f) (by kernel_rfl) (by kernel_rfl) (by kernel_rfl) ww) ?_
    refine reg_end [(0, Value.pointer f), (4, Value.bool f.isNone)] (by kernel_rfl) (by kernel_rfl) ?_
    change WpE _ _ c_towpathref16_Feed_Fed_7 _ _ _
    refine wpE_cond (o := (Operand.tmp 4)) (b := f.isNone) (x := c_towpathref16_Feed_Fed_8) (y := c_towpathref16_Feed_Fed_12) (by kernel_rfl) (by kernel_rfl) (fun hb => ?_) (fun hb => ?_)
    · replace h := h.1 hb
      refine wpE_seq (x := c_towpathref16_Feed_Fed_9) (y := c_towpathref16_Feed_Fed_11) (by kernel_rfl) ?_
      refine wpE_region (id := 2) (ops := r_towpathref16_Feed_Fed_9) (by kernel_rfl) ?_
      refine reg_run [.plain] 1 [(2, [], Value.int .i64 0)] (by kernel_rfl) (by kernel_rfl) ?_
      refine reg_end [(2, Value.int .i64 0)] (by kernel_rfl) (by kernel_rfl) ?_
      change WpE _ _ c_towpathref16_Feed_Fed_11 _ _ _
      refine wpE_ret (by kernel_rfl) ?_
      repeat (first | refine seqQ_ret ?_ | refine blockQ_ret ?_ | refine loopQ_ret ?_ | refine cutQ_ret ?_)
      exact retS (rs := [(Go.ResultVar.tmp 2)]) (v := Value.int .i64 0) (by kernel_rfl) (⟨by kernel_rfl, trivial⟩) ⟨0, rfl, h⟩
    · replace h := h.2 hb
      refine wpE_skip (by kernel_rfl) ?_
      change WpE _ _ c_towpathref16_Feed_Fed_13 _ _ _
      refine wpE_seq (x := c_towpathref16_Feed_Fed_14) (y := c_towpathref16_Feed_Fed_16) (by kernel_rfl) ?_
      refine wpE_region (id := 3) (ops := r_towpathref16_Feed_Fed_14) (by kernel_rfl) ?_
      refine reg_run [.plain] 1 [(5, [], Value.pointer f)] (by kernel_rfl) (by kernel_rfl) ?_
      obtain ⟨hp_0, h⟩ := h
      refine reg_conv [(5, [], Value.pointer (some ⟨(pblk f), (poff f), none⟩))] (congrArg (fun pp => ([(5, [], Value.pointer pp)] : GEnv)) hp_0) ?_
      refine reg_run [.plain] 2 [(5, [], Value.pointer (some ⟨(pblk f), (poff f), none⟩)), (6, [], Value.pointer (some ⟨(pblk f), (poff f), none⟩))] (by kernel_rfl) (by kernel_rfl) ?_
      refine reg_run [.plain] 3 [(7, [], Value.pointer (some ⟨(pblk f), (poff f) + 3, none⟩))] (by kernel_rfl) (by kernel_rfl) ?_
      obtain ⟨v8, hc, h⟩ := h
      refine reg_load1 (t := 3) (a := (Go.Operand.tmp 7)) (b := (pblk f)) (o := ((poff f) + 3)) (ty := 3) (dst := some 8) (by kernel_rfl) (by kernel_rfl) (by kernel_rfl) hc ?_
      refine reg_run [.plain] 5 [(2, [], Value.int .i64 v8)] (by kernel_rfl) (by kernel_rfl) ?_
      refine reg_end [(2, Value.int .i64 v8)] (by kernel_rfl) (by kernel_rfl) ?_
      change WpE _ _ c_towpathref16_Feed_Fed_16 _ _ _
      refine wpE_ret (by kernel_rfl) ?_
      repeat (first | refine seqQ_ret ?_ | refine blockQ_ret ?_ | refine loopQ_ret ?_ | refine cutQ_ret ?_)
      exact retS (rs := [(Go.ResultVar.tmp 2)]) (v := Value.int .i64 v8) (by kernel_rfl) (⟨by kernel_rfl, trivial⟩) ⟨v8, rfl, h⟩
  · rintro e w' ⟨v, rfl, r0, rfl, h⟩; exact ⟨r0, rfl, h⟩

/-! ### towpath/towpathref16.New (function 43) -/
noncomputable def c_towpathref16_New_0 : Code := (Try.f43.body).getD Code.skip
noncomputable def c_towpathref16_New_1 : Code := Code.l c_towpathref16_New_0
noncomputable def r_towpathref16_New_1 : Array Oper := Code.ops c_towpathref16_New_1
noncomputable def c_towpathref16_New_3 : Code := Code.r c_towpathref16_New_0
noncomputable def c_towpathref16_New_4 : Code := Code.l c_towpathref16_New_3
noncomputable def c_towpathref16_New_5 : Code := Code.l c_towpathref16_New_4
noncomputable def r_towpathref16_New_5 : Array Oper := Code.ops c_towpathref16_New_5
noncomputable def c_towpathref16_New_7 : Code := Code.r c_towpathref16_New_4
noncomputable def c_towpathref16_New_8 : Code := Code.l c_towpathref16_New_7
noncomputable def c_towpathref16_New_9 : Code := Code.l c_towpathref16_New_8
noncomputable def r_towpathref16_New_9 : Array Oper := Code.ops c_towpathref16_New_9
noncomputable def c_towpathref16_New_11 : Code := Code.r c_towpathref16_New_8
noncomputable def c_towpathref16_New_12 : Code := Code.r c_towpathref16_New_7
noncomputable def c_towpathref16_New_13 : Code := Code.r c_towpathref16_New_3
noncomputable def c_towpathref16_New_14 : Code := Code.l c_towpathref16_New_13
noncomputable def c_towpathref16_New_15 : Code := Code.l c_towpathref16_New_14
noncomputable def r_towpathref16_New_15 : Array Oper := Code.ops c_towpathref16_New_15
noncomputable def c_towpathref16_New_17 : Code := Code.r c_towpathref16_New_14
noncomputable def c_towpathref16_New_18 : Code := Code.l c_towpathref16_New_17
noncomputable def c_towpathref16_New_19 : Code := Code.l c_towpathref16_New_18
noncomputable def r_towpathref16_New_19 : Array Oper := Code.ops c_towpathref16_New_19
noncomputable def c_towpathref16_New_21 : Code := Code.r c_towpathref16_New_18
noncomputable def c_towpathref16_New_22 : Code := Code.r c_towpathref16_New_17
noncomputable def c_towpathref16_New_23 : Code := Code.r c_towpathref16_New_13
noncomputable def c_towpathref16_New_24 : Code := Code.l c_towpathref16_New_23
noncomputable def c_towpathref16_New_25 : Code := Code.l c_towpathref16_New_24
noncomputable def r_towpathref16_New_25 : Array Oper := Code.ops c_towpathref16_New_25
noncomputable def c_towpathref16_New_27 : Code := Code.r c_towpathref16_New_24
noncomputable def c_towpathref16_New_28 : Code := Code.l c_towpathref16_New_27
noncomputable def c_towpathref16_New_29 : Code := Code.l c_towpathref16_New_28
noncomputable def c_towpathref16_New_30 : Code := Code.l c_towpathref16_New_29
noncomputable def c_towpathref16_New_31 : Code := Code.l c_towpathref16_New_30
noncomputable def r_towpathref16_New_31 : Array Oper := Code.ops c_towpathref16_New_31
noncomputable def c_towpathref16_New_33 : Code := Code.r c_towpathref16_New_30
noncomputable def c_towpathref16_New_34 : Code := Code.l c_towpathref16_New_33
noncomputable def c_towpathref16_New_35 : Code := Code.r c_towpathref16_New_33
noncomputable def c_towpathref16_New_36 : Code := Code.r c_towpathref16_New_29
noncomputable def c_towpathref16_New_37 : Code := Code.l c_towpathref16_New_36
noncomputable def c_towpathref16_New_38 : Code := Code.l c_towpathref16_New_37
noncomputable def c_towpathref16_New_39 : Code := Code.l c_towpathref16_New_38
noncomputable def r_towpathref16_New_39 : Array Oper := Code.ops c_towpathref16_New_39
noncomputable def c_towpathref16_New_41 : Code := Code.r c_towpathref16_New_38
noncomputable def c_towpathref16_New_42 : Code := Code.l c_towpathref16_New_41
noncomputable def c_towpathref16_New_43 : Code := Code.l c_towpathref16_New_42
noncomputable def r_towpathref16_New_43 : Array Oper := Code.ops c_towpathref16_New_43
noncomputable def c_towpathref16_New_45 : Code := Code.r c_towpathref16_New_42
noncomputable def c_towpathref16_New_46 : Code := Code.r c_towpathref16_New_41
noncomputable def c_towpathref16_New_47 : Code := Code.r c_towpathref16_New_36
noncomputable def r_towpathref16_New_47 : Array Oper := Code.ops c_towpathref16_New_47
noncomputable def c_towpathref16_New_49 : Code := Code.r c_towpathref16_New_23
noncomputable def c_towpathref16_New_50 : Code := Code.l c_towpathref16_New_49
noncomputable def r_towpathref16_New_50 : Array Oper := Code.ops c_towpathref16_New_50
noncomputable def c_towpathref16_New_52 : Code := Code.r c_towpathref16_New_49
noncomputable def c_towpathref16_New_53 : Code := Code.l c_towpathref16_New_52
noncomputable def c_towpathref16_New_54 : Code := Code.l c_towpathref16_New_53
noncomputable def r_towpathref16_New_54 : Array Oper := Code.ops c_towpathref16_New_54
noncomputable def c_towpathref16_New_56 : Code := Code.r c_towpathref16_New_53
noncomputable def c_towpathref16_New_57 : Code := Code.l c_towpathref16_New_56
noncomputable def c_towpathref16_New_58 : Code := Code.l c_towpathref16_New_57
noncomputable def r_towpathref16_New_58 : Array Oper := Code.ops c_towpathref16_New_58
noncomputable def c_towpathref16_New_60 : Code := Code.r c_towpathref16_New_57
noncomputable def c_towpathref16_New_61 : Code := Code.r c_towpathref16_New_56
noncomputable def c_towpathref16_New_62 : Code := Code.r c_towpathref16_New_52
noncomputable def c_towpathref16_New_63 : Code := Code.l c_towpathref16_New_62
noncomputable def r_towpathref16_New_63 : Array Oper := Code.ops c_towpathref16_New_63
noncomputable def c_towpathref16_New_65 : Code := Code.r c_towpathref16_New_62

set_option maxRecDepth 100000 in
set_option maxHeartbeats 4000000 in
theorem S_towpathref16_New {s : Option Addr} {mark : Int} {beyond : Slc} {window : Int} {w : World} {R : Option Addr → Int → World → Prop} (h : F_towpathref16_New s mark beyond window R w) : C_towpathref16_New s mark beyond window w R := by
  unfold F_towpathref16_New at h
  unfold C_towpathref16_New
  refine Calls.mono (calls_of_wpE (args := [Value.pointer s, Value.int .i64 mark, Value.slice beyond.ptr beyond.len beyond.cap, Value.int .i64 window]) (R := fun v w' => ∃ (r0 : Option Addr) (r1 : Int), v = Value.tuple #[Value.pointer r0, Value.int .i64 r1] ∧ R r0 r1 w') Try.func43 (c := c_towpathref16_New_0) (by kernel_rfl) 91 (by kernel_rfl) (by kernel_rfl) [(0, Value.pointer s), (1, Value.int .i64 mark), (2, Value.slice beyond.ptr beyond.len beyond.cap), (3, Value.int .i64 window)] (by kernel_rfl) ?_) ?_
  · refine wpE_seq (x := c_towpathref16_New_1) (y := c_towpathref16_New_3) (by kernel_rfl) ?_
    refine wpE_region (id := 0) (ops := r_towpathref16_New_1) (by kernel_rfl) ?_
    refine reg_run [.plain, .plain] 2 [(0, [], Value.pointer s), (1, [], Value.int .i64 mark), (2, [], Value.slice beyond.ptr beyond.len beyond.cap), (3, [], Value.int .i64 window)] (by kernel_rfl) (by kernel_rfl) ?_
    refine reg_end [(0, Value.pointer s), (1, Value.int .i64 mark), (2, Value.slice beyond.ptr beyond.len beyond.cap), (3, Value.int .i64 window)] (by kernel_rfl) (by kernel_rfl) ?_
    change WpE _ _ c_towpathref16_New_3 _ _ _
    refine wpE_seq (x := c_towpathref16_New_4) (y := c_towpathref16_New_13) (by kernel_rfl) ?_
    refine wpE_seq (x := c_towpathref16_New_5) (y := c_towpathref16_New_7) (by kernel_rfl) ?_
    refine wpE_region (id := 1) (ops := r_towpathref16_New_5) (by kernel_rfl) ?_
    refine reg_run [.plain] 1 [(0, [], Value.pointer s), (1, [], Value.int .i64 mark), (2, [], Value.slice beyond.ptr beyond.len beyond.cap), (3, [], Value.int .i64 window), (12, [], Value.pointer s)] (by kernel_rfl) (by kernel_rfl) ?_
    refine reg_val (op := (Go.Op.binOp Go.BinOp.eql 107 (Go.Operand.tmp 12) (Go.Operand.const (Go.Value.pointer none)) 107)) (ty := 4) (dst := some 13) (Value.bool s.isNone) (by kernel_rfl) (fun ww => run_ptr_eql_R (p := s) (by kernel_rfl) (by kernel_rfl) (by kernel_rfl) ww) ?_
    refine reg_end [(0, Value.pointer s), (1, Value.int .i64 mark), (2, Value.slice beyond.ptr beyond.len beyond.cap), (3, Value.int .i64 window), (13, Value.bool s.isNone)] (by kernel_rfl) (by kernel_rfl) ?_
    change WpE _ _ c_towpathref16_New_7 _ _ _
    refine wpE_cond (o := (Operand.tmp 13)) (b := s.isNone) (x := c_towpathref16_New_8) (y := c_towpathref16_New_12) (by kernel_rfl) (by kernel_rfl) (fun hb => ?_) (fun hb => ?_)
    · replace h := h.1 hb
      refine wpE_seq (x := c_towpathref16_New_9) (y := c_towpathref16_New_11) (by kernel_rfl) ?_
      refine wpE_region (id := 2) (ops := r_towpathref16_New_9) (by kernel_rfl) ?_
      refine reg_run [.plain, .plain] 2 [(8, [], Value.pointer none), (9, [], Value.int .i64 2)] (by kernel_rfl) (by kernel_rfl) ?_
      refine reg_end [(8, Value.pointer none), (9, Value.int .i64 2)] (by kernel_rfl) (by kernel_rfl) ?_
      change WpE _ _ c_towpathref16_New_11 _ _ _
      refine wpE_ret (by kernel_rfl) ?_
      repeat (first | refine seqQ_ret ?_ | refine blockQ_ret ?_ | refine loopQ_ret ?_ | refine cutQ_ret ?_)
      exact retT (rs := [(Go.ResultVar.tmp 8), (Go.ResultVar.tmp 9)]) (vs := [Value.pointer none, Value.int .i64 2]) (by kernel_rfl) (⟨by kernel_rfl, ⟨by kernel_rfl, trivial⟩⟩) (by kernel_rfl) ⟨none, 2, rfl, h⟩
    · replace h := h.2 hb
      refine wpE_skip (by kernel_rfl) ?_
      change WpE _ _ c_towpathref16_New_13 _ _ _
      refine wpE_seq (x := c_towpathref16_New_14) (y := c_towpathref16_New_23) (by kernel_rfl) ?_
      refine wpE_seq (x := c_towpathref16_New_15) (y := c_towpathref16_New_17) (by kernel_rfl) ?_
      refine wpE_region (id := 3) (ops := r_towpathref16_New_15) (by kernel_rfl) ?_
      refine reg_run [.plain, .plain, .plain, .plain, .plain, .pick, .plain, .plain, .plain, .pick] 10 [(0, [], Value.pointer s), (1, [], Value.int .i64 mark), (2, [], Value.slice beyond.ptr beyond.len beyond.cap), (3, [], Value.int .i64 window), (23, [], Value.bool (((decide (mark < 0)) || (decide (window < 1))) || (decide (window > 64))))] (by kernel_rfl) (by kernel_rfl) ?_
      refine reg_end [(0, Value.pointer s), (1, Value.int .i64 mark), (2, Value.slice beyond.ptr beyond.len beyond.cap), (3, Value.int .i64 window), (23, Value.bool (((decide (mark < 0)) || (decide (window < 1))) || (decide (window > 64))))] (by kernel_rfl) (by kernel_rfl) ?_
      change WpE _ _ c_towpathref16_New_17 _ _ _
      refine wpE_cond (o := (Operand.tmp 23)) (b := (((decide (mark < 0)) || (decide (window < 1))) || (decide (window > 64)))) (x := c_towpathref16_New_18) (y := c_towpathref16_New_22) (by kernel_rfl) (by kernel_rfl) (fun hb => ?_) (fun hb => ?_)
      · replace h := h.1 hb
        refine wpE_seq (x := c_towpathref16_New_19) (y := c_towpathref16_New_21) (by kernel_rfl) ?_
        refine wpE_region (id := 4) (ops := r_towpathref16_New_19) (by kernel_rfl) ?_
        refine reg_run [.plain, .plain] 2 [(8, [], Value.pointer none), (9, [], Value.int .i64 1)] (by kernel_rfl) (by kernel_rfl) ?_
        refine reg_end [(8, Value.pointer none), (9, Value.int .i64 1)] (by kernel_rfl) (by kernel_rfl) ?_
        change WpE _ _ c_towpathref16_New_21 _ _ _
        refine wpE_ret (by kernel_rfl) ?_
        repeat (first | refine seqQ_ret ?_ | refine blockQ_ret ?_ | refine loopQ_ret ?_ | refine cutQ_ret ?_)
        exact retT (rs := [(Go.ResultVar.tmp 8), (Go.ResultVar.tmp 9)]) (vs := [Value.pointer none, Value.int .i64 1]) (by kernel_rfl) (⟨by kernel_rfl, ⟨by kernel_rfl, trivial⟩⟩) (by kernel_rfl) ⟨none, 1, rfl, h⟩
      · replace h := h.2 hb
        refine wpE_skip (by kernel_rfl) ?_
        change WpE _ _ c_towpathref16_New_23 _ _ _
        refine wpE_seq (x := c_towpathref16_New_24) (y := c_towpathref16_New_49) (by kernel_rfl) ?_
        refine wpE_seq (x := c_towpathref16_New_25) (y := c_towpathref16_New_27) (by kernel_rfl) ?_
        refine wpE_region (id := 5) (ops := r_towpathref16_New_25) (by kernel_rfl) ?_
        refine reg_run [.plain] 1 [(0, [], Value.pointer s), (1, [], Value.int .i64 mark), (2, [], Value.slice beyond.ptr beyond.len beyond.cap), (3, [], Value.int .i64 window), (10, [], Value.int .i64 0)] (by kernel_rfl) (by kernel_rfl) ?_
        refine reg_end [(0, Value.pointer s), (1, Value.int .i64 mark), (2, Value.slice beyond.ptr beyond.len beyond.cap), (3, Value.int .i64 window), (10, Value.int .i64 0)] (by kernel_rfl) (by kernel_rfl) ?_
        change WpE _ _ c_towpathref16_New_27 _ _ _
        refine wpE_block (id := 0) (x := c_towpathref16_New_28) (by kernel_rfl) ?_
        obtain ⟨I, μ, h0, hr⟩ := h
        refine wpE_loop (x := c_towpathref16_New_29) (by kernel_rfl) (fun m l w => ∃ (i : Int), l = [(0, Value.pointer s), (1, Value.int .i64 mark), (2, Value.slice beyond.ptr beyond.len beyond.cap), (3, Value.int .i64 window), (10, Value.int .i64 i)] ∧ I i w ∧ μ i w = m) (l' := [(0, Value.pointer s), (1, Value.int .i64 mark), (2, Value.slice beyond.ptr beyond.len beyond.cap), (3, Value.int .i64 window), (10, Value.int .i64 0)]) (Sub.mk (by kernel_rfl)) ⟨0, rfl, h0, rfl⟩ ?_
        rintro _ _ w1 ⟨i, rfl, hI, rfl⟩
        obtain ⟨again_, again__h, h⟩ : ∃ again_ : Int → World → Prop, (∀ i' w', again_ i' w' → I i' w' ∧ μ i' w' < μ i w1) ∧ F_towpathref16_New_L0 s mark beyond window R again_ i w1 := ⟨_, fun _ _ h => h, hr i w1 hI⟩
        clear h0 hI
        unfold F_towpathref16_New_L0 at h
        refine wpE_seq (x := c_towpathref16_New_30) (y := c_towpathref16_New_36) (by kernel_rfl) ?_
        refine wpE_seq (x := c_towpathref16_New_31) (y := c_towpathref16_New_33) (by kernel_rfl) ?_
        refine wpE_region (id := 6) (ops := r_towpathref16_New_31) (by kernel_rfl) ?_
        refine reg_run [.plain, .plain, .plain, .plain] 4 [(0, [], Value.pointer s), (1, [], Value.int .i64 mark), (2, [], Value.slice beyond.ptr beyond.len beyond.cap), (3, [], Value.int .i64 window), (10, [], Value.int .i64 i), (27, [], Value.bool (decide (i < ((beyond.len : Nat) : Int))))] (by kernel_rfl) (by kernel_rfl) ?_
        refine reg_end [(0, Value.pointer s), (1, Value.int .i64 mark), (2, Value.slice beyond.ptr beyond.len beyond.cap), (3, Value.int .i64 window), (10, Value.int .i64 i), (27, Value.bool (decide (i < ((beyond.len : Nat) : Int))))] (by kernel_rfl) (by kernel_rfl) ?_
        change WpE _ _ c_towpathref16_New_33 _ _ _
        refine wpE_cond (o := (Operand.tmp 27)) (b := (decide (i < ((beyond.len : Nat) : Int)))) (x := c_towpathref16_New_34) (y := c_towpathref16_New_35) (by kernel_rfl) (by kernel_rfl) (fun hb => ?_) (fun hb => ?_)
        · replace h := h.1 hb
          refine wpE_skip (by kernel_rfl) ?_
          change WpE _ _ c_towpathref16_New_36 _ _ _
          refine wpE_seq (x := c_towpathref16_New_37) (y := c_towpathref16_New_47) (by kernel_rfl) ?_
          refine wpE_block (id := 1) (x := c_towpathref16_New_38) (by kernel_rfl) ?_
          refine wpE_seq_cut (x := c_towpathref16_New_39) (y := c_towpathref16_New_41) (by kernel_rfl) (fun l w => ∃ (t62 : Bool), l = [(0, Value.pointer s), (1, Value.int .i64 mark), (2, Value.slice beyond.ptr beyond.len beyond.cap), (3, Value.int .i64 window), (10, Value.int .i64 i), (62, Value.bool t62)] ∧ F_towpathref16_New_k1 R i again_ t62 w) ?_ ?_
          · refine wpE_drawregion (id := 8) (ops := r_towpathref16_New_39) (by kernel_rfl) (by kernel_rfl) (by kernel_rfl) ?_
            refine qreg_run [.plain, .plain, .plain, .plain] 4 [(0, [], Value.pointer s), (1, [], Value.int .i64 mark), (2, [], Value.slice beyond.ptr beyond.len beyond.cap), (3, [], Value.int .i64 window), (10, [], Value.int .i64 i), (32, [], Value.bool (i == 0)), (33, [(32, true)], Value.slice beyond.ptr beyond.len beyond.cap)] (by kernel_rfl) (by kernel_rfl) ?_
            refine qreg_split 32 (i == 0) (by kernel_rfl) (fun hb => ?_) (fun hb => ?_)
            · replace h := h.1 hb
              refine qreg_run [] 4 [(0, [], Value.pointer s), (1, [], Value.int .i64 mark), (2, [], Value.slice beyond.ptr beyond.len beyond.cap), (3, [], Value.int .i64 window), (10, [], Value.int .i64 i), (32, [], Value.bool true), (33, [], Value.slice beyond.ptr beyond.len beyond.cap)] (by kernel_rfl) (by kernel_rfl) ?_
              refine qreg_run [] 4 [(0, [], Value.pointer s), (1, [], Value.int .i64 mark), (2, [], Value.slice beyond.ptr beyond.len beyond.cap), (3, [], Value.int .i64 window), (10, [], Value.int .i64 i), (32, [], Value.bool true), (33, [], Value.slice beyond.ptr beyond.len beyond.cap)] (by kernel_rfl) (by kernel_rfl) ?_
              obtain ⟨hp_42, h⟩ := h
              refine qreg_conv [(0, [], Value.pointer s), (1, [], Value.int .i64 mark), (2, [], Value.slice beyond.ptr beyond.len beyond.cap), (3, [], Value.int .i64 window), (10, [], Value.int .i64 i), (32, [], Value.bool true), (33, [], Value.slice (some ⟨(pblk beyond.ptr), (poff beyond.ptr), none⟩) beyond.len beyond.cap)] (congrArg (fun pp => ([(0, [], Value.pointer s), (1, [], Value.int .i64 mark), (2, [], Value.slice beyond.ptr beyond.len beyond.cap), (3, [], Value.int .i64 window), (10, [], Value.int .i64 i), (32, [], Value.bool true), (33, [], Value.slice pp beyond.len beyond.cap)] : GEnv)) hp_42) ?_
              obtain ⟨h0, h1, h⟩ := h
              refine qreg_indexS1 (t := 23) (e := 3) (x := (Go.Operand.tmp 33)) (ix := (Go.Operand.const (Go.Value.int Go.IntKind.i64 0))) (b := (pblk beyond.ptr)) (o := (poff beyond.ptr)) (l := beyond.len) (c := beyond.cap) (k := .i64) (j := 0) (ty := 0) (dst := some 34) (by kernel_rfl) (by kernel_rfl) (by kernel_rfl) (by kernel_rfl) (by kernel_rfl) h0 h1 ?_
              refine qreg_run [] 5 [(0, [], Value.pointer s), (1, [], Value.int .i64 mark), (2, [], Value.slice beyond.ptr beyond.len beyond.cap), (3, [], Value.int .i64 window), (10, [], Value.int .i64 i), (32, [], Value.bool true), (34, [], Value.pointer (some ⟨(pblk beyond.ptr), (poff beyond.ptr), none⟩))] (by kernel_rfl) (by kernel_rfl) ?_
              obtain ⟨v35, hc, h⟩ := h
              refine qreg_load1 (t := 3) (a := (Go.Operand.tmp 34)) (b := (pblk beyond.ptr)) (o := (poff beyond.ptr)) (ty := 3) (dst := some 35) (by kernel_rfl) (by kernel_rfl) (by kernel_rfl) hc ?_
              refine qreg_run [.sure, .sure, .sure, .plain] 10 [(0, [], Value.pointer s), (1, [], Value.int .i64 mark), (2, [], Value.slice beyond.ptr beyond.len beyond.cap), (3, [], Value.int .i64 window), (10, [], Value.int .i64 i), (32, [], Value.bool true), (38, [], Value.bool (decide (v35 ≤ mark))), (39, [(38, false)], Value.slice beyond.ptr beyond.len beyond.cap)] (by kernel_rfl) (by kernel_rfl) ?_
              refine qreg_split 38 (decide (v35 ≤ mark)) (by kernel_rfl) (fun hb => ?_) (fun hb => ?_)
              · replace h := h.1 hb
                refine qreg_run [] 10 [(0, [], Value.pointer s), (1, [], Value.int .i64 mark), (2, [], Value.slice beyond.ptr beyond.len beyond.cap), (3, [], Value.int .i64 window), (10, [], Value.int .i64 i), (32, [], Value.bool true), (38, [], Value.bool true), (39, [], undef)] (by kernel_rfl) (by kernel_rfl) ?_
                refine qreg_run [.skip, .skip, .skip, .skip, .skip, .sure, .plain, .plain, .skip, .skip, .skip, .skip, .skip, .skip, .skip, .skip, .skip, .skip, .skip, .skip, .skip, .skip, .plain] 33 [(0, [], Value.pointer s), (1, [], Value.int .i64 mark), (2, [], Value.slice beyond.ptr beyond.len beyond.cap), (3, [], Value.int .i64 window), (10, [], Value.int .i64 i), (62, [], Value.bool true)] (by kernel_rfl) (by kernel_rfl) ?_
                refine qreg_end [(0, Value.pointer s), (1, Value.int .i64 mark), (2, Value.slice beyond.ptr beyond.len beyond.cap), (3, Value.int .i64 window), (10, Value.int .i64 i), (62, Value.bool true)] (by kernel_rfl) (by kernel_rfl) (fun w3 hw => ?_)
                replace h := h w3 hw
                clear hw
                exact ⟨[(0, Value.pointer s), (1, Value.int .i64 mark), (2, Value.slice beyond.ptr beyond.len beyond.cap), (3, Value.int .i64 window), (10, Value.int .i64 i), (62, Value.bool true)], Sub.mk (by kernel_rfl), true, rfl, h⟩
              · replace h := h.2 hb
                refine qreg_run [] 10 [(0, [], Value.pointer s), (1, [], Value.int .i64 mark), (2, [], Value.slice beyond.ptr beyond.len beyond.cap), (3, [], Value.int .i64 window), (10, [], Value.int .i64 i), (32, [], Value.bool true), (38, [], Value.bool false), (39, [], Value.slice beyond.ptr beyond.len beyond.cap)] (by kernel_rfl) (by kernel_rfl) ?_
                refine qreg_run [] 10 [(0, [], Value.pointer s), (1, [], Value.int .i64 mark), (2, [], Value.slice beyond.ptr beyond.len beyond.cap), (3, [], Value.int .i64 window), (10, [], Value.int .i64 i), (32, [], Value.bool true), (38, [], Value.bool false), (39, [], Value.slice beyond.ptr beyond.len beyond.cap)] (by kernel_rfl) (by kernel_rfl) ?_
                obtain ⟨hp_43, h⟩ := h
                refine qreg_conv [(0, [], Value.pointer s), (1, [], Value.int .i64 mark), (2, [], Value.slice beyond.ptr beyond.len beyond.cap), (3, [], Value.int .i64 window), (10, [], Value.int .i64 i), (32, [], Value.bool true), (38, [], Value.bool false), (39, [], Value.slice (some ⟨(pblk beyond.ptr), (poff beyond.ptr), none⟩) beyond.len beyond.cap)] (congrArg (fun pp => ([(0, [], Value.pointer s), (1, [], Value.int .i64 mark), (2, [], Value.slice beyond.ptr beyond.len beyond.cap), (3, [], Value.int .i64 window), (10, [], Value.int .i64 i), (32, [], Value.bool true), (38, [], Value.bool false), (39, [], Value.slice pp beyond.len beyond.cap)] : GEnv)) hp_43) ?_
                obtain ⟨h0, h1, h⟩ := h
                refine qreg_indexS1 (t := 23) (e := 3) (x := (Go.Operand.tmp 39)) (ix := (Go.Operand.const (Go.Value.int Go.IntKind.i64 0))) (b := (pblk beyond.ptr)) (o := (poff beyond.ptr)) (l := beyond.len) (c := beyond.cap) (k := .i64) (j := 0) (ty := 0) (dst := some 40) (by kernel_rfl) (by kernel_rfl) (by kernel_rfl) (by kernel_rfl) (by kernel_rfl) h0 h1 ?_
                refine qreg_run [] 11 [(0, [], Value.pointer s), (1, [], Value.int .i64 mark), (2, [], Value.slice beyond.ptr beyond.len beyond.cap), (3, [], Value.int .i64 window), (10, [], Value.int .i64 i), (32, [], Value.bool true), (38, [], Value.bool false), (40, [], Value.pointer (some ⟨(pblk beyond.ptr), (poff beyond.ptr), none⟩))] (by kernel_rfl) (by kernel_rfl) ?_
                obtain ⟨v41, hc, h⟩ := h
                refine qreg_load1 (t := 3) (a := (Go.Operand.tmp 40)) (b := (pblk beyond.ptr)) (o := (poff beyond.ptr)) (ty := 3) (dst := some 41) (by kernel_rfl) (by kernel_rfl) (by kernel_rfl) hc ?_
                refine qreg_run [.sure, .sure, .sure, .sure, .plain, .plain, .plain, .plain, .plain, .plain, .plain] 23 [(0, [], Value.pointer s), (1, [], Value.int .i64 mark), (2, [], Value.slice beyond.ptr beyond.len beyond.cap), (3, [], Value.int .i64 window), (10, [], Value.int .i64 i), (47, [], Value.bool (decide ((IntKind.i64.wrap (v41 - 1)) ≤ mark))), (50, [(47, false)], Value.bool (decide (i > 0))), (51, [(50, true), (47, false)], Value.slice beyond.ptr beyond.len beyond.cap), (52, [(50, true), (47, false)], Value.int .i64 i)] (by kernel_rfl) (by kernel_rfl) ?_
                refine qreg_split 47 (decide ((IntKind.i64.wrap (v41 - 1)) ≤ mark)) (by kernel_rfl) (fun hb => ?_) (fun hb => ?_)
                · replace h := h.1 hb
                  refine qreg_run [] 23 [(0, [], Value.pointer s), (1, [], Value.int .i64 mark), (2, [], Value.slice beyond.ptr beyond.len beyond.cap), (3, [], Value.int .i64 window), (10, [], Value.int .i64 i), (47, [], Value.bool true), (50, [], undef), (51, [], undef), (52, [], undef)] (by kernel_rfl) (by kernel_rfl) ?_
                  refine qreg_run [.skip, .skip, .skip, .skip, .skip, .skip, .skip, .skip, .skip, .plain] 33 [(0, [], Value.pointer s), (1, [], Value.int .i64 mark), (2, [], Value.slice beyond.ptr beyond.len beyond.cap), (3, [], Value.int .i64 window), (10, [], Value.int .i64 i), (62, [], Value.bool true)] (by kernel_rfl) (by kernel_rfl) ?_
                  refine qreg_end [(0, Value.pointer s), (1, Value.int .i64 mark), (2, Value.slice beyond.ptr beyond.len beyond.cap), (3, Value.int .i64 window), (10, Value.int .i64 i), (62, Value.bool true)] (by kernel_rfl) (by kernel_rfl) (fun w4 hw => ?_)
                  replace h := h w4 hw
                  clear hw
                  exact ⟨[(0, Value.pointer s), (1, Value.int .i64 mark), (2, Value.slice beyond.ptr beyond.len beyond.cap), (3, Value.int .i64 window), (10, Value.int .i64 i), (62, Value.bool true)], Sub.mk (by kernel_rfl), true, rfl, h⟩
                · replace h := h.2 hb
                  refine qreg_run [] 23 [(0, [], Value.pointer s), (1, [], Value.int .i64 mark), (2, [], Value.slice beyond.ptr beyond.len beyond.cap), (3, [], Value.int .i64 window), (10, [], Value.int .i64 i), (47, [], Value.bool false), (50, [], Value.bool (decide (i > 0))), (51, [(50, true)], Value.slice beyond.ptr beyond.len beyond.cap), (52, [(50, true)], Value.int .i64 i)] (by kernel_rfl) (by kernel_rfl) ?_
                  refine qreg_run [] 23 [(0, [], Value.pointer s), (1, [], Value.int .i64 mark), (2, [], Value.slice beyond.ptr beyond.len beyond.cap), (3, [], Value.int .i64 window), (10, [], Value.int .i64 i), (47, [], Value.bool false), (50, [], Value.bool (decide (i > 0))), (51, [(50, true)], Value.slice beyond.ptr beyond.len beyond.cap), (52, [(50, true)], Value.int .i64 i)] (by kernel_rfl) (by kernel_rfl) ?_
                  refine qreg_split 50 (decide (i > 0)) (by kernel_rfl) (fun hb => ?_) (fun hb => ?_)
                  · replace h := h.1 hb
                    refine qreg_run [] 23 [(0, [], Value.pointer s), (1, [], Value.int .i64 mark), (2, [], Value.slice beyond.ptr beyond.len beyond.cap), (3, [], Value.int .i64 window), (10, [], Value.int .i64 i), (47, [], Value.bool false), (50, [], Value.bool true), (51, [], Value.slice beyond.ptr beyond.len beyond.cap), (52, [], Value.int .i64 i)] (by kernel_rfl) (by kernel_rfl) ?_
                    refine qreg_run [] 23 [(0, [], Value.pointer s), (1, [], Value.int .i64 mark), (2, [], Value.slice beyond.ptr beyond.len beyond.cap), (3, [], Value.int .i64 window), (10, [], Value.int .i64 i), (47, [], Value.bool false), (50, [], Value.bool true), (51, [], Value.slice beyond.ptr beyond.len beyond.cap), (52, [], Value.int .i64 i)] (by kernel_rfl) (by kernel_rfl) ?_
                    obtain ⟨hp_44, h⟩ := h
                    refine qreg_conv [(0, [], Value.pointer s), (1, [], Value.int .i64 mark), (2, [], Value.slice beyond.ptr beyond.len beyond.cap), (3, [], Value.int .i64 window), (10, [], Value.int .i64 i), (47, [], Value.bool false), (50, [], Value.bool true), (51, [], Value.slice (some ⟨(pblk beyond.ptr), (poff beyond.ptr), none⟩) beyond.len beyond.cap), (52, [], Value.int .i64 i)] (congrArg (fun pp => ([(0, [], Value.pointer s), (1, [], Value.int .i64 mark), (2, [], Value.slice beyond.ptr beyond.len beyond.cap), (3, [], Value.int .i64 window), (10, [], Value.int .i64 i), (47, [], Value.bool false), (50, [], Value.bool true), (51, [], Value.slice pp beyond.len beyond.cap), (52, [], Value.int .i64 i)] : GEnv)) hp_44) ?_
                    obtain ⟨h0, h1, h⟩ := h
                    refine qreg_indexS1 (t := 23) (e := 3) (x := (Go.Operand.tmp 51)) (ix := (Go.Operand.tmp 52)) (b := (pblk beyond.ptr)) (o := (poff beyond.ptr)) (l := beyond.len) (c := beyond.cap) (k := .i64) (j := i) (ty := 0) (dst := some 53) (by kernel_rfl) (by kernel_rfl) (by kernel_rfl) (by kernel_rfl) (by kernel_rfl) h0 h1 ?_
                    refine qreg_run [] 24 [(0, [], Value.pointer s), (1, [], Value.int .i64 mark), (2, [], Value.slice beyond.ptr beyond.len beyond.cap), (3, [], Value.int .i64 window), (10, [], Value.int .i64 i), (47, [], Value.bool false), (50, [], Value.bool true), (53, [], Value.pointer (some ⟨(pblk beyond.ptr), (poff beyond.ptr) + i.toNat, none⟩))] (by kernel_rfl) (by kernel_rfl) ?_
                    obtain ⟨v54, hc, h⟩ := h
                    refine qreg_load1 (t := 3) (a := (Go.Operand.tmp 53)) (b := (pblk beyond.ptr)) (o := ((poff beyond.ptr) + i.toNat)) (ty := 3) (dst := some 54) (by kernel_rfl) (by kernel_rfl) (by kernel_rfl) hc ?_
                    refine qreg_run [.sure, .sure, .sure] 28 [(0, [], Value.pointer s), (1, [], Value.int .i64 mark), (2, [], Value.slice beyond.ptr beyond.len beyond.cap), (3, [], Value.int .i64 window), (10, [], Value.int .i64 i), (47, [], Value.bool false), (50, [], Value.bool true), (54, [], Value.int .i64 v54), (55, [], Value.slice beyond.ptr beyond.len beyond.cap), (57, [], Value.int .i64 (IntKind.i64.wrap (i - 1)))] (by kernel_rfl) (by kernel_rfl) ?_
                    obtain ⟨hp_45, h⟩ := h
                    refine qreg_conv [(0, [], Value.pointer s), (1, [], Value.int .i64 mark), (2, [], Value.slice beyond.ptr beyond.len beyond.cap), (3, [], Value.int .i64 window), (10, [], Value.int .i64 i), (47, [], Value.bool false), (50, [], Value.bool true), (54, [], Value.int .i64 v54), (55, [], Value.slice (some ⟨(pblk beyond.ptr), (poff beyond.ptr), none⟩) beyond.len beyond.cap), (57, [], Value.int .i64 (IntKind.i64.wrap (i - 1)))] (congrArg (fun pp => ([(0, [], Value.pointer s), (1, [], Value.int .i64 mark), (2, [], Value.slice beyond.ptr beyond.len beyond.cap), (3, [], Value.int .i64 window), (10, [], Value.int .i64 i), (47, [], Value.bool false), (50, [], Value.bool true), (54, [], Value.int .i64 v54), (55, [], Value.slice pp beyond.len beyond.cap), (57, [], Value.int .i64 (IntKind.i64.wrap (i - 1)))] : GEnv)) hp_45) ?_
                    obtain ⟨h0, h1, h⟩ := h
                    refine qreg_indexS1 (t := 23) (e := 3) (x := (Go.Operand.tmp 55)) (ix := (Go.Operand.tmp 57)) (b := (pblk beyond.ptr)) (o := (poff beyond.ptr)) (l := beyond.len) (c := beyond.cap) (k := .i64) (j := (IntKind.i64.wrap (i - 1))) (ty := 0) (dst := some 58) (by kernel_rfl) (by kernel_rfl) (by kernel_rfl) (by kernel_rfl) (by kernel_rfl) h0 h1 ?_
                    refine qreg_run [] 29 [(0, [], Value.pointer s), (1, [], Value.int .i64 mark), (2, [], Value.slice beyond.ptr beyond.len beyond.cap), (3, [], Value.int .i64 window), (10, [], Value.int .i64 i), (47, [], Value.bool false), (50, [], Value.bool true), (54, [], Value.int .i64 v54), (58, [], Value.pointer (some ⟨(pblk beyond.ptr), (poff beyond.ptr) + (IntKind.i64.wrap (i - 1)).toNat, none⟩))] (by kernel_rfl) (by kernel_rfl) ?_
                    obtain ⟨v59, hc, h⟩ := h
                    refine qreg_load1 (t := 3) (a := (Go.Operand.tmp 58)) (b := (pblk beyond.ptr)) (o := ((poff beyond.ptr) + (IntKind.i64.wrap (i - 1)).toNat)) (ty := 3) (dst := some 59) (by kernel_rfl) (by kernel_rfl) (by kernel_rfl) hc ?_
                    refine qreg_run [.sure, .sure, .plain] 33 [(0, [], Value.pointer s), (1, [], Value.int .i64 mark), (2, [], Value.slice beyond.ptr beyond.len beyond.cap), (3, [], Value.int .i64 window), (10, [], Value.int .i64 i), (62, [], Value.bool (decide (v54 ≤ v59)))] (by kernel_rfl) (by kernel_rfl) ?_
                    refine qreg_end [(0, Value.pointer s), (1, Value.int .i64 mark), (2, Value.slice beyond.ptr beyond.len beyond.cap), (3, Value.int .i64 window), (10, Value.int .i64 i), (62, Value.bool (decide (v54 ≤ v59)))] (by kernel_rfl) (by kernel_rfl) (fun w5 hw => ?_)
                    replace h := h w5 hw
                    clear hw
                    exact ⟨[(0, Value.pointer s), (1, Value.int .i64 mark), (2, Value.slice beyond.ptr beyond.len beyond.cap), (3, Value.int .i64 window), (10, Value.int .i64 i), (62, Value.bool (decide (v54 ≤ v59)))], Sub.mk (by kernel_rfl), (decide (v54 ≤ v59)), rfl, h⟩
                  · replace h := h.2 hb
                    refine qreg_run [] 23 [(0, [], Value.pointer s), (1, [], Value.int .i64 mark), (2, [], Value.slice beyond.ptr beyond.len beyond.cap), (3, [], Value.int .i64 window), (10, [], Value.int .i64 i), (47, [], Value.bool false), (50, [], Value.bool false), (51, [], undef), (52, [], undef)] (by kernel_rfl) (by kernel_rfl) ?_
                    refine qreg_run [.skip, .skip, .skip, .skip, .skip, .skip, .skip, .skip, .sure, .plain] 33 [(0, [], Value.pointer s), (1, [], Value.int .i64 mark), (2, [], Value.slice beyond.ptr beyond.len beyond.cap), (3, [], Value.int .i64 window), (10, [], Value.int .i64 i), (62, [], Value.bool false)] (by kernel_rfl) (by kernel_rfl) ?_
                    refine qreg_end [(0, Value.pointer s), (1, Value.int .i64 mark), (2, Value.slice beyond.ptr beyond.len beyond.cap), (3, Value.int .i64 window), (10, Value.int .i64 i), (62, Value.bool false)] (by kernel_rfl) (by kernel_rfl) (fun w6 hw => ?_)
                    replace h := h w6 hw
                    clear hw
                    exact ⟨[(0, Value.pointer s), (1, Value.int .i64 mark), (2, Value.slice beyond.ptr beyond.len beyond.cap), (3, Value.int .i64 window), (10, Value.int .i64 i), (62, Value.bool false)], Sub.mk (by kernel_rfl), false, rfl, h⟩
            · replace h := h.2 hb
              refine qreg_run [] 4 [(0, [], Value.pointer s), (1, [], Value.int .i64 mark), (2, [], Value.slice beyond.ptr beyond.len beyond.cap), (3, [], Value.int .i64 window), (10, [], Value.int .i64 i), (32, [], Value.bool false), (33, [], undef)] (by kernel_rfl) (by kernel_rfl) ?_
              refine qreg_run [.skip, .skip, .skip, .skip, .skip, .skip, .skip, .skip, .skip, .skip, .skip, .skip, .plain, .plain, .sure, .sure, .sure, .plain, .plain] 23 [(0, [], Value.pointer s), (1, [], Value.int .i64 mark), (2, [], Value.slice beyond.ptr beyond.len beyond.cap), (3, [], Value.int .i64 window), (10, [], Value.int .i64 i), (47, [], Value.bool false), (50, [], Value.bool (decide (i > 0))), (51, [(50, true)], Value.slice beyond.ptr beyond.len beyond.cap), (52, [(50, true)], Value.int .i64 i)] (by kernel_rfl) (by kernel_rfl) ?_
              refine qreg_split 50 (decide (i > 0)) (by kernel_rfl) (fun hb => ?_) (fun hb => ?_)
              · replace h := h.1 hb
                refine qreg_run [] 23 [(0, [], Value.pointer s), (1, [], Value.int .i64 mark), (2, [], Value.slice beyond.ptr beyond.len beyond.cap), (3, [], Value.int .i64 window), (10, [], Value.int .i64 i), (47, [], Value.bool false), (50, [], Value.bool true), (51, [], Value.slice beyond.ptr beyond.len beyond.cap), (52, [], Value.int .i64 i)] (by kernel_rfl) (by kernel_rfl) ?_
                refine qreg_run [] 23 [(0, [], Value.pointer s), (1, [], Value.int .i64 mark), (2, [], Value.slice beyond.ptr beyond.len beyond.cap), (3, [], Value.int .i64 window), (10, [], Value.int .i64 i), (47, [], Value.bool false), (50, [], Value.bool true), (51, [], Value.slice beyond.ptr beyond.len beyond.cap), (52, [], Value.int .i64 i)] (by kernel_rfl) (by kernel_rfl) ?_
                obtain ⟨hp_46, h⟩ := h
                refine qreg_conv [(0, [], Value.pointer s), (1, [], Value.int .i64 mark), (2, [], Value.slice beyond.ptr beyond.len beyond.cap), (3, [], Value.int .i64 window), (10, [], Value.int .i64 i), (47, [], Value.bool false), (50, [], Value.bool true), (51, [], Value.slice (some ⟨(pblk beyond.ptr), (poff beyond.ptr), none⟩) beyond.len beyond.cap), (52, [], Value.int .i64 i)] (congrArg (fun pp => ([(0, [], Value.pointer s), (1, [], Value.int .i64 mark), (2, [], Value.slice beyond.ptr beyond.len beyond.cap), (3, [], Value.int .i64 window), (10, [], Value.int .i64 i), (47, [], Value.bool false), (50, [], Value.bool true), (51, [], Value.slice pp beyond.len beyond.cap), (52, [], Value.int .i64 i)] : GEnv)) hp_46) ?_
                obtain ⟨h0, h1, h⟩ := h
                refine qreg_indexS1 (t := 23) (e := 3) (x := (Go.Operand.tmp 51)) (ix := (Go.Operand.tmp 52)) (b := (pblk beyond.ptr)) (o := (poff beyond.ptr)) (l := beyond.len) (c := beyond.cap) (k := .i64) (j := i) (ty := 0) (dst := some 53) (by kernel_rfl) (by kernel_rfl) (by kernel_rfl) (by kernel_rfl) (by kernel_rfl) h0 h1 ?_
                refine qreg_run [] 24 [(0, [], Value.pointer s), (1, [], Value.int .i64 mark), (2, [], Value.slice beyond.ptr beyond.len beyond.cap), (3, [], Value.int .i64 window), (10, [], Value.int .i64 i), (47, [], Value.bool false), (50, [], Value.bool true), (53, [], Value.pointer (some ⟨(pblk beyond.ptr), (poff beyond.ptr) + i.toNat, none⟩))] (by kernel_rfl) (by kernel_rfl) ?_
                obtain ⟨v541, hc, h⟩ := h
                refine qreg_load1 (t := 3) (a := (Go.Operand.tmp 53)) (b := (pblk beyond.ptr)) (o := ((poff beyond.ptr) + i.toNat)) (ty := 3) (dst := some 54) (by kernel_rfl) (by kernel_rfl) (by kernel_rfl) hc ?_
                refine qreg_run [.sure, .sure, .sure] 28 [(0, [], Value.pointer s), (1, [], Value.int .i64 mark), (2, [], Value.slice beyond.ptr beyond.len beyond.cap), (3, [], Value.int .i64 window), (10, [], Value.int .i64 i), (47, [], Value.bool false), (50, [], Value.bool true), (54, [], Value.int .i64 v541), (55, [], Value.slice beyond.ptr beyond.len beyond.cap), (57, [], Value.int .i64 (IntKind.i64.wrap (i - 1)))] (by kernel_rfl) (by kernel_rfl) ?_
                obtain ⟨hp_47, h⟩ := h
                refine qreg_conv [(0, [], Value.pointer s), (1, [], Value.int .i64 mark), (2, [], Value.slice beyond.ptr beyond.len beyond.cap), (3, [], Value.int .i64 window), (10, [], Value.int .i64 i), (47, [], Value.bool false), (50, [], Value.bool true), (54, [], Value.int .i64 v541), (55, [], Value.slice (some ⟨(pblk beyond.ptr), (poff beyond.ptr), none⟩) beyond.len beyond.cap), (57, [], Value.int .i64 (IntKind.i64.wrap (i - 1)))] (congrArg (fun pp => ([(0, [], Value.pointer s), (1, [], Value.int .i64 mark), (2, [], Value.slice beyond.ptr beyond.len beyond.cap), (3, [], Value.int .i64 window), (10, [], Value.int .i64 i), (47, [], Value.bool false), (50, [], Value.bool true), (54, [], Value.int .i64 v541), (55, [], Value.slice pp beyond.len beyond.cap), (57, [], Value.int .i64 (IntKind.i64.wrap (i - 1)))] : GEnv)) hp_47) ?_
                obtain ⟨h0, h1, h⟩ := h
                refine qreg_indexS1 (t := 23) (e := 3) (x := (Go.Operand.tmp 55)) (ix := (Go.Operand.tmp 57)) (b := (pblk beyond.ptr)) (o := (poff beyond.ptr)) (l := beyond.len) (c := beyond.cap) (k := .i64) (j := (IntKind.i64.wrap (i - 1))) (ty := 0) (dst := some 58) (by kernel_rfl) (by kernel_rfl) (by kernel_rfl) (by kernel_rfl) (by kernel_rfl) h0 h1 ?_
                refine qreg_run [] 29 [(0, [], Value.pointer s), (1, [], Value.int .i64 mark), (2, [], Value.slice beyond.ptr beyond.len beyond.cap), (3, [], Value.int .i64 window), (10, [], Value.int .i64 i), (47, [], Value.bool false), (50, [], Value.bool true), (54, [], Value.int .i64 v541), (58, [], Value.pointer (some ⟨(pblk beyond.ptr), (poff beyond.ptr) + (IntKind.i64.wrap (i - 1)).toNat, none⟩))] (by kernel_rfl) (by kernel_rfl) ?_
                obtain ⟨v591, hc, h⟩ := h
                refine qreg_load1 (t := 3) (a := (Go.Operand.tmp 58)) (b := (pblk beyond.ptr)) (o := ((poff beyond.ptr) + (IntKind.i64.wrap (i - 1)).toNat)) (ty := 3) (dst := some 59) (by kernel_rfl) (by kernel_rfl) (by kernel_rfl) hc ?_
                refine qreg_run [.sure, .sure, .plain] 33 [(0, [], Value.pointer s), (1, [], Value.int .i64 mark), (2, [], Value.slice beyond.ptr beyond.len beyond.cap), (3, [], Value.int .i64 window), (10, [], Value.int .i64 i), (62, [], Value.bool (decide (v541 ≤ v591)))] (by kernel_rfl) (by kernel_rfl) ?_
                refine qreg_end [(0, Value.pointer s), (1, Value.int .i64 mark), (2, Value.slice beyond.ptr beyond.len beyond.cap), (3, Value.int .i64 window), (10, Value.int .i64 i), (62, Value.bool (decide (v541 ≤ v591)))] (by kernel_rfl) (by kernel_rfl) (fun w7 hw => ?_)
                replace h := h w7 hw
                clear hw
                exact ⟨[(0, Value.pointer s), (1, Value.int .i64 mark), (2, Value.slice beyond.ptr beyond.len beyond.cap), (3, Value.int .i64 window), (10, Value.int .i64 i), (62, Value.bool (decide (v541 ≤ v591)))], Sub.mk (by kernel_rfl), (decide (v541 ≤ v591)), rfl, h⟩
              · replace h := h.2 hb
                refine qreg_run [] 23 [(0, [], Value.pointer s), (1, [], Value.int .i64 mark), (2, [], Value.slice beyond.ptr beyond.len beyond.cap), (3, [], Value.int .i64 window), (10, [], Value.int .i64 i), (47, [], Value.bool false), (50, [], Value.bool false), (51, [], undef), (52, [], undef)] (by kernel_rfl) (by kernel_rfl) ?_
                refine qreg_run [.skip, .skip, .skip, .skip, .skip, .skip, .skip, .skip, .sure, .plain] 33 [(0, [], Value.pointer s), (1, [], Value.int .i64 mark), (2, [], Value.slice beyond.ptr beyond.len beyond.cap), (3, [], Value.int .i64 window), (10, [], Value.int .i64 i), (62, [], Value.bool false)] (by kernel_rfl) (by kernel_rfl) ?_
                refine qreg_end [(0, Value.pointer s), (1, Value.int .i64 mark), (2, Value.slice beyond.ptr beyond.len beyond.cap), (3, Value.int .i64 window), (10, Value.int .i64 i), (62, Value.bool false)] (by kernel_rfl) (by kernel_rfl) (fun w8 hw => ?_)
                replace h := h w8 hw
                clear hw
                exact ⟨[(0, Value.pointer s), (1, Value.int .i64 mark), (2, Value.slice beyond.ptr beyond.len beyond.cap), (3, Value.int .i64 window), (10, Value.int .i64 i), (62, Value.bool false)], Sub.mk (by kernel_rfl), false, rfl, h⟩
          · rintro _ w2 ⟨t62, rfl, h⟩
            unfold F_towpathref16_New_k1 at h
            refine wpE_cond (o := (Operand.tmp 62)) (b := t62) (x := c_towpathref16_New_42) (y := c_towpathref16_New_46) (by kernel_rfl) (by kernel_rfl) (fun hb => ?_) (fun hb => ?_)
            · replace h := h.1 hb
              refine wpE_seq (x := c_towpathref16_New_43) (y := c_towpathref16_New_45) (by kernel_rfl) ?_
              refine wpE_region (id := 9) (ops := r_towpathref16_New_43) (by kernel_rfl) ?_
              refine reg_run [.plain, .plain] 2 [(8, [], Value.pointer none), (9, [], Value.int .i64 1)] (by kernel_rfl) (by kernel_rfl) ?_
              refine reg_end [(8, Value.pointer none), (9, Value.int .i64 1)] (by kernel_rfl) (by kernel_rfl) ?_
              change WpE _ _ c_towpathref16_New_45 _ _ _
              refine wpE_ret (by kernel_rfl) ?_
              repeat (first | refine seqQ_ret ?_ | refine blockQ_ret ?_ | refine loopQ_ret ?_ | refine cutQ_ret ?_)
              exact retT (rs := [(Go.ResultVar.tmp 8), (Go.ResultVar.tmp 9)]) (vs := [Value.pointer none, Value.int .i64 1]) (by kernel_rfl) (⟨by kernel_rfl, ⟨by kernel_rfl, trivial⟩⟩) (by kernel_rfl) ⟨none, 1, rfl, h⟩
            · replace h := h.2 hb
              refine wpE_skip (by kernel_rfl) ?_
              change WpE _ _ c_towpathref16_New_47 _ _ _
              refine wpE_region (id := 7) (ops := r_towpathref16_New_47) (by kernel_rfl) ?_
              refine reg_run [.plain, .plain, .plain] 3 [(0, [], Value.pointer s), (1, [], Value.int .i64 mark), (2, [], Value.slice beyond.ptr beyond.len beyond.cap), (3, [], Value.int .i64 window), (10, [], Value.int .i64 (IntKind.i64.wrap (i + 1)))] (by kernel_rfl) (by kernel_rfl) ?_
              refine reg_end [(0, Value.pointer s), (1, Value.int .i64 mark), (2, Value.slice beyond.ptr beyond.len beyond.cap), (3, Value.int .i64 window), (10, Value.int .i64 (IntKind.i64.wrap (i + 1)))] (by kernel_rfl) (by kernel_rfl) ?_
              have hb_ := again__h _ _ h
              exact ⟨_, hb_.2, [(0, Value.pointer s), (1, Value.int .i64 mark), (2, Value.slice beyond.ptr beyond.len beyond.cap), (3, Value.int .i64 window), (10, Value.int .i64 (IntKind.i64.wrap (i + 1)))], Sub.mk (by kernel_rfl), (IntKind.i64.wrap (i + 1)), rfl, hb_.1, rfl⟩
        · replace h := h.2 hb
          refine wpE_exit (id := 0) (by kernel_rfl) ?_
          change WpE _ _ c_towpathref16_New_49 _ _ _
          refine wpE_seq (x := c_towpathref16_New_50) (y := c_towpathref16_New_52) (by kernel_rfl) ?_
          refine wpE_region (id := 10) (ops := r_towpathref16_New_50) (by kernel_rfl) ?_
          refine reg_run [.plain] 1 [(0, [], Value.pointer s), (1, [], Value.int .i64 mark), (2, [], Value.slice beyond.ptr beyond.len beyond.cap), (3, [], Value.int .i64 window), (63, [], Value.pointer s)] (by kernel_rfl) (by kernel_rfl) ?_
          refine reg_enter (op := (Go.Op.call (Go.Call.mk (Go.Callee.value (Go.Operand.func 84)) #[(Go.Operand.tmp 63)] #[107]))) (ty := 3) (dst := some 64) 84 #[Value.pointer s] (by kernel_rfl) (fun ww => by kernel_rfl) (Calls.mono h ?_)
          rintro _ w9 ⟨v64, rfl, h⟩
          refine ⟨_, rfl, ?_⟩
          refine reg_run [.plain] 3 [(0, [], Value.pointer s), (1, [], Value.int .i64 mark), (2, [], Value.slice beyond.ptr beyond.len beyond.cap), (3, [], Value.int .i64 window), (11, [], Value.int .i64 v64)] (by kernel_rfl) (by kernel_rfl) ?_
          refine reg_end [(0, Value.pointer s), (1, Value.int .i64 mark), (2, Value.slice beyond.ptr beyond.len beyond.cap), (3, Value.int .i64 window), (11, Value.int .i64 v64)] (by kernel_rfl) (by kernel_rfl) ?_
          change WpE _ _ c_towpathref16_New_52 _ _ _
          refine wpE_seq (x := c_towpathref16_New_53) (y := c_towpathref16_New_62) (by kernel_rfl) ?_
          refine wpE_seq_cut (x := c_towpathref16_New_54) (y := c_towpathref16_New_56) (by kernel_rfl) (fun l w => ∃ (t82 : Bool), l = [(0, Value.pointer s), (1, Value.int .i64 mark), (2, Value.slice beyond.ptr beyond.len beyond.cap), (3, Value.int .i64 window), (82, Value.bool t82)] ∧ F_towpathref16_New_k2 s mark beyond window R t82 w) ?_ ?_
          · refine wpE_region (id := 11) (ops := r_towpathref16_New_54) (by kernel_rfl) ?_
            refine reg_run [.plain, .plain, .plain, .plain, .plain, .plain, .plain, .plain, .plain, .plain, .plain, .plain] 12 [(0, [], Value.pointer s), (1, [], Value.int .i64 mark), (2, [], Value.slice beyond.ptr beyond.len beyond.cap), (3, [], Value.int .i64 window), (11, [], Value.int .i64 v64), (68, [], Value.bool (decide (mark > v64))), (72, [(68, false)], Value.bool (decide (((beyond.len : Nat) : Int) > 0))), (73, [(72, true), (68, false)], Value.slice beyond.ptr beyond.len beyond.cap), (76, [(72, true), (68, false)], Value.int .i64 (IntKind.i64.wrap (((beyond.len : Nat) : Int) - 1)))] (by kernel_rfl) (by kernel_rfl) ?_
            refine reg_split 68 (decide (mark > v64)) (by kernel_rfl) (fun hb => ?_) (fun hb => ?_)
            · replace h := h.1 hb
              refine reg_run [] 12 [(0, [], Value.pointer s), (1, [], Value.int .i64 mark), (2, [], Value.slice beyond.ptr beyond.len beyond.cap), (3, [], Value.int .i64 window), (11, [], Value.int .i64 v64), (68, [], Value.bool true), (72, [], undef), (73, [], undef), (76, [], undef)] (by kernel_rfl) (by kernel_rfl) ?_
              refine reg_run [.skip, .skip, .skip, .skip, .skip, .plain] 18 [(0, [], Value.pointer s), (1, [], Value.int .i64 mark), (2, [], Value.slice beyond.ptr beyond.len beyond.cap), (3, [], Value.int .i64 window), (82, [], Value.bool true)] (by kernel_rfl) (by kernel_rfl) ?_
              refine reg_end [(0, Value.pointer s), (1, Value.int .i64 mark), (2, Value.slice beyond.ptr beyond.len beyond.cap), (3, Value.int .i64 window), (82, Value.bool true)] (by kernel_rfl) (by kernel_rfl) ?_
              exact ⟨[(0, Value.pointer s), (1, Value.int .i64 mark), (2, Value.slice beyond.ptr beyond.len beyond.cap), (3, Value.int .i64 window), (82, Value.bool true)], Sub.mk (by kernel_rfl), true, rfl, h⟩
            · replace h := h.2 hb
              refine reg_run [] 12 [(0, [], Value.pointer s), (1, [], Value.int .i64 mark), (2, [], Value.slice beyond.ptr beyond.len beyond.cap), (3, [], Value.int .i64 window), (11, [], Value.int .i64 v64), (68, [], Value.bool false), (72, [], Value.bool (decide (((beyond.len : Nat) : Int) > 0))), (73, [(72, true)], Value.slice beyond.ptr beyond.len beyond.cap), (76, [(72, true)], Value.int .i64 (IntKind.i64.wrap (((beyond.len : Nat) : Int) - 1)))] (by kernel_rfl) (by kernel_rfl) ?_
              refine reg_run [] 12 [(0, [], Value.pointer s), (1, [], Value.int .i64 mark), (2, [], Value.slice beyond.ptr beyond.len beyond.cap), (3, [], Value.int .i64 window), (11, [], Value.int .i64 v64), (68, [], Value.bool false), (72, [], Value.bool (decide (((beyond.len : Nat) : Int) > 0))), (73, [(72, true)], Value.slice beyond.ptr beyond.len beyond.cap), (76, [(72, true)], Value.int .i64 (IntKind.i64.wrap (((beyond.len : Nat) : Int) - 1)))] (by kernel_rfl) (by kernel_rfl) ?_
              refine reg_split 72 (decide (((beyond.len : Nat) : Int) > 0)) (by kernel_rfl) (fun hb => ?_) (fun hb => ?_)
              · replace h := h.1 hb
                refine reg_run [] 12 [(0, [], Value.pointer s), (1, [], Value.int .i64 mark), (2, [], Value.slice beyond.ptr beyond.len beyond.cap), (3, [], Value.int .i64 window), (11, [], Value.int .i64 v64), (68, [], Value.bool false), (72, [], Value.bool true), (73, [], Value.slice beyond.ptr beyond.len beyond.cap), (76, [], Value.int .i64 (IntKind.i64.wrap (((beyond.len : Nat) : Int) - 1)))] (by kernel_rfl) (by kernel_rfl) ?_
                refine reg_run [] 12 [(0, [], Value.pointer s), (1, [], Value.int .i64 mark), (2, [], Value.slice beyond.ptr beyond.len beyond.cap), (3, [], Value.int .i64 window), (11, [], Value.int .i64 v64), (68, [], Value.bool false), (72, [], Value.bool true), (73, [], Value.slice beyond.ptr beyond.len beyond.cap), (76, [], Value.int .i64 (IntKind.i64.wrap (((beyond.len : Nat) : Int) - 1)))] (by kernel_rfl) (by kernel_rfl) ?_
                obtain ⟨hp_51, h⟩ := h
                refine reg_conv [(0, [], Value.pointer s), (1, [], Value.int .i64 mark), (2, [], Value.slice beyond.ptr beyond.len beyond.cap), (3, [], Value.int .i64 window), (11, [], Value.int .i64 v64), (68, [], Value.bool false), (72, [], Value.bool true), (73, [], Value.slice (some ⟨(pblk beyond.ptr), (poff beyond.ptr), none⟩) beyond.len beyond.cap), (76, [], Value.int .i64 (IntKind.i64.wrap (((beyond.len : Nat) : Int) - 1)))] (congrArg (fun pp => ([(0, [], Value.pointer s), (1, [], Value.int .i64 mark), (2, [], Value.slice beyond.ptr beyond.len beyond.cap), (3, [], Value.int .i64 window), (11, [], Value.int .i64 v64), (68, [], Value.bool false), (72, [], Value.bool true), (73, [], Value.slice pp beyond.len beyond.cap), (76, [], Value.int .i64 (IntKind.i64.wrap (((beyond.len : Nat) : Int) - 1)))] : GEnv)) hp_51) ?_
                obtain ⟨h0, h1, h⟩ := h
                refine reg_indexS1 (t := 23) (e := 3) (x := (Go.Operand.tmp 73)) (ix := (Go.Operand.tmp 76)) (b := (pblk beyond.ptr)) (o := (poff beyond.ptr)) (l := beyond.len) (c := beyond.cap) (k := .i64) (j := (IntKind.i64.wrap (((beyond.len : Nat) : Int) - 1))) (ty := 0) (dst := some 77) (by kernel_rfl) (by kernel_rfl) (by kernel_rfl) (by kernel_rfl) (by kernel_rfl) h0 h1 ?_
                refine reg_run [] 13 [(0, [], Value.pointer s), (1, [], Value.int .i64 mark), (2, [], Value.slice beyond.ptr beyond.len beyond.cap), (3, [], Value.int .i64 window), (11, [], Value.int .i64 v64), (68, [], Value.bool false), (72, [], Value.bool true), (77, [], Value.pointer (some ⟨(pblk beyond.ptr), (poff beyond.ptr) + (IntKind.i64.wrap (((beyond.len : Nat) : Int) - 1)).toNat, none⟩))] (by kernel_rfl) (by kernel_rfl) ?_
                obtain ⟨v78, hc, h⟩ := h
                refine reg_load1 (t := 3) (a := (Go.Operand.tmp 77)) (b := (pblk beyond.ptr)) (o := ((poff beyond.ptr) + (IntKind.i64.wrap (((beyond.len : Nat) : Int) - 1)).toNat)) (ty := 3) (dst := some 78) (by kernel_rfl) (by kernel_rfl) (by kernel_rfl) hc ?_
                refine reg_run [.sure, .sure, .sure, .plain] 18 [(0, [], Value.pointer s), (1, [], Value.int .i64 mark), (2, [], Value.slice beyond.ptr beyond.len beyond.cap), (3, [], Value.int .i64 window), (82, [], Value.bool (decide (v78 > v64)))] (by kernel_rfl) (by kernel_rfl) ?_
                refine reg_end [(0, Value.pointer s), (1, Value.int .i64 mark), (2, Value.slice beyond.ptr beyond.len beyond.cap), (3, Value.int .i64 window), (82, Value.bool (decide (v78 > v64)))] (by kernel_rfl) (by kernel_rfl) ?_
                exact ⟨[(0, Value.pointer s), (1, Value.int .i64 mark), (2, Value.slice beyond.ptr beyond.len beyond.cap), (3, Value.int .i64 window), (82, Value.bool (decide (v78 > v64)))], Sub.mk (by kernel_rfl), (decide (v78 > v64)), rfl, h⟩
              · replace h := h.2 hb
                refine reg_run [] 12 [(0, [], Value.pointer s), (1, [], Value.int .i64 mark), (2, [], Value.slice beyond.ptr beyond.len beyond.cap), (3, [], Value.int .i64 window), (11, [], Value.int .i64 v64), (68, [], Value.bool false), (72, [], Value.bool false), (73, [], undef), (76, [], undef)] (by kernel_rfl) (by kernel_rfl) ?_
                refine reg_run [.skip, .skip, .skip, .skip, .sure, .plain] 18 [(0, [], Value.pointer s), (1, [], Value.int .i64 mark), (2, [], Value.slice beyond.ptr beyond.len beyond.cap), (3, [], Value.int .i64 window), (82, [], Value.bool false)] (by kernel_rfl) (by kernel_rfl) ?_
                refine reg_end [(0, Value.pointer s), (1, Value.int .i64 mark), (2, Value.slice beyond.ptr beyond.len beyond.cap), (3, Value.int .i64 window), (82, Value.bool false)] (by kernel_rfl) (by kernel_rfl) ?_
                exact ⟨[(0, Value.pointer s), (1, Value.int .i64 mark), (2, Value.slice beyond.ptr beyond.len beyond.cap), (3, Value.int .i64 window), (82, Value.bool false)], Sub.mk (by kernel_rfl), false, rfl, h⟩
          · rintro _ w10 ⟨t82, rfl, h⟩
            unfold F_towpathref16_New_k2 at h
            refine wpE_cond (o := (Operand.tmp 82)) (b := t82) (x := c_towpathref16_New_57) (y := c_towpathref16_New_61) (by kernel_rfl) (by kernel_rfl) (fun hb => ?_) (fun hb => ?_)
            · replace h := h.1 hb
              refine wpE_seq (x := c_towpathref16_New_58) (y := c_towpathref16_New_60) (by kernel_rfl) ?_
              refine wpE_region (id := 12) (ops := r_towpathref16_New_58) (by kernel_rfl) ?_
              refine reg_run [.plain, .plain] 2 [(8, [], Value.pointer none), (9, [], Value.int .i64 6)] (by kernel_rfl) (by kernel_rfl) ?_
              refine reg_end [(8, Value.pointer none), (9, Value.int .i64 6)] (by kernel_rfl) (by kernel_rfl) ?_
              change WpE _ _ c_towpathref16_New_60 _ _ _
              refine wpE_ret (by kernel_rfl) ?_
              repeat (first | refine seqQ_ret ?_ | refine blockQ_ret ?_ | refine loopQ_ret ?_ | refine cutQ_ret ?_)
              exact retT (rs := [(Go.ResultVar.tmp 8), (Go.ResultVar.tmp 9)]) (vs := [Value.pointer none, Value.int .i64 6]) (by kernel_rfl) (⟨by kernel_rfl, ⟨by kernel_rfl, trivial⟩⟩) (by kernel_rfl) ⟨none, 6, rfl, h⟩
            · replace h := h.2 hb
              refine wpE_skip (by kernel_rfl) ?_
              change WpE _ _ c_towpathref16_New_62 _ _ _
              refine wpE_seq (x := c_towpathref16_New_63) (y := c_towpathref16_New_65) (by kernel_rfl) ?_
              refine wpE_region (id := 13) (ops := r_towpathref16_New_63) (by kernel_rfl) ?_
              refine reg_run [.plain, .plain, .plain] 3 [(1, [], Value.int .i64 mark), (3, [], Value.int .i64 window), (83, [], Value.pointer s), (84, [], Value.int .i64 mark), (85, [], Value.slice beyond.ptr beyond.len beyond.cap)] (by kernel_rfl) (by kernel_rfl) ?_
              obtain ⟨src, hs, h⟩ := h
              refine reg_append (t := 23) (tx := 23) (e := 3) (a := (Go.Operand.const (Go.Value.slice none 0 0))) (xo := (Go.Operand.tmp 85)) (s := (Slc.mk none 0 0)) (x := beyond) (sz := 1) (by_ := 8) (zs := [Value.int .i64 0]) (ty := 23) (dst := some 86)  src (by kernel_rfl) (by kernel_rfl) (by kernel_rfl) (by kernel_rfl) (by kernel_rfl) (by kernel_rfl) (by kernel_rfl) (by kernel_rfl) (by kernel_rfl) hs (AppendW.mono h (fun v86 w11 h => ?_))
              refine reg_run [.plain, .plain, .plain] 7 [(89, [], Value.agg #[Value.pointer s, Value.int .i64 mark, Value.slice v86.ptr v86.len v86.cap, Value.int .i64 mark, Value.int .i64 window, Value.bool false, Value.int .i64 0, Value.slice none 0 0, Value.bool false])] (by kernel_rfl) (by kernel_rfl) ?_
              refine reg_new (op := (Go.Op.box 120 (Go.Operand.tmp 89))) (ty := 27) (dst := some 90) (fun bb => Value.pointer (some ⟨bb, 0, none⟩)) (Obj.cells ([Value.pointer s, Value.int .i64 mark, Value.slice v86.ptr v86.len v86.cap, Value.int .i64 mark, Value.int .i64 window, Value.bool false, Value.int .i64 0, Value.slice none 0 0, Value.bool false]).toArray ty_towpathref16_Feed (0, 0)) (by kernel_rfl) (by kernel_rfl) (fun b_ w12 hb hw => ?_)
              replace h := h b_ w12 hb hw
              clear hb hw
              refine reg_run [.plain, .plain] 10 [(8, [], Value.pointer (some ⟨b_, 0, none⟩)), (9, [], Value.int .i64 0)] (by kernel_rfl) (by kernel_rfl) ?_
              refine reg_end [(8, Value.pointer (some ⟨b_, 0, none⟩)), (9, Value.int .i64 0)] (by kernel_rfl) (by kernel_rfl) ?_
              change WpE _ _ c_towpathref16_New_65 _ _ _
              refine wpE_ret (by kernel_rfl) ?_
              repeat (first | refine seqQ_ret ?_ | refine blockQ_ret ?_ | refine loopQ_ret ?_ | refine cutQ_ret ?_)
              exact retT (rs := [(Go.ResultVar.tmp 8), (Go.ResultVar.tmp 9)]) (vs := [Value.pointer (some ⟨b_, 0, none⟩), Value.int .i64 0]) (by kernel_rfl) (⟨by kernel_rfl, ⟨by kernel_rfl, trivial⟩⟩) (by kernel_rfl) ⟨(some ⟨b_, 0, none⟩), 0, rfl, h⟩
  · rintro e w' ⟨v, rfl, r0, r1, rfl, h⟩; exact ⟨r0, r1, rfl, h⟩

/-! ### (*towpath/towpathref16.Feed).More (function 53) -/
noncomputable def c_towpathref16_Feed_More_0 : Code := (Try.f53.body).getD Code.skip
noncomputable def c_towpathref16_Feed_More_1 : Code := Code.l c_towpathref16_Feed_More_0
noncomputable def r_towpathref16_Feed_More_1 : Array Oper := Code.ops c_towpathref16_Feed_More_1
noncomputable def c_towpathref16_Feed_More_3 : Code := Code.r c_towpathref16_Feed_More_0
noncomputable def c_towpathref16_Feed_More_4 : Code := Code.l c_towpathref16_Feed_More_3
noncomputable def c_towpathref16_Feed_More_5 : Code := Code.l c_towpathref16_Feed_More_4
noncomputable def c_towpathref16_Feed_More_6 : Code := Code.l c_towpathref16_Feed_More_5
noncomputable def r_towpathref16_Feed_More_6 : Array Oper := Code.ops c_towpathref16_Feed_More_6
noncomputable def c_towpathref16_Feed_More_8 : Code := Code.r c_towpathref16_Feed_More_5
noncomputable def c_towpathref16_Feed_More_9 : Code := Code.l c_towpathref16_Feed_More_8
noncomputable def c_towpathref16_Feed_More_10 : Code := Code.l c_towpathref16_Feed_More_9
noncomputable def r_towpathref16_Feed_More_10 : Array Oper := Code.ops c_towpathref16_Feed_More_10
noncomputable def c_towpathref16_Feed_More_12 : Code := Code.r c_towpathref16_Feed_More_9
noncomputable def c_towpathref16_Feed_More_13 : Code := Code.r c_towpathref16_Feed_More_8
noncomputable def c_towpathref16_Feed_More_14 : Code := Code.l c_towpathref16_Feed_More_13
noncomputable def r_towpathref16_Feed_More_14 : Array Oper := Code.ops c_towpathref16_Feed_More_14
noncomputable def c_towpathref16_Feed_More_16 : Code := Code.r c_towpathref16_Feed_More_13
noncomputable def c_towpathref16_Feed_More_17 : Code := Code.l c_towpathref16_Feed_More_16
noncomputable def c_towpathref16_Feed_More_18 : Code := Code.l c_towpathref16_Feed_More_17
noncomputable def r_towpathref16_Feed_More_18 : Array Oper := Code.ops c_towpathref16_Feed_More_18
noncomputable def c_towpathref16_Feed_More_20 : Code := Code.r c_towpathref16_Feed_More_17
noncomputable def c_towpathref16_Feed_More_21 : Code := Code.r c_towpathref16_Feed_More_16
noncomputable def c_towpathref16_Feed_More_22 : Code := Code.l c_towpathref16_Feed_More_21
noncomputable def r_towpathref16_Feed_More_22 : Array Oper := Code.ops c_towpathref16_Feed_More_22
noncomputable def c_towpathref16_Feed_More_24 : Code := Code.r c_towpathref16_Feed_More_21
noncomputable def c_towpathref16_Feed_More_25 : Code := Code.l c_towpathref16_Feed_More_24
noncomputable def c_towpathref16_Feed_More_26 : Code := Code.l c_towpathref16_Feed_More_25
noncomputable def r_towpathref16_Feed_More_26 : Array Oper := Code.ops c_towpathref16_Feed_More_26
noncomputable def c_towpathref16_Feed_More_28 : Code := Code.r c_towpathref16_Feed_More_25
noncomputable def c_towpathref16_Feed_More_29 : Code := Code.r c_towpathref16_Feed_More_24
noncomputable def c_towpathref16_Feed_More_30 : Code := Code.r c_towpathref16_Feed_More_3
noncomputable def c_towpathref16_Feed_More_31 : Code := Code.l c_towpathref16_Feed_More_30
noncomputable def r_towpathref16_Feed_More_31 : Array Oper := Code.ops c_towpathref16_Feed_More_31
noncomputable def c_towpathref16_Feed_More_33 : Code := Code.r c_towpathref16_Feed_More_30
noncomputable def c_towpathref16_Feed_More_34 : Code := Code.l c_towpathref16_Feed_More_33
noncomputable def r_towpathref16_Feed_More_34 : Array Oper := Code.ops c_towpathref16_Feed_More_34
noncomputable def c_towpathref16_Feed_More_36 : Code := Code.r c_towpathref16_Feed_More_33

set_option maxRecDepth 100000 in
set_option maxHeartbeats 4000000 in
theorem S_towpathref16_Feed_More {f : Option Addr} {last : Int} {w : World} {R : Int → World → Prop} (h : F_towpathref16_Feed_More f last R w) : C_towpathref16_Feed_More f last w R := by
  unfold F_towpathref16_Feed_More at h
  unfold C_towpathref16_Feed_More
  refine Calls.mono (calls_of_wpE (args := [Value.pointer f, Value.int .i64 last]) (R := fun v w' => ∃ (r0 : Int), v = Value.int .i64 r0 ∧ R r0 w') Try.func53 (c := c_towpathref16_Feed_More_0) (by kernel_rfl) 33 (by kernel_rfl) (by kernel_rfl) [(0, Value.pointer f), (1, Value.int .i64 last)] (by kernel_rfl) ?_) ?_
  · refine wpE_seq (x := c_towpathref16_Feed_More_1) (y := c_towpathref16_Feed_More_3) (by kernel_rfl) ?_
    refine wpE_region (id := 0) (ops := r_towpathref16_Feed_More_1) (by kernel_rfl) ?_
    refine reg_run [.plain] 1 [(0, [], Value.pointer f), (1, [], Value.int .i64 last)] (by kernel_rfl) (by kernel_rfl) ?_
    refine reg_end [(0, Value.pointer f), (1, Value.int .i64 last)] (by kernel_rfl) (by kernel_rfl) ?_
    change WpE _ _ c_towpathref16_Feed_More_3 _ _ _
    refine wpE_seq (x := c_towpathref16_Feed_More_4) (y := c_towpathref16_Feed_More_30) (by kernel_rfl) ?_
    refine wpE_block (id := 0) (x := c_towpathref16_Feed_More_5) (by kernel_rfl) ?_
    refine wpE_seq (x := c_towpathref16_Feed_More_6) (y := c_towpathref16_Feed_More_8) (by kernel_rfl) ?_
    refine wpE_region (id := 1) (ops := r_towpathref16_Feed_More_6) (by kernel_rfl) ?_
    refine reg_run [.plain] 1 [(0, [], Value.pointer f), (1, [], Value.int .i64 last), (6, [], Value.pointer f)] (by kernel_rfl) (by kernel_rfl) ?_
    refine reg_val (op := (Go.Op.binOp Go.BinOp.eql 27 (Go.Operand.tmp 6) (Go.Operand.const (Go.Value.pointer none)) 27)) (ty := 4) (dst := some 7) (Value.bool f.isNone) (by kernel_rfl) (fun ww => run_ptr_eql_R (p := f) (by kernel_rfl) (by kernel_rfl) (by kernel_rfl) ww) ?_
    refine reg_run [.plain] 3 [(0, [], Value.pointer f), (1, [], Value.int .i64 last), (5, [], Value.bool f.isNone)] (by kernel_rfl) (by kernel_rfl) ?_
    refine reg_end [(0, Value.pointer f), (1, Value.int .i64 last), (5, Value.bool f.isNone)] (by kernel_rfl) (by kernel_rfl) ?_
    change WpE _ _ c_towpathref16_Feed_More_8 _ _ _
    refine wpE_cond (o := (Operand.tmp 5)) (b := f.isNone) (x := c_towpathref16_Feed_More_9) (y := c_towpathref16_Feed_More_13) (by kernel_rfl) (by kernel_rfl) (fun hb => ?_) (fun hb => ?_)
    · replace h := h.1 hb
      refine wpE_seq (x := c_towpathref16_Feed_More_10) (y := c_towpathref16_Feed_More_12) (by kernel_rfl) ?_
      refine wpE_region (id := 2) (ops := r_towpathref16_Feed_More_10) (by kernel_rfl) ?_
      refine reg_run [.plain] 1 [(4, [], Value.int .i64 2)] (by kernel_rfl) (by kernel_rfl) ?_
      refine reg_end [(4, Value.int .i64 2)] (by kernel_rfl) (by kernel_rfl) ?_
      change WpE _ _ c_towpathref16_Feed_More_12 _ _ _
      refine wpE_ret (by kernel_rfl) ?_
      repeat (first | refine seqQ_ret ?_ | refine blockQ_ret ?_ | refine loopQ_ret ?_ | refine cutQ_ret ?_)
      exact retS (rs := [(Go.ResultVar.tmp 4)]) (v := Value.int .i64 2) (by kernel_rfl) (⟨by kernel_rfl, trivial⟩) ⟨2, rfl, h⟩
    · replace h := h.2 hb
      refine wpE_seq (x := c_towpathref16_Feed_More_14) (y := c_towpathref16_Feed_More_16) (by kernel_rfl) ?_
      refine wpE_region (id := 3) (ops := r_towpathref16_Feed_More_14) (by kernel_rfl) ?_
      refine reg_run [.plain] 1 [(0, [], Value.pointer f), (1, [], Value.int .i64 last), (9, [], Value.pointer f)] (by kernel_rfl) (by kernel_rfl) ?_
      obtain ⟨hp_7, h⟩ := h
      refine reg_conv [(0, [], Value.pointer f), (1, [], Value.int .i64 last), (9, [], Value.pointer (some ⟨(pblk f), (poff f), none⟩))] (congrArg (fun pp => ([(0, [], Value.pointer f), (1, [], Value.int .i64 last), (9, [], Value.pointer pp)] : GEnv)) hp_7) ?_
      refine reg_run [.plain] 2 [(0, [], Value.pointer f), (1, [], Value.int .i64 last), (9, [], Value.pointer (some ⟨(pblk f), (poff f), none⟩)), (10, [], Value.pointer (some ⟨(pblk f), (poff f), none⟩))] (by kernel_rfl) (by kernel_rfl) ?_
      refine reg_run [.plain] 3 [(0, [], Value.pointer f), (1, [], Value.int .i64 last), (11, [], Value.pointer (some ⟨(pblk f), (poff f) + 8, none⟩))] (by kernel_rfl) (by kernel_rfl) ?_
      obtain ⟨v12, hc, h⟩ := h
      refine reg_load1 (t := 4) (a := (Go.Operand.tmp 11)) (b := (pblk f)) (o := ((poff f) + 8)) (ty := 4) (dst := some 12) (by kernel_rfl) (by kernel_rfl) (by kernel_rfl) hc ?_
      refine reg_run [.plain] 5 [(0, [], Value.pointer f), (1, [], Value.int .i64 last), (8, [], Value.bool v12)] (by kernel_rfl) (by kernel_rfl) ?_
      refine reg_end [(0, Value.pointer f), (1, Value.int .i64 last), (8, Value.bool v12)] (by kernel_rfl) (by kernel_rfl) ?_
      change WpE _ _ c_towpathref16_Feed_More_16 _ _ _
      refine wpE_cond (o := (Operand.tmp 8)) (b := v12) (x := c_towpathref16_Feed_More_17) (y := c_towpathref16_Feed_More_21) (by kernel_rfl) (by kernel_rfl) (fun hb => ?_) (fun hb => ?_)
      · replace h := h.1 hb
        refine wpE_seq (x := c_towpathref16_Feed_More_18) (y := c_towpathref16_Feed_More_20) (by kernel_rfl) ?_
        refine wpE_region (id := 4) (ops := r_towpathref16_Feed_More_18) (by kernel_rfl) ?_
        refine reg_run [.plain] 1 [(4, [], Value.int .i64 12)] (by kernel_rfl) (by kernel_rfl) ?_
        refine reg_end [(4, Value.int .i64 12)] (by kernel_rfl) (by kernel_rfl) ?_
        change WpE _ _ c_towpathref16_Feed_More_20 _ _ _
        refine wpE_ret (by kernel_rfl) ?_
        repeat (first | refine seqQ_ret ?_ | refine blockQ_ret ?_ | refine loopQ_ret ?_ | refine cutQ_ret ?_)
        exact retS (rs := [(Go.ResultVar.tmp 4)]) (v := Value.int .i64 12) (by kernel_rfl) (⟨by kernel_rfl, trivial⟩) ⟨12, rfl, h⟩
      · replace h := h.2 hb
        refine wpE_seq_cut (x := c_towpathref16_Feed_More_22) (y := c_towpathref16_Feed_More_24) (by kernel_rfl) (fun l w => ∃ (t13 : Bool), l = [(0, Value.pointer f), (1, Value.int .i64 last), (13, Value.bool t13)] ∧ F_towpathref16_Feed_More_k0 f last R t13 w) ?_ ?_
        · refine wpE_region (id := 5) (ops := r_towpathref16_Feed_More_22) (by kernel_rfl) ?_
          refine reg_run [.plain, .plain] 2 [(0, [], Value.pointer f), (1, [], Value.int .i64 last), (14, [], Value.int .i64 last), (15, [], Value.pointer f)] (by kernel_rfl) (by kernel_rfl) ?_
          obtain ⟨hp_12, h⟩ := h
          refine reg_conv [(0, [], Value.pointer f), (1, [], Value.int .i64 last), (14, [], Value.int .i64 last), (15, [], Value.pointer (some ⟨(pblk f), (poff f), none⟩))] (congrArg (fun pp => ([(0, [], Value.pointer f), (1, [], Value.int .i64 last), (14, [], Value.int .i64 last), (15, [], Value.pointer pp)] : GEnv)) hp_12) ?_
          refine reg_run [.plain] 3 [(0, [], Value.pointer f), (1, [], Value.int .i64 last), (14, [], Value.int .i64 last), (15, [], Value.pointer (some ⟨(pblk f), (poff f), none⟩)), (16, [], Value.pointer (some ⟨(pblk f), (poff f), none⟩))] (by kernel_rfl) (by kernel_rfl) ?_
          refine reg_run [.plain] 4 [(0, [], Value.pointer f), (1, [], Value.int .i64 last), (14, [], Value.int .i64 last), (17, [], Value.pointer (some ⟨(pblk f), (poff f) + 3, none⟩))] (by kernel_rfl) (by kernel_rfl) ?_
          obtain ⟨v18, hc, h⟩ := h
          refine reg_load1 (t := 3) (a := (Go.Operand.tmp 17)) (b := (pblk f)) (o := ((poff f) + 3)) (ty := 3) (dst := some 18) (by kernel_rfl) (by kernel_rfl) (by kernel_rfl) hc ?_
          refine reg_run [.plain, .plain, .plain, .plain] 9 [(0, [], Value.pointer f), (1, [], Value.int .i64 last), (20, [], Value.bool (decide (last < v18))), (21, [(20, false)], Value.int .i64 last), (22, [(20, false)], Value.pointer f)] (by kernel_rfl) (by kernel_rfl) ?_
          refine reg_split 20 (decide (last < v18)) (by kernel_rfl) (fun hb => ?_) (fun hb => ?_)
          · replace h := h.1 hb
            refine reg_run [] 9 [(0, [], Value.pointer f), (1, [], Value.int .i64 last), (20, [], Value.bool true), (21, [], undef), (22, [], undef)] (by kernel_rfl) (by kernel_rfl) ?_
            refine reg_run [.skip, .skip, .skip, .skip, .skip, .plain, .plain] 16 [(0, [], Value.pointer f), (1, [], Value.int .i64 last), (13, [], Value.bool true)] (by kernel_rfl) (by kernel_rfl) ?_
            refine reg_end [(0, Value.pointer f), (1, Value.int .i64 last), (13, Value.bool true)] (by kernel_rfl) (by kernel_rfl) ?_
            exact ⟨[(0, Value.pointer f), (1, Value.int .i64 last), (13, Value.bool true)], Sub.mk (by kernel_rfl), true, rfl, h⟩
          · replace h := h.2 hb
            refine reg_run [] 9 [(0, [], Value.pointer f), (1, [], Value.int .i64 last), (20, [], Value.bool false), (21, [], Value.int .i64 last), (22, [], Value.pointer f)] (by kernel_rfl) (by kernel_rfl) ?_
            refine reg_run [] 9 [(0, [], Value.pointer f), (1, [], Value.int .i64 last), (20, [], Value.bool false), (21, [], Value.int .i64 last), (22, [], Value.pointer f)] (by kernel_rfl) (by kernel_rfl) ?_
            obtain ⟨hp_13, h⟩ := h
            refine reg_conv [(0, [], Value.pointer f), (1, [], Value.int .i64 last), (20, [], Value.bool false), (21, [], Value.int .i64 last), (22, [], Value.pointer (some ⟨(pblk f), (poff f), none⟩))] (congrArg (fun pp => ([(0, [], Value.pointer f), (1, [], Value.int .i64 last), (20, [], Value.bool false), (21, [], Value.int .i64 last), (22, [], Value.pointer pp)] : GEnv)) hp_13) ?_
            refine reg_run [.sure] 10 [(0, [], Value.pointer f), (1, [], Value.int .i64 last), (20, [], Value.bool false), (21, [], Value.int .i64 last), (22, [], Value.pointer (some ⟨(pblk f), (poff f), none⟩)), (23, [], Value.pointer (some ⟨(pblk f), (poff f), none⟩))] (by kernel_rfl) (by kernel_rfl) ?_
            refine reg_run [.sure] 11 [(0, [], Value.pointer f), (1, [], Value.int .i64 last), (20, [], Value.bool false), (21, [], Value.int .i64 last), (24, [], Value.pointer (some ⟨(pblk f), (poff f), none⟩))] (by kernel_rfl) (by kernel_rfl) ?_
            obtain ⟨v25, hc, h⟩ := h
            refine reg_load1 (t := 107) (a := (Go.Operand.tmp 24)) (b := (pblk f)) (o := (poff f)) (ty := 107) (dst := some 25) (by kernel_rfl) (by kernel_rfl) (by kernel_rfl) hc ?_
            refine reg_run [] 12 [(0, [], Value.pointer f), (1, [], Value.int .i64 last), (20, [], Value.bool false), (21, [], Value.int .i64 last), (25, [], Value.pointer v25)] (by kernel_rfl) (by kernel_rfl) ?_
            refine reg_enter (op := (Go.Op.call (Go.Call.mk (Go.Callee.value (Go.Operand.func 84)) #[(Go.Operand.tmp 25)] #[107]))) (ty := 3) (dst := some 26) 84 #[Value.pointer v25] (by kernel_rfl) (fun ww => by kernel_rfl) (Calls.mono h ?_)
            rintro _ w3 ⟨v26, rfl, h⟩
            refine ⟨_, rfl, ?_⟩
            refine reg_run [.sure, .plain, .plain] 16 [(0, [], Value.pointer f), (1, [], Value.int .i64 last), (13, [], Value.bool (decide (last > v26)))] (by kernel_rfl) (by kernel_rfl) ?_
            refine reg_end [(0, Value.pointer f), (1, Value.int .i64 last), (13, Value.bool (decide (last > v26)))] (by kernel_rfl) (by kernel_rfl) ?_
            exact ⟨[(0, Value.pointer f), (1, Value.int .i64 last), (13, Value.bool (decide (last > v26)))], Sub.mk (by kernel_rfl), (decide (last > v26)), rfl, h⟩
        · rintro _ w1 ⟨t13, rfl, h⟩
          unfold F_towpathref16_Feed_More_k0 at h
          refine wpE_cond (o := (Operand.tmp 13)) (b := t13) (x := c_towpathref16_Feed_More_25) (y := c_towpathref16_Feed_More_29) (by kernel_rfl) (by kernel_rfl) (fun hb => ?_) (fun hb => ?_)
          · replace h := h.1 hb
            refine wpE_seq (x := c_towpathref16_Feed_More_26) (y := c_towpathref16_Feed_More_28) (by kernel_rfl) ?_
            refine wpE_region (id := 6) (ops := r_towpathref16_Feed_More_26) (by kernel_rfl) ?_
            refine reg_run [.plain] 1 [(4, [], Value.int .i64 1)] (by kernel_rfl) (by kernel_rfl) ?_
            refine reg_end [(4, Value.int .i64 1)] (by kernel_rfl) (by kernel_rfl) ?_
            change WpE _ _ c_towpathref16_Feed_More_28 _ _ _
            refine wpE_ret (by kernel_rfl) ?_
            repeat (first | refine seqQ_ret ?_ | refine blockQ_ret ?_ | refine loopQ_ret ?_ | refine cutQ_ret ?_)
            exact retS (rs := [(Go.ResultVar.tmp 4)]) (v := Value.int .i64 1) (by kernel_rfl) (⟨by kernel_rfl, trivial⟩) ⟨1, rfl, h⟩
          · replace h := h.2 hb
            refine wpE_skip (by kernel_rfl) ?_
            change WpE _ _ c_towpathref16_Feed_More_30 _ _ _
            refine wpE_seq (x := c_towpathref16_Feed_More_31) (y := c_towpathref16_Feed_More_33) (by kernel_rfl) ?_
            refine wpE_region (id := 7) (ops := r_towpathref16_Feed_More_31) (by kernel_rfl) ?_
            refine reg_run [.plain, .plain] 2 [(29, [], Value.pointer f), (30, [], Value.int .i64 last)] (by kernel_rfl) (by kernel_rfl) ?_
            obtain ⟨hp_11, h⟩ := h
            refine reg_conv [(29, [], Value.pointer (some ⟨(pblk f), (poff f), none⟩)), (30, [], Value.int .i64 last)] (congrArg (fun pp => ([(29, [], Value.pointer pp), (30, [], Value.int .i64 last)] : GEnv)) hp_11) ?_
            refine reg_run [.plain] 3 [(29, [], Value.pointer (some ⟨(pblk f), (poff f), none⟩)), (30, [], Value.int .i64 last), (31, [], Value.pointer (some ⟨(pblk f), (poff f), none⟩))] (by kernel_rfl) (by kernel_rfl) ?_
            refine reg_run [.plain] 4 [(30, [], Value.int .i64 last), (32, [], Value.pointer (some ⟨(pblk f), (poff f) + 3, none⟩))] (by kernel_rfl) (by kernel_rfl) ?_
            obtain ⟨hc, h⟩ := h
            refine reg_store (t := 3) (a := (Go.Operand.tmp 32)) (x := (Go.Operand.tmp 30)) (b := (pblk f)) (o := ((poff f) + 3)) (ty := 0) (dst := none) [Value.int .i64 last] (by kernel_rfl) (by kernel_rfl) (by kernel_rfl) (k := 1) (by kernel_rfl) (by kernel_rfl) (by kernel_rfl) hc (fun w2 hw => ?_)
            replace h := h w2 hw
            clear hw
            refine reg_end [] (by kernel_rfl) (by kernel_rfl) ?_
            change WpE _ _ c_towpathref16_Feed_More_33 _ _ _
            refine wpE_seq (x := c_towpathref16_Feed_More_34) (y := c_towpathref16_Feed_More_36) (by kernel_rfl) ?_
            refine wpE_region (id := 8) (ops := r_towpathref16_Feed_More_34) (by kernel_rfl) ?_
            refine reg_run [.plain] 1 [(4, [], Value.int .i64 0)] (by kernel_rfl) (by kernel_rfl) ?_
            refine reg_end [(4, Value.int .i64 0)] (by kernel_rfl) (by kernel_rfl) ?_
            change WpE _ _ c_towpathref16_Feed_More_36 _ _ _
            refine wpE_ret (by kernel_rfl) ?_
            repeat (first | refine seqQ_ret ?_ | refine blockQ_ret ?_ | refine loopQ_ret ?_ | refine cutQ_ret ?_)
            exact retS (rs := [(Go.ResultVar.tmp 4)]) (v := Value.int .i64 0) (by kernel_rfl) (⟨by kernel_rfl, trivial⟩) ⟨0, rfl, h⟩
  · rintro e w' ⟨v, rfl, r0, rfl, h⟩; exact ⟨r0, rfl, h⟩

/-! ### (*towpath/towpathref16.Feed).Can (function 54) -/
noncomputable def c_towpathref16_Feed_Can_0 : Code := (Try.f54.body).getD Code.skip
noncomputable def c_towpathref16_Feed_Can_1 : Code := Code.l c_towpathref16_Feed_Can_0
noncomputable def r_towpathref16_Feed_Can_1 : Array Oper := Code.ops c_towpathref16_Feed_Can_1
noncomputable def c_towpathref16_Feed_Can_3 : Code := Code.r c_towpathref16_Feed_Can_0
noncomputable def c_towpathref16_Feed_Can_4 : Code := Code.l c_towpathref16_Feed_Can_3
noncomputable def c_towpathref16_Feed_Can_5 : Code := Code.l c_towpathref16_Feed_Can_4
noncomputable def c_towpathref16_Feed_Can_6 : Code := Code.l c_towpathref16_Feed_Can_5
noncomputable def r_towpathref16_Feed_Can_6 : Array Oper := Code.ops c_towpathref16_Feed_Can_6
noncomputable def c_towpathref16_Feed_Can_8 : Code := Code.r c_towpathref16_Feed_Can_5
noncomputable def c_towpathref16_Feed_Can_9 : Code := Code.l c_towpathref16_Feed_Can_8
noncomputable def c_towpathref16_Feed_Can_10 : Code := Code.l c_towpathref16_Feed_Can_9
noncomputable def r_towpathref16_Feed_Can_10 : Array Oper := Code.ops c_towpathref16_Feed_Can_10
noncomputable def c_towpathref16_Feed_Can_12 : Code := Code.r c_towpathref16_Feed_Can_9
noncomputable def c_towpathref16_Feed_Can_13 : Code := Code.r c_towpathref16_Feed_Can_8
noncomputable def c_towpathref16_Feed_Can_14 : Code := Code.l c_towpathref16_Feed_Can_13
noncomputable def r_towpathref16_Feed_Can_14 : Array Oper := Code.ops c_towpathref16_Feed_Can_14
noncomputable def c_towpathref16_Feed_Can_16 : Code := Code.r c_towpathref16_Feed_Can_13
noncomputable def c_towpathref16_Feed_Can_17 : Code := Code.l c_towpathref16_Feed_Can_16
noncomputable def c_towpathref16_Feed_Can_18 : Code := Code.l c_towpathref16_Feed_Can_17
noncomputable def r_towpathref16_Feed_Can_18 : Array Oper := Code.ops c_towpathref16_Feed_Can_18
noncomputable def c_towpathref16_Feed_Can_20 : Code := Code.r c_towpathref16_Feed_Can_17
noncomputable def c_towpathref16_Feed_Can_21 : Code := Code.r c_towpathref16_Feed_Can_16
noncomputable def c_towpathref16_Feed_Can_22 : Code := Code.l c_towpathref16_Feed_Can_21
noncomputable def r_towpathref16_Feed_Can_22 : Array Oper := Code.ops c_towpathref16_Feed_Can_22
noncomputable def c_towpathref16_Feed_Can_24 : Code := Code.r c_towpathref16_Feed_Can_21
noncomputable def c_towpathref16_Feed_Can_25 : Code := Code.l c_towpathref16_Feed_Can_24
noncomputable def c_towpathref16_Feed_Can_26 : Code := Code.l c_towpathref16_Feed_Can_25
noncomputable def r_towpathref16_Feed_Can_26 : Array Oper := Code.ops c_towpathref16_Feed_Can_26
noncomputable def c_towpathref16_Feed_Can_28 : Code := Code.r c_towpathref16_Feed_Can_25
noncomputable def c_towpathref16_Feed_Can_29 : Code := Code.r c_towpathref16_Feed_Can_24
noncomputable def c_towpathref16_Feed_Can_30 : Code := Code.l c_towpathref16_Feed_Can_29
noncomputable def r_towpathref16_Feed_Can_30 : Array Oper := Code.ops c_towpathref16_Feed_Can_30
noncomputable def c_towpathref16_Feed_Can_32 : Code := Code.r c_towpathref16_Feed_Can_29
noncomputable def c_towpathref16_Feed_Can_33 : Code := Code.l c_towpathref16_Feed_Can_32
noncomputable def c_towpathref16_Feed_Can_34 : Code := Code.l c_towpathref16_Feed_Can_33
noncomputable def r_towpathref16_Feed_Can_34 : Array Oper := Code.ops c_towpathref16_Feed_Can_34
noncomputable def c_towpathref16_Feed_Can_36 : Code := Code.r c_towpathref16_Feed_Can_33
noncomputable def c_towpathref16_Feed_Can_37 : Code := Code.r c_towpathref16_Feed_Can_32
noncomputable def c_towpathref16_Feed_Can_38 : Code := Code.r c_towpathref16_Feed_Can_3
noncomputable def c_towpathref16_Feed_Can_39 : Code := Code.l c_towpathref16_Feed_Can_38
noncomputable def r_towpathref16_Feed_Can_39 : Array Oper := Code.ops c_towpathref16_Feed_Can_39
noncomputable def c_towpathref16_Feed_Can_41 : Code := Code.r c_towpathref16_Feed_Can_38

set_option maxRecDepth 100000 in
set_option maxHeartbeats 4000000 in
theorem S_towpathref16_Feed_Can {f : Option Addr} {mark : Int} {w : World} {R : Int → World → Prop} (h : F_towpathref16_Feed_Can f mark R w) : C_towpathref16_Feed_Can f mark w R := by
  unfold F_towpathref16_Feed_Can at h
  unfold C_towpathref16_Feed_Can
  refine Calls.mono (calls_of_wpE (args := [Value.pointer f, Value.int .i64 mark]) (R := fun v w' => ∃ (r0 : Int), v = Value.int .u8 r0 ∧ R r0 w') Try.func54 (c := c_towpathref16_Feed_Can_0) (by kernel_rfl) 51 (by kernel_rfl) (by kernel_rfl) [(0, Value.pointer f), (1, Value.int .i64 mark)] (by kernel_rfl) ?_) ?_
  · refine wpE_seq (x := c_towpathref16_Feed_Can_1) (y := c_towpathref16_Feed_Can_3) (by kernel_rfl) ?_
    refine wpE_region (id := 0) (ops := r_towpathref16_Feed_Can_1) (by kernel_rfl) ?_
    refine reg_run [.plain] 1 [(0, [], Value.pointer f), (1, [], Value.int .i64 mark)] (by kernel_rfl) (by kernel_rfl) ?_
    refine reg_end [(0, Value.pointer f), (1, Value.int .i64 mark)] (by kernel_rfl) (by kernel_rfl) ?_
    change WpE _ _ c_towpathref16_Feed_Can_3 _ _ _
    refine wpE_seq (x := c_towpathref16_Feed_Can_4) (y := c_towpathref16_Feed_Can_38) (by kernel_rfl) ?_
    refine wpE_block (id := 0) (x := c_towpathref16_Feed_Can_5) (by kernel_rfl) ?_
    refine wpE_seq (x := c_towpathref16_Feed_Can_6) (y := c_towpathref16_Feed_Can_8) (by kernel_rfl) ?_
    refine wpE_region (id := 1) (ops := r_towpathref16_Feed_Can_6) (by kernel_rfl) ?_
    refine reg_run [.plain] 1 [(0, [], Value.pointer f), (1, [], Value.int .i64 mark), (6, [], Value.pointer f)] (by kernel_rfl) (by kernel_rfl) ?_
    refine reg_val (op := (Go.Op.binOp Go.BinOp.eql 27 (Go.Operand.tmp 6) (Go.Operand.const (Go.Value.pointer none)) 27)) (ty := 4) (dst := some 7) (Value.bool f.isNone) (by kernel_rfl) (fun ww => run_ptr_eql_R (p := f) (by kernel_rfl) (by kernel_rfl) (by kernel_rfl) ww) ?_
    refine reg_run [.plain] 3 [(0, [], Value.pointer f), (1, [], Value.int .i64 mark), (5, [], Value.bool f.isNone)] (by kernel_rfl) (by kernel_rfl) ?_
    refine reg_end [(0, Value.pointer f), (1, Value.int .i64 mark), (5, Value.bool f.isNone)] (by kernel_rfl) (by kernel_rfl) ?_
    change WpE _ _ c_towpathref16_Feed_Can_8 _ _ _
    refine wpE_cond (o := (Operand.tmp 5)) (b := f.isNone) (x := c_towpathref16_Feed_Can_9) (y := c_towpathref16_Feed_Can_13) (by kernel_rfl) (by kernel_rfl) (fun hb => ?_) (fun hb => ?_)
    · replace h := h.1 hb
      refine wpE_seq (x := c_towpathref16_Feed_Can_10) (y := c_towpathref16_Feed_Can_12) (by kernel_rfl) ?_
      refine wpE_region (id := 2) (ops := r_towpathref16_Feed_Can_10) (by kernel_rfl) ?_
      refine reg_run [.plain] 1 [(4, [], Value.int .u8 0)] (by kernel_rfl) (by kernel_rfl) ?_
      refine reg_end [(4, Value.int .u8 0)] (by kernel_rfl) (by kernel_rfl) ?_
      change WpE _ _ c_towpathref16_Feed_Can_12 _ _ _
      refine wpE_ret (by kernel_rfl) ?_
      repeat (first | refine seqQ_ret ?_ | refine blockQ_ret ?_ | refine loopQ_ret ?_ | refine cutQ_ret ?_)
      exact retS (rs := [(Go.ResultVar.tmp 4)]) (v := Value.int .u8 0) (by kernel_rfl) (⟨by kernel_rfl, trivial⟩) ⟨0, rfl, h⟩
    · replace h := h.2 hb
      refine wpE_seq_cut (x := c_towpathref16_Feed_Can_14) (y := c_towpathref16_Feed_Can_16) (by kernel_rfl) (fun l w => ∃ (t8 : Bool), l = [(0, Value.pointer f), (1, Value.int .i64 mark), (8, Value.bool t8)] ∧ F_towpathref16_Feed_Can_k0 f mark R t8 w) ?_ ?_
      · refine wpE_drawregion (id := 3) (ops := r_towpathref16_Feed_Can_14) (by kernel_rfl) (by kernel_rfl) (by kernel_rfl) ?_
        refine qreg_run [.plain] 1 [(0, [], Value.pointer f), (1, [], Value.int .i64 mark), (9, [], Value.pointer f)] (by kernel_rfl) (by kernel_rfl) ?_
        obtain ⟨hp_20, h⟩ := h
        refine qreg_conv [(0, [], Value.pointer f), (1, [], Value.int .i64 mark), (9, [], Value.pointer (some ⟨(pblk f), (poff f), none⟩))] (congrArg (fun pp => ([(0, [], Value.pointer f), (1, [], Value.int .i64 mark), (9, [], Value.pointer pp)] : GEnv)) hp_20) ?_
        refine qreg_run [.plain] 2 [(0, [], Value.pointer f), (1, [], Value.int .i64 mark), (9, [], Value.pointer (some ⟨(pblk f), (poff f), none⟩)), (10, [], Value.pointer (some ⟨(pblk f), (poff f), none⟩))] (by kernel_rfl) (by kernel_rfl) ?_
        refine qreg_run [.plain] 3 [(0, [], Value.pointer f), (1, [], Value.int .i64 mark), (11, [], Value.pointer (some ⟨(pblk f), (poff f) + 5, none⟩))] (by kernel_rfl) (by kernel_rfl) ?_
        obtain ⟨v12, hc, h⟩ := h
        refine qreg_load1 (t := 4) (a := (Go.Operand.tmp 11)) (b := (pblk f)) (o := ((poff f) + 5)) (ty := 4) (dst := some 12) (by kernel_rfl) (by kernel_rfl) (by kernel_rfl) hc ?_
        refine qreg_run [.plain, .plain, .plain] 7 [(0, [], Value.pointer f), (1, [], Value.int .i64 mark), (14, [], Value.bool (!v12)), (15, [(14, true)], Value.pointer f)] (by kernel_rfl) (by kernel_rfl) ?_
        refine qreg_split 14 (!v12) (by kernel_rfl) (fun hb => ?_) (fun hb => ?_)
        · replace h := h.1 hb
          refine qreg_run [] 7 [(0, [], Value.pointer f), (1, [], Value.int .i64 mark), (14, [], Value.bool true), (15, [], Value.pointer f)] (by kernel_rfl) (by kernel_rfl) ?_
          refine qreg_run [] 7 [(0, [], Value.pointer f), (1, [], Value.int .i64 mark), (14, [], Value.bool true), (15, [], Value.pointer f)] (by kernel_rfl) (by kernel_rfl) ?_
          obtain ⟨hp_21, h⟩ := h
          refine qreg_conv [(0, [], Value.pointer f), (1, [], Value.int .i64 mark), (14, [], Value.bool true), (15, [], Value.pointer (some ⟨(pblk f), (poff f), none⟩))] (congrArg (fun pp => ([(0, [], Value.pointer f), (1, [], Value.int .i64 mark), (14, [], Value.bool true), (15, [], Value.pointer pp)] : GEnv)) hp_21) ?_
          refine qreg_run [.sure] 8 [(0, [], Value.pointer f), (1, [], Value.int .i64 mark), (14, [], Value.bool true), (15, [], Value.pointer (some ⟨(pblk f), (poff f), none⟩)), (16, [], Value.pointer (some ⟨(pblk f), (poff f), none⟩))] (by kernel_rfl) (by kernel_rfl) ?_
          refine qreg_run [.sure] 9 [(0, [], Value.pointer f), (1, [], Value.int .i64 mark), (14, [], Value.bool true), (17, [], Value.pointer (some ⟨(pblk f), (poff f) + 8, none⟩))] (by kernel_rfl) (by kernel_rfl) ?_
          obtain ⟨v18, hc, h⟩ := h
          refine qreg_load1 (t := 4) (a := (Go.Operand.tmp 17)) (b := (pblk f)) (o := ((poff f) + 8)) (ty := 4) (dst := some 18) (by kernel_rfl) (by kernel_rfl) (by kernel_rfl) hc ?_
          refine qreg_run [.sure, .plain, .plain, .plain] 14 [(0, [], Value.pointer f), (1, [], Value.int .i64 mark), (21, [], Value.bool (!v18)), (22, [(21, true)], Value.pointer f)] (by kernel_rfl) (by kernel_rfl) ?_
          refine qreg_split 21 (!v18) (by kernel_rfl) (fun hb => ?_) (fun hb => ?_)
          · replace h := h.1 hb
            refine qreg_run [] 14 [(0, [], Value.pointer f), (1, [], Value.int .i64 mark), (21, [], Value.bool true), (22, [], Value.pointer f)] (by kernel_rfl) (by kernel_rfl) ?_
            refine qreg_run [] 14 [(0, [], Value.pointer f), (1, [], Value.int .i64 mark), (21, [], Value.bool true), (22, [], Value.pointer f)] (by kernel_rfl) (by kernel_rfl) ?_
            obtain ⟨hp_22, h⟩ := h
            refine qreg_conv [(0, [], Value.pointer f), (1, [], Value.int .i64 mark), (21, [], Value.bool true), (22, [], Value.pointer (some ⟨(pblk f), (poff f), none⟩))] (congrArg (fun pp => ([(0, [], Value.pointer f), (1, [], Value.int .i64 mark), (21, [], Value.bool true), (22, [], Value.pointer pp)] : GEnv)) hp_22) ?_
            refine qreg_run [.sure] 15 [(0, [], Value.pointer f), (1, [], Value.int .i64 mark), (21, [], Value.bool true), (22, [], Value.pointer (some ⟨(pblk f), (poff f), none⟩)), (23, [], Value.pointer (some ⟨(pblk f), (poff f), none⟩))] (by kernel_rfl) (by kernel_rfl) ?_
            refine qreg_run [.sure] 16 [(0, [], Value.pointer f), (1, [], Value.int .i64 mark), (21, [], Value.bool true), (24, [], Value.pointer (some ⟨(pblk f), (poff f) + 1, none⟩))] (by kernel_rfl) (by kernel_rfl) ?_
            obtain ⟨v25, hc, h⟩ := h
            refine qreg_load1 (t := 3) (a := (Go.Operand.tmp 24)) (b := (pblk f)) (o := ((poff f) + 1)) (ty := 3) (dst := some 25) (by kernel_rfl) (by kernel_rfl) (by kernel_rfl) hc ?_
            refine qreg_run [.sure] 18 [(0, [], Value.pointer f), (1, [], Value.int .i64 mark), (21, [], Value.bool true), (25, [], Value.int .i64 v25), (26, [], Value.pointer f)] (by kernel_rfl) (by kernel_rfl) ?_
            obtain ⟨hp_23, h⟩ := h
            refine qreg_conv [(0, [], Value.pointer f), (1, [], Value.int .i64 mark), (21, [], Value.bool true), (25, [], Value.int .i64 v25), (26, [], Value.pointer (some ⟨(pblk f), (poff f), none⟩))] (congrArg (fun pp => ([(0, [], Value.pointer f), (1, [], Value.int .i64 mark), (21, [], Value.bool true), (25, [], Value.int .i64 v25), (26, [], Value.pointer pp)] : GEnv)) hp_23) ?_
            refine qreg_run [.sure] 19 [(0, [], Value.pointer f), (1, [], Value.int .i64 mark), (21, [], Value.bool true), (25, [], Value.int .i64 v25), (26, [], Value.pointer (some ⟨(pblk f), (poff f), none⟩)), (27, [], Value.pointer (some ⟨(pblk f), (poff f), none⟩))] (by kernel_rfl) (by kernel_rfl) ?_
            refine qreg_run [.sure] 20 [(0, [], Value.pointer f), (1, [], Value.int .i64 mark), (21, [], Value.bool true), (25, [], Value.int .i64 v25), (28, [], Value.pointer (some ⟨(pblk f), (poff f) + 3, none⟩))] (by kernel_rfl) (by kernel_rfl) ?_
            obtain ⟨v29, hc, h⟩ := h
            refine qreg_load1 (t := 3) (a := (Go.Operand.tmp 28)) (b := (pblk f)) (o := ((poff f) + 3)) (ty := 3) (dst := some 29) (by kernel_rfl) (by kernel_rfl) (by kernel_rfl) hc ?_
            refine qreg_run [.sure, .plain, .plain] 24 [(0, [], Value.pointer f), (1, [], Value.int .i64 mark), (8, [], Value.bool (decide (v25 < v29)))] (by kernel_rfl) (by kernel_rfl) ?_
            refine qreg_end [(0, Value.pointer f), (1, Value.int .i64 mark), (8, Value.bool (decide (v25 < v29)))] (by kernel_rfl) (by kernel_rfl) (fun w6 hw => ?_)
            replace h := h w6 hw
            clear hw
            exact ⟨[(0, Value.pointer f), (1, Value.int .i64 mark), (8, Value.bool (decide (v25 < v29)))], Sub.mk (by kernel_rfl), (decide (v25 < v29)), rfl, h⟩
          · replace h := h.2 hb
            refine qreg_run [] 14 [(0, [], Value.pointer f), (1, [], Value.int .i64 mark), (21, [], Value.bool false), (22, [], undef)] (by kernel_rfl) (by kernel_rfl) ?_
            refine qreg_run [.skip, .skip, .skip, .skip, .skip, .skip, .skip, .skip, .plain, .plain] 24 [(0, [], Value.pointer f), (1, [], Value.int .i64 mark), (8, [], Value.bool false)] (by kernel_rfl) (by kernel_rfl) ?_
            refine qreg_end [(0, Value.pointer f), (1, Value.int .i64 mark), (8, Value.bool false)] (by kernel_rfl) (by kernel_rfl) (fun w7 hw => ?_)
            replace h := h w7 hw
            clear hw
            exact ⟨[(0, Value.pointer f), (1, Value.int .i64 mark), (8, Value.bool false)], Sub.mk (by kernel_rfl), false, rfl, h⟩
        · replace h := h.2 hb
          refine qreg_run [] 7 [(0, [], Value.pointer f), (1, [], Value.int .i64 mark), (14, [], Value.bool false), (15, [], undef)] (by kernel_rfl) (by kernel_rfl) ?_
          refine qreg_run [.skip, .skip, .skip, .skip, .plain, .plain, .skip, .skip, .skip, .skip, .skip, .skip, .skip, .skip, .skip, .plain, .plain] 24 [(0, [], Value.pointer f), (1, [], Value.int .i64 mark), (8, [], Value.bool false)] (by kernel_rfl) (by kernel_rfl) ?_
          refine qreg_end [(0, Value.pointer f), (1, Value.int .i64 mark), (8, Value.bool false)] (by kernel_rfl) (by kernel_rfl) (fun w8 hw => ?_)
          replace h := h w8 hw
          clear hw
          exact ⟨[(0, Value.pointer f), (1, Value.int .i64 mark), (8, Value.bool false)], Sub.mk (by kernel_rfl), false, rfl, h⟩
      · rintro _ w1 ⟨t8, rfl, h⟩
        unfold F_towpathref16_Feed_Can_k0 at h
        refine wpE_cond (o := (Operand.tmp 8)) (b := t8) (x := c_towpathref16_Feed_Can_17) (y := c_towpathref16_Feed_Can_21) (by kernel_rfl) (by kernel_rfl) (fun hb => ?_) (fun hb => ?_)
        · replace h := h.1 hb
          refine wpE_seq (x := c_towpathref16_Feed_Can_18) (y := c_towpathref16_Feed_Can_20) (by kernel_rfl) ?_
          refine wpE_region (id := 4) (ops := r_towpathref16_Feed_Can_18) (by kernel_rfl) ?_
          refine reg_run [.plain] 1 [(4, [], Value.int .u8 1)] (by kernel_rfl) (by kernel_rfl) ?_
          refine reg_end [(4, Value.int .u8 1)] (by kernel_rfl) (by kernel_rfl) ?_
          change WpE _ _ c_towpathref16_Feed_Can_20 _ _ _
          refine wpE_ret (by kernel_rfl) ?_
          repeat (first | refine seqQ_ret ?_ | refine blockQ_ret ?_ | refine loopQ_ret ?_ | refine cutQ_ret ?_)
          exact retS (rs := [(Go.ResultVar.tmp 4)]) (v := Value.int .u8 1) (by kernel_rfl) (⟨by kernel_rfl, trivial⟩) ⟨1, rfl, h⟩
        · replace h := h.2 hb
          refine wpE_seq_cut (x := c_towpathref16_Feed_Can_22) (y := c_towpathref16_Feed_Can_24) (by kernel_rfl) (fun l w => ∃ (t32 : Bool), l = [(0, Value.pointer f), (1, Value.int .i64 mark), (32, Value.bool t32)] ∧ F_towpathref16_Feed_Can_k1 f mark R t32 w) ?_ ?_
          · refine wpE_region (id := 5) (ops := r_towpathref16_Feed_Can_22) (by kernel_rfl) ?_
            refine reg_run [.plain] 1 [(0, [], Value.pointer f), (1, [], Value.int .i64 mark), (33, [], Value.pointer f)] (by kernel_rfl) (by kernel_rfl) ?_
            obtain ⟨hp_19, h⟩ := h
            refine reg_conv [(0, [], Value.pointer f), (1, [], Value.int .i64 mark), (33, [], Value.pointer (some ⟨(pblk f), (poff f), none⟩))] (congrArg (fun pp => ([(0, [], Value.pointer f), (1, [], Value.int .i64 mark), (33, [], Value.pointer pp)] : GEnv)) hp_19) ?_
            refine reg_run [.plain] 2 [(0, [], Value.pointer f), (1, [], Value.int .i64 mark), (33, [], Value.pointer (some ⟨(pblk f), (poff f), none⟩)), (34, [], Value.pointer (some ⟨(pblk f), (poff f), none⟩))] (by kernel_rfl) (by kernel_rfl) ?_
            refine reg_run [.plain] 3 [(0, [], Value.pointer f), (1, [], Value.int .i64 mark), (35, [], Value.pointer (some ⟨(pblk f), (poff f) + 5, none⟩))] (by kernel_rfl) (by kernel_rfl) ?_
            obtain ⟨v36, hc, h⟩ := h
            refine reg_load1 (t := 4) (a := (Go.Operand.tmp 35)) (b := (pblk f)) (o := ((poff f) + 5)) (ty := 4) (dst := some 36) (by kernel_rfl) (by kernel_rfl) (by kernel_rfl) hc ?_
            refine reg_run [.plain, .plain] 6 [(0, [], Value.pointer f), (1, [], Value.int .i64 mark), (37, [], Value.bool v36), (38, [(37, true)], Value.pointer f)] (by kernel_rfl) (by kernel_rfl) ?_
            refine reg_split 37 v36 (by kernel_rfl) (fun hb => ?_) (fun hb => ?_)
            · replace h := h.1 hb
              refine reg_run [] 6 [(0, [], Value.pointer f), (1, [], Value.int .i64 mark), (37, [], Value.bool true), (38, [], Value.pointer f)] (by kernel_rfl) (by kernel_rfl) ?_
              refine reg_run [] 6 [(0, [], Value.pointer f), (1, [], Value.int .i64 mark), (37, [], Value.bool true), (38, [], Value.pointer f)] (by kernel_rfl) (by kernel_rfl) ?_
              refine reg_enter (op := (Go.Op.call (Go.Call.mk (Go.Callee.value (Go.Operand.func 85)) #[(Go.Operand.tmp 38)] #[27]))) (ty := 4) (dst := some 39) 85 #[Value.pointer f] (by kernel_rfl) (fun ww => by kernel_rfl) (Calls.mono h ?_)
              rintro _ w5 ⟨v39, rfl, h⟩
              refine ⟨_, rfl, ?_⟩
              refine reg_run [.plain, .plain] 9 [(0, [], Value.pointer f), (1, [], Value.int .i64 mark), (32, [], Value.bool v39)] (by kernel_rfl) (by kernel_rfl) ?_
              refine reg_end [(0, Value.pointer f), (1, Value.int .i64 mark), (32, Value.bool v39)] (by kernel_rfl) (by kernel_rfl) ?_
              exact ⟨[(0, Value.pointer f), (1, Value.int .i64 mark), (32, Value.bool v39)], Sub.mk (by kernel_rfl), v39, rfl, h⟩
            · replace h := h.2 hb
              refine reg_run [] 6 [(0, [], Value.pointer f), (1, [], Value.int .i64 mark), (37, [], Value.bool false), (38, [], undef)] (by kernel_rfl) (by kernel_rfl) ?_
              refine reg_run [.skip, .plain, .plain] 9 [(0, [], Value.pointer f), (1, [], Value.int .i64 mark), (32, [], Value.bool false)] (by kernel_rfl) (by kernel_rfl) ?_
              refine reg_end [(0, Value.pointer f), (1, Value.int .i64 mark), (32, Value.bool false)] (by kernel_rfl) (by kernel_rfl) ?_
              exact ⟨[(0, Value.pointer f), (1, Value.int .i64 mark), (32, Value.bool false)], Sub.mk (by kernel_rfl), false, rfl, h⟩
          · rintro _ w2 ⟨t32, rfl, h⟩
            unfold F_towpathref16_Feed_Can_k1 at h
            refine wpE_cond (o := (Operand.tmp 32)) (b := t32) (x := c_towpathref16_Feed_Can_25) (y := c_towpathref16_Feed_Can_29) (by kernel_rfl) (by kernel_rfl) (fun hb => ?_) (fun hb => ?_)
            · replace h := h.1 hb
              refine wpE_seq (x := c_towpathref16_Feed_Can_26) (y := c_towpathref16_Feed_Can_28) (by kernel_rfl) ?_
              refine wpE_region (id := 6) (ops := r_towpathref16_Feed_Can_26) (by kernel_rfl) ?_
              refine reg_run [.plain] 1 [(4, [], Value.int .u8 2)] (by kernel_rfl) (by kernel_rfl) ?_
              refine reg_end [(4, Value.int .u8 2)] (by kernel_rfl) (by kernel_rfl) ?_
              change WpE _ _ c_towpathref16_Feed_Can_28 _ _ _
              refine wpE_ret (by kernel_rfl) ?_
              repeat (first | refine seqQ_ret ?_ | refine blockQ_ret ?_ | refine loopQ_ret ?_ | refine cutQ_ret ?_)
              exact retS (rs := [(Go.ResultVar.tmp 4)]) (v := Value.int .u8 2) (by kernel_rfl) (⟨by kernel_rfl, trivial⟩) ⟨2, rfl, h⟩
            · replace h := h.2 hb
              refine wpE_seq_cut (x := c_towpathref16_Feed_Can_30) (y := c_towpathref16_Feed_Can_32) (by kernel_rfl) (fun l w => ∃ (t41 : Bool), l = [(41, Value.bool t41)] ∧ F_towpathref16_Feed_Can_k2 R t41 w) ?_ ?_
              · refine wpE_region (id := 7) (ops := r_towpathref16_Feed_Can_30) (by kernel_rfl) ?_
                refine reg_run [.plain] 1 [(0, [], Value.pointer f), (1, [], Value.int .i64 mark), (42, [], Value.pointer f)] (by kernel_rfl) (by kernel_rfl) ?_
                obtain ⟨hp_18, h⟩ := h
                refine reg_conv [(0, [], Value.pointer f), (1, [], Value.int .i64 mark), (42, [], Value.pointer (some ⟨(pblk f), (poff f), none⟩))] (congrArg (fun pp => ([(0, [], Value.pointer f), (1, [], Value.int .i64 mark), (42, [], Value.pointer pp)] : GEnv)) hp_18) ?_
                refine reg_run [.plain] 2 [(0, [], Value.pointer f), (1, [], Value.int .i64 mark), (42, [], Value.pointer (some ⟨(pblk f), (poff f), none⟩)), (43, [], Value.pointer (some ⟨(pblk f), (poff f), none⟩))] (by kernel_rfl) (by kernel_rfl) ?_
                refine reg_run [.plain] 3 [(0, [], Value.pointer f), (1, [], Value.int .i64 mark), (44, [], Value.pointer (some ⟨(pblk f), (poff f) + 5, none⟩))] (by kernel_rfl) (by kernel_rfl) ?_
                obtain ⟨v45, hc, h⟩ := h
                refine reg_load1 (t := 4) (a := (Go.Operand.tmp 44)) (b := (pblk f)) (o := ((poff f) + 5)) (ty := 4) (dst := some 45) (by kernel_rfl) (by kernel_rfl) (by kernel_rfl) hc ?_
                refine reg_run [.plain, .plain, .plain] 7 [(46, [], Value.bool v45), (47, [(46, true)], Value.pointer f), (48, [(46, true)], Value.int .i64 mark)] (by kernel_rfl) (by kernel_rfl) ?_
                refine reg_split 46 v45 (by kernel_rfl) (fun hb => ?_) (fun hb => ?_)
                · replace h := h.1 hb
                  refine reg_run [] 7 [(46, [], Value.bool true), (47, [], Value.pointer f), (48, [], Value.int .i64 mark)] (by kernel_rfl) (by kernel_rfl) ?_
                  refine reg_run [] 7 [(46, [], Value.bool true), (47, [], Value.pointer f), (48, [], Value.int .i64 mark)] (by kernel_rfl) (by kernel_rfl) ?_
                  refine reg_enter (op := (Go.Op.call (Go.Call.mk (Go.Callee.value (Go.Operand.func 86)) #[(Go.Operand.tmp 47), (Go.Operand.tmp 48)] #[27, 3]))) (ty := 4) (dst := some 49) 86 #[Value.pointer f, Value.int .i64 mark] (by kernel_rfl) (fun ww => by kernel_rfl) (Calls.mono h ?_)
                  rintro _ w4 ⟨v49, rfl, h⟩
                  refine ⟨_, rfl, ?_⟩
                  refine reg_run [.plain, .plain] 10 [(41, [], Value.bool v49)] (by kernel_rfl) (by kernel_rfl) ?_
                  refine reg_end [(41, Value.bool v49)] (by kernel_rfl) (by kernel_rfl) ?_
                  exact ⟨[(41, Value.bool v49)], Sub.mk (by kernel_rfl), v49, rfl, h⟩
                · replace h := h.2 hb
                  refine reg_run [] 7 [(46, [], Value.bool false), (47, [], undef), (48, [], undef)] (by kernel_rfl) (by kernel_rfl) ?_
                  refine reg_run [.skip, .plain, .plain] 10 [(41, [], Value.bool false)] (by kernel_rfl) (by kernel_rfl) ?_
                  refine reg_end [(41, Value.bool false)] (by kernel_rfl) (by kernel_rfl) ?_
                  exact ⟨[(41, Value.bool false)], Sub.mk (by kernel_rfl), false, rfl, h⟩
              · rintro _ w3 ⟨t41, rfl, h⟩
                unfold F_towpathref16_Feed_Can_k2 at h
                refine wpE_cond (o := (Operand.tmp 41)) (b := t41) (x := c_towpathref16_Feed_Can_33) (y := c_towpathref16_Feed_Can_37) (by kernel_rfl) (by kernel_rfl) (fun hb => ?_) (fun hb => ?_)
                · replace h := h.1 hb
                  refine wpE_seq (x := c_towpathref16_Feed_Can_34) (y := c_towpathref16_Feed_Can_36) (by kernel_rfl) ?_
                  refine wpE_region (id := 8) (ops := r_towpathref16_Feed_Can_34) (by kernel_rfl) ?_
                  refine reg_run [.plain] 1 [(4, [], Value.int .u8 3)] (by kernel_rfl) (by kernel_rfl) ?_
                  refine reg_end [(4, Value.int .u8 3)] (by kernel_rfl) (by kernel_rfl) ?_
                  change WpE _ _ c_towpathref16_Feed_Can_36 _ _ _
                  refine wpE_ret (by kernel_rfl) ?_
                  repeat (first | refine seqQ_ret ?_ | refine blockQ_ret ?_ | refine loopQ_ret ?_ | refine cutQ_ret ?_)
                  exact retS (rs := [(Go.ResultVar.tmp 4)]) (v := Value.int .u8 3) (by kernel_rfl) (⟨by kernel_rfl, trivial⟩) ⟨3, rfl, h⟩
                · replace h := h.2 hb
                  refine wpE_skip (by kernel_rfl) ?_
                  change WpE _ _ c_towpathref16_Feed_Can_38 _ _ _
                  refine wpE_seq (x := c_towpathref16_Feed_Can_39) (y := c_towpathref16_Feed_Can_41) (by kernel_rfl) ?_
                  refine wpE_region (id := 9) (ops := r_towpathref16_Feed_Can_39) (by kernel_rfl) ?_
                  refine reg_run [.plain] 1 [(4, [], Value.int .u8 0)] (by kernel_rfl) (by kernel_rfl) ?_
                  refine reg_end [(4, Value.int .u8 0)] (by kernel_rfl) (by kernel_rfl) ?_
                  change WpE _ _ c_towpathref16_Feed_Can_41 _ _ _
                  refine wpE_ret (by kernel_rfl) ?_
                  repeat (first | refine seqQ_ret ?_ | refine blockQ_ret ?_ | refine loopQ_ret ?_ | refine cutQ_ret ?_)
                  exact retS (rs := [(Go.ResultVar.tmp 4)]) (v := Value.int .u8 0) (by kernel_rfl) (⟨by kernel_rfl, trivial⟩) ⟨0, rfl, h⟩
  · rintro e w' ⟨v, rfl, r0, rfl, h⟩; exact ⟨r0, rfl, h⟩

/-! ### (*towpath/towpathref16.Feed).Read (function 55) -/
noncomputable def c_towpathref16_Feed_Read_0 : Code := (Try.f55.body).getD Code.skip
noncomputable def c_towpathref16_Feed_Read_1 : Code := Code.l c_towpathref16_Feed_Read_0
noncomputable def r_towpathref16_Feed_Read_1 : Array Oper := Code.ops c_towpathref16_Feed_Read_1
noncomputable def c_towpathref16_Feed_Read_3 : Code := Code.r c_towpathref16_Feed_Read_0
noncomputable def c_towpathref16_Feed_Read_4 : Code := Code.l c_towpathref16_Feed_Read_3
noncomputable def c_towpathref16_Feed_Read_5 : Code := Code.l c_towpathref16_Feed_Read_4
noncomputable def c_towpathref16_Feed_Read_6 : Code := Code.l c_towpathref16_Feed_Read_5
noncomputable def r_towpathref16_Feed_Read_6 : Array Oper := Code.ops c_towpathref16_Feed_Read_6
noncomputable def c_towpathref16_Feed_Read_8 : Code := Code.r c_towpathref16_Feed_Read_5
noncomputable def c_towpathref16_Feed_Read_9 : Code := Code.l c_towpathref16_Feed_Read_8
noncomputable def c_towpathref16_Feed_Read_10 : Code := Code.l c_towpathref16_Feed_Read_9
noncomputable def r_towpathref16_Feed_Read_10 : Array Oper := Code.ops c_towpathref16_Feed_Read_10
noncomputable def c_towpathref16_Feed_Read_12 : Code := Code.r c_towpathref16_Feed_Read_9
noncomputable def c_towpathref16_Feed_Read_13 : Code := Code.r c_towpathref16_Feed_Read_8
noncomputable def c_towpathref16_Feed_Read_14 : Code := Code.l c_towpathref16_Feed_Read_13
noncomputable def r_towpathref16_Feed_Read_14 : Array Oper := Code.ops c_towpathref16_Feed_Read_14
noncomputable def c_towpathref16_Feed_Read_16 : Code := Code.r c_towpathref16_Feed_Read_13
noncomputable def c_towpathref16_Feed_Read_17 : Code := Code.l c_towpathref16_Feed_Read_16
noncomputable def c_towpathref16_Feed_Read_18 : Code := Code.l c_towpathref16_Feed_Read_17
noncomputable def r_towpathref16_Feed_Read_18 : Array Oper := Code.ops c_towpathref16_Feed_Read_18
noncomputable def c_towpathref16_Feed_Read_20 : Code := Code.r c_towpathref16_Feed_Read_17
noncomputable def c_towpathref16_Feed_Read_21 : Code := Code.r c_towpathref16_Feed_Read_16
noncomputable def c_towpathref16_Feed_Read_22 : Code := Code.l c_towpathref16_Feed_Read_21
noncomputable def r_towpathref16_Feed_Read_22 : Array Oper := Code.ops c_towpathref16_Feed_Read_22
noncomputable def c_towpathref16_Feed_Read_24 : Code := Code.r c_towpathref16_Feed_Read_21
noncomputable def c_towpathref16_Feed_Read_25 : Code := Code.l c_towpathref16_Feed_Read_24
noncomputable def c_towpathref16_Feed_Read_26 : Code := Code.l c_towpathref16_Feed_Read_25
noncomputable def r_towpathref16_Feed_Read_26 : Array Oper := Code.ops c_towpathref16_Feed_Read_26
noncomputable def c_towpathref16_Feed_Read_28 : Code := Code.r c_towpathref16_Feed_Read_25
noncomputable def c_towpathref16_Feed_Read_29 : Code := Code.r c_towpathref16_Feed_Read_24
noncomputable def c_towpathref16_Feed_Read_30 : Code := Code.l c_towpathref16_Feed_Read_29
noncomputable def r_towpathref16_Feed_Read_30 : Array Oper := Code.ops c_towpathref16_Feed_Read_30
noncomputable def c_towpathref16_Feed_Read_32 : Code := Code.r c_towpathref16_Feed_Read_29
noncomputable def c_towpathref16_Feed_Read_33 : Code := Code.l c_towpathref16_Feed_Read_32
noncomputable def c_towpathref16_Feed_Read_34 : Code := Code.l c_towpathref16_Feed_Read_33
noncomputable def r_towpathref16_Feed_Read_34 : Array Oper := Code.ops c_towpathref16_Feed_Read_34
noncomputable def c_towpathref16_Feed_Read_36 : Code := Code.r c_towpathref16_Feed_Read_33
noncomputable def c_towpathref16_Feed_Read_37 : Code := Code.r c_towpathref16_Feed_Read_32
noncomputable def c_towpathref16_Feed_Read_38 : Code := Code.r c_towpathref16_Feed_Read_3
noncomputable def c_towpathref16_Feed_Read_39 : Code := Code.l c_towpathref16_Feed_Read_38
noncomputable def r_towpathref16_Feed_Read_39 : Array Oper := Code.ops c_towpathref16_Feed_Read_39
noncomputable def c_towpathref16_Feed_Read_41 : Code := Code.r c_towpathref16_Feed_Read_38
noncomputable def c_towpathref16_Feed_Read_42 : Code := Code.l c_towpathref16_Feed_Read_41
noncomputable def r_towpathref16_Feed_Read_42 : Array Oper := Code.ops c_towpathref16_Feed_Read_42
noncomputable def c_towpathref16_Feed_Read_44 : Code := Code.r c_towpathref16_Feed_Read_41
noncomputable def c_towpathref16_Feed_Read_45 : Code := Code.l c_towpathref16_Feed_Read_44
noncomputable def r_towpathref16_Feed_Read_45 : Array Oper := Code.ops c_towpathref16_Feed_Read_45
noncomputable def c_towpathref16_Feed_Read_47 : Code := Code.r c_towpathref16_Feed_Read_44
noncomputable def c_towpathref16_Feed_Read_48 : Code := Code.l c_towpathref16_Feed_Read_47
noncomputable def r_towpathref16_Feed_Read_48 : Array Oper := Code.ops c_towpathref16_Feed_Read_48
noncomputable def c_towpathref16_Feed_Read_50 : Code := Code.r c_towpathref16_Feed_Read_47
def o_towpathref16_Feed_Read_42 : List Nat := [0, 1, 2, 3, 4, 5, 6, 7, 8, 9, 10, 11, 12, 13, 14, 15]

set_option maxRecDepth 100000 in
set_option maxHeartbeats 4000000 in
theorem S_towpathref16_Feed_Read {f : Option Addr} {w : World} {R : Int → Int → World → Prop} (h : F_towpathref16_Feed_Read f R w) : C_towpathref16_Feed_Read f w R := by
  unfold F_towpathref16_Feed_Read at h
  unfold C_towpathref16_Feed_Read
  refine Calls.mono (calls_of_wpE (args := [Value.pointer f]) (R := fun v w' => ∃ (r0 : Int) (r1 : Int), v = Value.tuple #[Value.int .i64 r0, Value.int .i64 r1] ∧ R r0 r1 w') Try.func55 (c := c_towpathref16_Feed_Read_0) (by kernel_rfl) 56 (by kernel_rfl) (by kernel_rfl) [(0, Value.pointer f)] (by kernel_rfl) ?_) ?_
  · refine wpE_seq (x := c_towpathref16_Feed_Read_1) (y := c_towpathref16_Feed_Read_3) (by kernel_rfl) ?_
    refine wpE_region (id := 0) (ops := r_towpathref16_Feed_Read_1) (by kernel_rfl) ?_
    refine reg_run [.plain, .plain] 2 [(0, [], Value.pointer f)] (by kernel_rfl) (by kernel_rfl) ?_
    refine reg_end [(0, Value.pointer f)] (by kernel_rfl) (by kernel_rfl) ?_
    change WpE _ _ c_towpathref16_Feed_Read_3 _ _ _
    refine wpE_seq (x := c_towpathref16_Feed_Read_4) (y := c_towpathref16_Feed_Read_38) (by kernel_rfl) ?_
    refine wpE_block (id := 0) (x := c_towpathref16_Feed_Read_5) (by kernel_rfl) ?_
    refine wpE_seq (x := c_towpathref16_Feed_Read_6) (y := c_towpathref16_Feed_Read_8) (by kernel_rfl) ?_
    refine wpE_region (id := 1) (ops := r_towpathref16_Feed_Read_6) (by kernel_rfl) ?_
    refine reg_run [.plain] 1 [(0, [], Value.pointer f), (5, [], Value.pointer f)] (by kernel_rfl) (by kernel_rfl) ?_
    refine reg_val (op := (Go.Op.binOp Go.BinOp.eql 27 (Go.Operand.tmp 5) (Go.Operand.const (Go.Value.pointer none)) 27)) (ty := 4) (dst := some 6) (Value.bool f.isNone) (by kernel_rfl) (fun ww => run_ptr_eql_R (p := f) (by kernel_rfl) (by kernel_rfl) (by kernel_rfl) ww) ?_
    refine reg_run [.plain] 3 [(0, [], Value.pointer f), (4, [], Value.bool f.isNone)] (by kernel_rfl) (by kernel_rfl) ?_
    refine reg_end [(0, Value.pointer f), (4, Value.bool f.isNone)] (by kernel_rfl) (by kernel_rfl) ?_
    change WpE _ _ c_towpathref16_Feed_Read_8 _ _ _
    refine wpE_cond (o := (Operand.tmp 4)) (b := f.isNone) (x := c_towpathref16_Feed_Read_9) (y := c_towpathref16_Feed_Read_13) (by kernel_rfl) (by kernel_rfl) (fun hb => ?_) (fun hb => ?_)
    · replace h := h.1 hb
      refine wpE_seq (x := c_towpathref16_Feed_Read_10) (y := c_towpathref16_Feed_Read_12) (by kernel_rfl) ?_
      refine wpE_region (id := 2) (ops := r_towpathref16_Feed_Read_10) (by kernel_rfl) ?_
      refine reg_run [.plain, .plain] 2 [(2, [], Value.int .i64 0), (3, [], Value.int .i64 2)] (by kernel_rfl) (by kernel_rfl) ?_
      refine reg_end [(2, Value.int .i64 0), (3, Value.int .i64 2)] (by kernel_rfl) (by kernel_rfl) ?_
      change WpE _ _ c_towpathref16_Feed_Read_12 _ _ _
      refine wpE_ret (by kernel_rfl) ?_
      repeat (first | refine seqQ_ret ?_ | refine blockQ_ret ?_ | refine loopQ_ret ?_ | refine cutQ_ret ?_)
      exact retT (rs := [(Go.ResultVar.tmp 2), (Go.ResultVar.tmp 3)]) (vs := [Value.int .i64 0, Value.int .i64 2]) (by kernel_rfl) (⟨by kernel_rfl, ⟨by kernel_rfl, trivial⟩⟩) (by kernel_rfl) ⟨0, 2, rfl, h⟩
    · replace h := h.2 hb
      refine wpE_seq (x := c_towpathref16_Feed_Read_14) (y := c_towpathref16_Feed_Read_16) (by kernel_rfl) ?_
      refine wpE_region (id := 3) (ops := r_towpathref16_Feed_Read_14) (by kernel_rfl) ?_
      refine reg_run [.plain] 1 [(0, [], Value.pointer f), (8, [], Value.pointer f)] (by kernel_rfl) (by kernel_rfl) ?_
      obtain ⟨hp_9, h⟩ := h
      refine reg_conv [(0, [], Value.pointer f), (8, [], Value.pointer (some ⟨(pblk f), (poff f), none⟩))] (congrArg (fun pp => ([(0, [], Value.pointer f), (8, [], Value.pointer pp)] : GEnv)) hp_9) ?_
      refine reg_run [.plain] 2 [(0, [], Value.pointer f), (8, [], Value.pointer (some ⟨(pblk f), (poff f), none⟩)), (9, [], Value.pointer (some ⟨(pblk f), (poff f), none⟩))] (by kernel_rfl) (by kernel_rfl) ?_
      refine reg_run [.plain] 3 [(0, [], Value.pointer f), (10, [], Value.pointer (some ⟨(pblk f), (poff f) + 5, none⟩))] (by kernel_rfl) (by kernel_rfl) ?_
      obtain ⟨v11, hc, h⟩ := h
      refine reg_load1 (t := 4) (a := (Go.Operand.tmp 10)) (b := (pblk f)) (o := ((poff f) + 5)) (ty := 4) (dst := some 11) (by kernel_rfl) (by kernel_rfl) (by kernel_rfl) hc ?_
      refine reg_run [.plain] 5 [(0, [], Value.pointer f), (7, [], Value.bool v11)] (by kernel_rfl) (by kernel_rfl) ?_
      refine reg_end [(0, Value.pointer f), (7, Value.bool v11)] (by kernel_rfl) (by kernel_rfl) ?_
      change WpE _ _ c_towpathref16_Feed_Read_16 _ _ _
      refine wpE_cond (o := (Operand.tmp 7)) (b := v11) (x := c_towpathref16_Feed_Read_17) (y := c_towpathref16_Feed_Read_21) (by kernel_rfl) (by kernel_rfl) (fun hb => ?_) (fun hb => ?_)
      · replace h := h.1 hb
        refine wpE_seq (x := c_towpathref16_Feed_Read_18) (y := c_towpathref16_Feed_Read_20) (by kernel_rfl) ?_
        refine wpE_region (id := 4) (ops := r_towpathref16_Feed_Read_18) (by kernel_rfl) ?_
        refine reg_run [.plain, .plain] 2 [(2, [], Value.int .i64 0), (3, [], Value.int .i64 10)] (by kernel_rfl) (by kernel_rfl) ?_
        refine reg_end [(2, Value.int .i64 0), (3, Value.int .i64 10)] (by kernel_rfl) (by kernel_rfl) ?_
        change WpE _ _ c_towpathref16_Feed_Read_20 _ _ _
        refine wpE_ret (by kernel_rfl) ?_
        repeat (first | refine seqQ_ret ?_ | refine blockQ_ret ?_ | refine loopQ_ret ?_ | refine cutQ_ret ?_)
        exact retT (rs := [(Go.ResultVar.tmp 2), (Go.ResultVar.tmp 3)]) (vs := [Value.int .i64 0, Value.int .i64 10]) (by kernel_rfl) (⟨by kernel_rfl, ⟨by kernel_rfl, trivial⟩⟩) (by kernel_rfl) ⟨0, 10, rfl, h⟩
      · replace h := h.2 hb
        refine wpE_seq (x := c_towpathref16_Feed_Read_22) (y := c_towpathref16_Feed_Read_24) (by kernel_rfl) ?_
        refine wpE_region (id := 5) (ops := r_towpathref16_Feed_Read_22) (by kernel_rfl) ?_
        refine reg_run [.plain] 1 [(0, [], Value.pointer f), (13, [], Value.pointer f)] (by kernel_rfl) (by kernel_rfl) ?_
        obtain ⟨hp_11, h⟩ := h
        refine reg_conv [(0, [], Value.pointer f), (13, [], Value.pointer (some ⟨(pblk f), (poff f), none⟩))] (congrArg (fun pp => ([(0, [], Value.pointer f), (13, [], Value.pointer pp)] : GEnv)) hp_11) ?_
        refine reg_run [.plain] 2 [(0, [], Value.pointer f), (13, [], Value.pointer (some ⟨(pblk f), (poff f), none⟩)), (14, [], Value.pointer (some ⟨(pblk f), (poff f), none⟩))] (by kernel_rfl) (by kernel_rfl) ?_
        refine reg_run [.plain] 3 [(0, [], Value.pointer f), (15, [], Value.pointer (some ⟨(pblk f), (poff f) + 8, none⟩))] (by kernel_rfl) (by kernel_rfl) ?_
        obtain ⟨v16, hc, h⟩ := h
        refine reg_load1 (t := 4) (a := (Go.Operand.tmp 15)) (b := (pblk f)) (o := ((poff f) + 8)) (ty := 4) (dst := some 16) (by kernel_rfl) (by kernel_rfl) (by kernel_rfl) hc ?_
        refine reg_run [.plain] 5 [(0, [], Value.pointer f), (12, [], Value.bool v16)] (by kernel_rfl) (by kernel_rfl) ?_
        refine reg_end [(0, Value.pointer f), (12, Value.bool v16)] (by kernel_rfl) (by kernel_rfl) ?_
        change WpE _ _ c_towpathref16_Feed_Read_24 _ _ _
        refine wpE_cond (o := (Operand.tmp 12)) (b := v16) (x := c_towpathref16_Feed_Read_25) (y := c_towpathref16_Feed_Read_29) (by kernel_rfl) (by kernel_rfl) (fun hb => ?_) (fun hb => ?_)
        · replace h := h.1 hb
          refine wpE_seq (x := c_towpathref16_Feed_Read_26) (y := c_towpathref16_Feed_Read_28) (by kernel_rfl) ?_
          refine wpE_region (id := 6) (ops := r_towpathref16_Feed_Read_26) (by kernel_rfl) ?_
          refine reg_run [.plain, .plain] 2 [(2, [], Value.int .i64 0), (3, [], Value.int .i64 12)] (by kernel_rfl) (by kernel_rfl) ?_
          refine reg_end [(2, Value.int .i64 0), (3, Value.int .i64 12)] (by kernel_rfl) (by kernel_rfl) ?_
          change WpE _ _ c_towpathref16_Feed_Read_28 _ _ _
          refine wpE_ret (by kernel_rfl) ?_
          repeat (first | refine seqQ_ret ?_ | refine blockQ_ret ?_ | refine loopQ_ret ?_ | refine cutQ_ret ?_)
          exact retT (rs := [(Go.ResultVar.tmp 2), (Go.ResultVar.tmp 3)]) (vs := [Value.int .i64 0, Value.int .i64 12]) (by kernel_rfl) (⟨by kernel_rfl, ⟨by kernel_rfl, trivial⟩⟩) (by kernel_rfl) ⟨0, 12, rfl, h⟩
        · replace h := h.2 hb
          refine wpE_seq (x := c_towpathref16_Feed_Read_30) (y := c_towpathref16_Feed_Read_32) (by kernel_rfl) ?_
          refine wpE_drawregion (id := 7) (ops := r_towpathref16_Feed_Read_30) (by kernel_rfl) (by kernel_rfl) (by kernel_rfl) ?_
          refine qreg_run [.plain] 1 [(0, [], Value.pointer f), (18, [], Value.pointer f)] (by kernel_rfl) (by kernel_rfl) ?_
          obtain ⟨hp_14, h⟩ := h
          refine qreg_conv [(0, [], Value.pointer f), (18, [], Value.pointer (some ⟨(pblk f), (poff f), none⟩))] (congrArg (fun pp => ([(0, [], Value.pointer f), (18, [], Value.pointer pp)] : GEnv)) hp_14) ?_
          refine qreg_run [.plain] 2 [(0, [], Value.pointer f), (18, [], Value.pointer (some ⟨(pblk f), (poff f), none⟩)), (19, [], Value.pointer (some ⟨(pblk f), (poff f), none⟩))] (by kernel_rfl) (by kernel_rfl) ?_
          refine qreg_run [.plain] 3 [(0, [], Value.pointer f), (20, [], Value.pointer (some ⟨(pblk f), (poff f) + 1, none⟩))] (by kernel_rfl) (by kernel_rfl) ?_
          obtain ⟨v21, hc, h⟩ := h
          refine qreg_load1 (t := 3) (a := (Go.Operand.tmp 20)) (b := (pblk f)) (o := ((poff f) + 1)) (ty := 3) (dst := some 21) (by kernel_rfl) (by kernel_rfl) (by kernel_rfl) hc ?_
          refine qreg_run [.plain] 5 [(0, [], Value.pointer f), (21, [], Value.int .i64 v21), (22, [], Value.pointer f)] (by kernel_rfl) (by kernel_rfl) ?_
          obtain ⟨hp_15, h⟩ := h
          refine qreg_conv [(0, [], Value.pointer f), (21, [], Value.int .i64 v21), (22, [], Value.pointer (some ⟨(pblk f), (poff f), none⟩))] (congrArg (fun pp => ([(0, [], Value.pointer f), (21, [], Value.int .i64 v21), (22, [], Value.pointer pp)] : GEnv)) hp_15) ?_
          refine qreg_run [.plain] 6 [(0, [], Value.pointer f), (21, [], Value.int .i64 v21), (22, [], Value.pointer (some ⟨(pblk f), (poff f), none⟩)), (23, [], Value.pointer (some ⟨(pblk f), (poff f), none⟩))] (by kernel_rfl) (by kernel_rfl) ?_
          refine qreg_run [.plain] 7 [(0, [], Value.pointer f), (21, [], Value.int .i64 v21), (24, [], Value.pointer (some ⟨(pblk f), (poff f) + 3, none⟩))] (by kernel_rfl) (by kernel_rfl) ?_
          obtain ⟨v25, hc, h⟩ := h
          refine qreg_load1 (t := 3) (a := (Go.Operand.tmp 24)) (b := (pblk f)) (o := ((poff f) + 3)) (ty := 3) (dst := some 25) (by kernel_rfl) (by kernel_rfl) (by kernel_rfl) hc ?_
          refine qreg_run [.plain, .plain] 10 [(0, [], Value.pointer f), (17, [], Value.bool (decide (v21 ≥ v25)))] (by kernel_rfl) (by kernel_rfl) ?_
          refine qreg_end [(0, Value.pointer f), (17, Value.bool (decide (v21 ≥ v25)))] (by kernel_rfl) (by kernel_rfl) (fun w1 hw => ?_)
          replace h := h w1 hw
          clear hw
          change WpE _ _ c_towpathref16_Feed_Read_32 _ _ _
          refine wpE_cond (o := (Operand.tmp 17)) (b := (decide (v21 ≥ v25))) (x := c_towpathref16_Feed_Read_33) (y := c_towpathref16_Feed_Read_37) (by kernel_rfl) (by kernel_rfl) (fun hb => ?_) (fun hb => ?_)
          · replace h := h.1 hb
            refine wpE_seq (x := c_towpathref16_Feed_Read_34) (y := c_towpathref16_Feed_Read_36) (by kernel_rfl) ?_
            refine wpE_region (id := 8) (ops := r_towpathref16_Feed_Read_34) (by kernel_rfl) ?_
            refine reg_run [.plain, .plain] 2 [(2, [], Value.int .i64 0), (3, [], Value.int .i64 9)] (by kernel_rfl) (by kernel_rfl) ?_
            refine reg_end [(2, Value.int .i64 0), (3, Value.int .i64 9)] (by kernel_rfl) (by kernel_rfl) ?_
            change WpE _ _ c_towpathref16_Feed_Read_36 _ _ _
            refine wpE_ret (by kernel_rfl) ?_
            repeat (first | refine seqQ_ret ?_ | refine blockQ_ret ?_ | refine loopQ_ret ?_ | refine cutQ_ret ?_)
            exact retT (rs := [(Go.ResultVar.tmp 2), (Go.ResultVar.tmp 3)]) (vs := [Value.int .i64 0, Value.int .i64 9]) (by kernel_rfl) (⟨by kernel_rfl, ⟨by kernel_rfl, trivial⟩⟩) (by kernel_rfl) ⟨0, 9, rfl, h⟩
          · replace h := h.2 hb
            refine wpE_skip (by kernel_rfl) ?_
            change WpE _ _ c_towpathref16_Feed_Read_38 _ _ _
            refine wpE_seq (x := c_towpathref16_Feed_Read_39) (y := c_towpathref16_Feed_Read_41) (by kernel_rfl) ?_
            refine wpE_region (id := 9) (ops := r_towpathref16_Feed_Read_39) (by kernel_rfl) ?_
            refine reg_run [.plain] 1 [(0, [], Value.pointer f), (27, [], Value.pointer f)] (by kernel_rfl) (by kernel_rfl) ?_
            obtain ⟨hp_17, h⟩ := h
            refine reg_conv [(0, [], Value.pointer f), (27, [], Value.pointer (some ⟨(pblk f), (poff f), none⟩))] (congrArg (fun pp => ([(0, [], Value.pointer f), (27, [], Value.pointer pp)] : GEnv)) hp_17) ?_
            refine reg_run [.plain] 2 [(0, [], Value.pointer f), (27, [], Value.pointer (some ⟨(pblk f), (poff f), none⟩)), (28, [], Value.pointer (some ⟨(pblk f), (poff f), none⟩))] (by kernel_rfl) (by kernel_rfl) ?_
            refine reg_run [.plain] 3 [(0, [], Value.pointer f), (27, [], Value.pointer (some ⟨(pblk f), (poff f), none⟩)), (29, [], Value.pointer (some ⟨(pblk f), (poff f) + 1, none⟩))] (by kernel_rfl) (by kernel_rfl) ?_
            obtain ⟨v30, hc, h⟩ := h
            refine reg_load1 (t := 3) (a := (Go.Operand.tmp 29)) (b := (pblk f)) (o := ((poff f) + 1)) (ty := 3) (dst := some 30) (by kernel_rfl) (by kernel_rfl) (by kernel_rfl) hc ?_
            refine reg_run [.plain, .plain, .plain] 7 [(0, [], Value.pointer f), (31, [], Value.int .i64 (IntKind.i64.wrap (v30 + 1))), (33, [], Value.pointer (some ⟨(pblk f), (poff f) + 1, none⟩))] (by kernel_rfl) (by kernel_rfl) ?_
            obtain ⟨hc, h⟩ := h
            refine reg_store (t := 3) (a := (Go.Operand.tmp 33)) (x := (Go.Operand.tmp 31)) (b := (pblk f)) (o := ((poff f) + 1)) (ty := 0) (dst := none) [Value.int .i64 (IntKind.i64.wrap (v30 + 1))] (by kernel_rfl) (by kernel_rfl) (by kernel_rfl) (k := 1) (by kernel_rfl) (by kernel_rfl) (by kernel_rfl) hc (fun w2 hw => ?_)
            replace h := h w2 hw
            clear hw
            refine reg_end [(0, Value.pointer f)] (by kernel_rfl) (by kernel_rfl) ?_
            change WpE _ _ c_towpathref16_Feed_Read_41 _ _ _
            refine wpE_seq (x := c_towpathref16_Feed_Read_42) (y := c_towpathref16_Feed_Read_44) (by kernel_rfl) ?_
            refine wpE_mixregion (id := 10) (ops := r_towpathref16_Feed_Read_42) o_towpathref16_Feed_Read_42 (by kernel_rfl) (by kernel_rfl) (by kernel_rfl) (by kernel_rfl) (fun w3 hw => ?_)
            replace h := h w3 hw
            clear hw
            refine mreg_run [.plain, .plain] 2 [(0, [], Value.pointer f), (35, [], Value.pointer f), (36, [], Value.pointer f)] (by kernel_rfl) (by kernel_rfl) ?_
            obtain ⟨hp_21, h⟩ := h
            refine mreg_conv [(0, [], Value.pointer f), (35, [], Value.pointer f), (36, [], Value.pointer (some ⟨(pblk f), (poff f), none⟩))] (congrArg (fun pp => ([(0, [], Value.pointer f), (35, [], Value.pointer f), (36, [], Value.pointer pp)] : GEnv)) hp_21) ?_
            refine mreg_run [.plain] 3 [(0, [], Value.pointer f), (35, [], Value.pointer f), (36, [], Value.pointer (some ⟨(pblk f), (poff f), none⟩)), (37, [], Value.pointer (some ⟨(pblk f), (poff f), none⟩))] (by kernel_rfl) (by kernel_rfl) ?_
            refine mreg_run [.plain] 4 [(0, [], Value.pointer f), (35, [], Value.pointer f), (38, [], Value.pointer (some ⟨(pblk f), (poff f), none⟩))] (by kernel_rfl) (by kernel_rfl) ?_
            obtain ⟨v39, hc, h⟩ := h
            refine mreg_load1 (i := 4) (by kernel_rfl) (t := 107) (a := (Go.Operand.tmp 38)) (b := (pblk f)) (o := (poff f)) (ty := 107) (dst := some 39) (by kernel_rfl) (by kernel_rfl) (by kernel_rfl) hc ?_
            refine mreg_run [.plain] 6 [(0, [], Value.pointer f), (35, [], Value.pointer f), (39, [], Value.pointer v39), (40, [], Value.pointer f)] (by kernel_rfl) (by kernel_rfl) ?_
            obtain ⟨hp_22, h⟩ := h
            refine mreg_conv [(0, [], Value.pointer f), (35, [], Value.pointer f), (39, [], Value.pointer v39), (40, [], Value.pointer (some ⟨(pblk f), (poff f), none⟩))] (congrArg (fun pp => ([(0, [], Value.pointer f), (35, [], Value.pointer f), (39, [], Value.pointer v39), (40, [], Value.pointer pp)] : GEnv)) hp_22) ?_
            refine mreg_run [.plain] 7 [(0, [], Value.pointer f), (35, [], Value.pointer f), (39, [], Value.pointer v39), (40, [], Value.pointer (some ⟨(pblk f), (poff f), none⟩)), (41, [], Value.pointer (some ⟨(pblk f), (poff f), none⟩))] (by kernel_rfl) (by kernel_rfl) ?_
            refine mreg_run [.plain] 8 [(0, [], Value.pointer f), (35, [], Value.pointer f), (39, [], Value.pointer v39), (42, [], Value.pointer (some ⟨(pblk f), (poff f) + 1, none⟩))] (by kernel_rfl) (by kernel_rfl) ?_
            obtain ⟨v43, hc, h⟩ := h
            refine mreg_load1 (i := 8) (by kernel_rfl) (t := 3) (a := (Go.Operand.tmp 42)) (b := (pblk f)) (o := ((poff f) + 1)) (ty := 3) (dst := some 43) (by kernel_rfl) (by kernel_rfl) (by kernel_rfl) hc ?_
            refine mreg_run [] 9 [(0, [], Value.pointer f), (35, [], Value.pointer f), (39, [], Value.pointer v39), (43, [], Value.int .i64 v43)] (by kernel_rfl) (by kernel_rfl) ?_
            refine mreg_enter (op := (Go.Op.call (Go.Call.mk (Go.Callee.value (Go.Operand.func 87)) #[(Go.Operand.tmp 39), (Go.Operand.tmp 43)] #[107, 3]))) (ty := 43) (dst := some 44) 9 [4, 8, 3, 7, 2, 6, 1, 5] [] 87 #[Value.pointer v39, Value.int .i64 v43] (by kernel_rfl) (by kernel_rfl) (by kernel_rfl) (by kernel_rfl) (by kernel_rfl) (fun ww => by kernel_rfl) (Calls.mono h ?_)
            rintro _ w4 ⟨v44, v44_1, rfl, h⟩
            refine ⟨_, rfl, trivial, ?_⟩
            refine mreg_run [.plain, .plain, .plain] 13 [(0, [], Value.pointer f), (35, [], Value.pointer f), (45, [], Value.agg #[Value.int .i64 v44.Number, Value.slice v44.Writes.ptr v44.Writes.len v44.Writes.cap])] (by kernel_rfl) (by kernel_rfl) ?_
            obtain ⟨hp_23, h⟩ := h
            refine mreg_conv [(0, [], Value.pointer f), (35, [], Value.pointer (some ⟨(pblk f), (poff f), none⟩)), (45, [], Value.agg #[Value.int .i64 v44.Number, Value.slice v44.Writes.ptr v44.Writes.len v44.Writes.cap])] (congrArg (fun pp => ([(0, [], Value.pointer f), (35, [], Value.pointer pp), (45, [], Value.agg #[Value.int .i64 v44.Number, Value.slice v44.Writes.ptr v44.Writes.len v44.Writes.cap])] : GEnv)) hp_23) ?_
            refine mreg_run [.plain] 14 [(0, [], Value.pointer f), (35, [], Value.pointer (some ⟨(pblk f), (poff f), none⟩)), (45, [], Value.agg #[Value.int .i64 v44.Number, Value.slice v44.Writes.ptr v44.Writes.len v44.Writes.cap]), (47, [], Value.pointer (some ⟨(pblk f), (poff f), none⟩))] (by kernel_rfl) (by kernel_rfl) ?_
            refine mreg_run [.plain] 15 [(0, [], Value.pointer f), (45, [], Value.agg #[Value.int .i64 v44.Number, Value.slice v44.Writes.ptr v44.Writes.len v44.Writes.cap]), (48, [], Value.pointer (some ⟨(pblk f), (poff f) + 6, none⟩))] (by kernel_rfl) (by kernel_rfl) ?_
            obtain ⟨hc, h⟩ := h
            refine mreg_store (t := 42) (a := (Go.Operand.tmp 48)) (x := (Go.Operand.tmp 45)) (b := (pblk f)) (o := ((poff f) + 6)) (k := 2) (ty := 0) (dst := none) 15 [0, 1, 2, 3, 4, 5, 6, 7, 8, 9, 10, 11, 14, 13] [] [Value.int .i64 v44.Number, Value.slice v44.Writes.ptr v44.Writes.len v44.Writes.cap] (by kernel_rfl) (by kernel_rfl) (by kernel_rfl) (by kernel_rfl) (by kernel_rfl) (by kernel_rfl) (by kernel_rfl) (by kernel_rfl) (by kernel_rfl) (by kernel_rfl) hc (fun w5 hw => ?_)
            replace h := h w5 hw
            clear hw
            refine ⟨trivial, ?_⟩
            refine mreg_end [(0, Value.pointer f)] (by kernel_rfl) (by kernel_rfl) (by kernel_rfl) ?_
            change WpE _ _ c_towpathref16_Feed_Read_44 _ _ _
            refine wpE_seq (x := c_towpathref16_Feed_Read_45) (y := c_towpathref16_Feed_Read_47) (by kernel_rfl) ?_
            refine wpE_region (id := 11) (ops := r_towpathref16_Feed_Read_45) (by kernel_rfl) ?_
            refine reg_run [.plain] 1 [(0, [], Value.pointer f), (49, [], Value.pointer f)] (by kernel_rfl) (by kernel_rfl) ?_
            obtain ⟨hp_25, h⟩ := h
            refine reg_conv [(0, [], Value.pointer f), (49, [], Value.pointer (some ⟨(pblk f), (poff f), none⟩))] (congrArg (fun pp => ([(0, [], Value.pointer f), (49, [], Value.pointer pp)] : GEnv)) hp_25) ?_
            refine reg_run [.plain] 2 [(0, [], Value.pointer f), (49, [], Value.pointer (some ⟨(pblk f), (poff f), none⟩)), (50, [], Value.pointer (some ⟨(pblk f), (poff f), none⟩))] (by kernel_rfl) (by kernel_rfl) ?_
            refine reg_run [.plain] 3 [(0, [], Value.pointer f), (51, [], Value.pointer (some ⟨(pblk f), (poff f) + 5, none⟩))] (by kernel_rfl) (by kernel_rfl) ?_
            obtain ⟨hc, h⟩ := h
            refine reg_store (t := 4) (a := (Go.Operand.tmp 51)) (x := (Go.Operand.const (Go.Value.bool true))) (b := (pblk f)) (o := ((poff f) + 5)) (ty := 0) (dst := none) [Value.bool true] (by kernel_rfl) (by kernel_rfl) (by kernel_rfl) (k := 1) (by kernel_rfl) (by kernel_rfl) (by kernel_rfl) hc (fun w6 hw => ?_)
            replace h := h w6 hw
            clear hw
            refine reg_end [(0, Value.pointer f)] (by kernel_rfl) (by kernel_rfl) ?_
            change WpE _ _ c_towpathref16_Feed_Read_47 _ _ _
            refine wpE_seq (x := c_towpathref16_Feed_Read_48) (y := c_towpathref16_Feed_Read_50) (by kernel_rfl) ?_
            refine wpE_region (id := 12) (ops := r_towpathref16_Feed_Read_48) (by kernel_rfl) ?_
            refine reg_run [.plain] 1 [(52, [], Value.pointer f)] (by kernel_rfl) (by kernel_rfl) ?_
            obtain ⟨hp_26, h⟩ := h
            refine reg_conv [(52, [], Value.pointer (some ⟨(pblk f), (poff f), none⟩))] (congrArg (fun pp => ([(52, [], Value.pointer pp)] : GEnv)) hp_26) ?_
            refine reg_run [.plain] 2 [(52, [], Value.pointer (some ⟨(pblk f), (poff f), none⟩)), (53, [], Value.pointer (some ⟨(pblk f), (poff f), none⟩))] (by kernel_rfl) (by kernel_rfl) ?_
            refine reg_run [.plain] 3 [(54, [], Value.pointer (some ⟨(pblk f), (poff f) + 1, none⟩))] (by kernel_rfl) (by kernel_rfl) ?_
            obtain ⟨v55, hc, h⟩ := h
            refine reg_load1 (t := 3) (a := (Go.Operand.tmp 54)) (b := (pblk f)) (o := ((poff f) + 1)) (ty := 3) (dst := some 55) (by kernel_rfl) (by kernel_rfl) (by kernel_rfl) hc ?_
            refine reg_run [.plain, .plain] 6 [(2, [], Value.int .i64 v55), (3, [], Value.int .i64 0)] (by kernel_rfl) (by kernel_rfl) ?_
            refine reg_end [(2, Value.int .i64 v55), (3, Value.int .i64 0)] (by kernel_rfl) (by kernel_rfl) ?_
            change WpE _ _ c_towpathref16_Feed_Read_50 _ _ _
            refine wpE_ret (by kernel_rfl) ?_
            repeat (first | refine seqQ_ret ?_ | refine blockQ_ret ?_ | refine loopQ_ret ?_ | refine cutQ_ret ?_)
            exact retT (rs := [(Go.ResultVar.tmp 2), (Go.ResultVar.tmp 3)]) (vs := [Value.int .i64 v55, Value.int .i64 0]) (by kernel_rfl) (⟨by kernel_rfl, ⟨by kernel_rfl, trivial⟩⟩) (by kernel_rfl) ⟨v55, 0, rfl, h⟩
  · rintro e w' ⟨v, rfl, r0, r1, rfl, h⟩; exact ⟨r0, r1, rfl, h⟩
end Go.Proofs.Ytpedclhflmhakaa
