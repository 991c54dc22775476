/- WRITTEN BY PROGRAM (dec.py): for each Go function the clean formula F, the call's contract C, and the proof S that F gives C. -/
import Derived.Test.YtpedclhflmhakaaRows
import Derived.Test.YtpedclhflmhakaaGF
namespace Go.Proofs.Ytpedclhflmhakaa
open Go
set_option linter.unusedVariables false

/-! ### (*towpath/towpathref16.Feed).Skip (function 56) -/
noncomputable def c_towpathref16_Feed_Skip_0 : Code := (Try.f56.body).getD Code.skip
noncomputable def c_towpathref16_Feed_Skip_1 : Code := Code.l c_towpathref16_Feed_Skip_0
noncomputable def r_towpathref16_Feed_Skip_1 : Array Oper := Code.ops c_towpathref16_Feed_Skip_1
noncomputable def c_towpathref16_Feed_Skip_3 : Code := Code.r c_towpathref16_Feed_Skip_0
noncomputable def c_towpathref16_Feed_Skip_4 : Code := Code.l c_towpathref16_Feed_Skip_3
noncomputable def c_towpathref16_Feed_Skip_5 : Code := Code.l c_towpathref16_Feed_Skip_4
noncomputable def c_towpathref16_Feed_Skip_6 : Code := Code.l c_towpathref16_Feed_Skip_5
noncomputable def r_towpathref16_Feed_Skip_6 : Array Oper := Code.ops c_towpathref16_Feed_Skip_6
noncomputable def c_towpathref16_Feed_Skip_8 : Code := Code.r c_towpathref16_Feed_Skip_5
noncomputable def c_towpathref16_Feed_Skip_9 : Code := Code.l c_towpathref16_Feed_Skip_8
noncomputable def c_towpathref16_Feed_Skip_10 : Code := Code.l c_towpathref16_Feed_Skip_9
noncomputable def r_towpathref16_Feed_Skip_10 : Array Oper := Code.ops c_towpathref16_Feed_Skip_10
noncomputable def c_towpathref16_Feed_Skip_12 : Code := Code.r c_towpathref16_Feed_Skip_9
noncomputable def c_towpathref16_Feed_Skip_13 : Code := Code.r c_towpathref16_Feed_Skip_8
noncomputable def c_towpathref16_Feed_Skip_14 : Code := Code.l c_towpathref16_Feed_Skip_13
noncomputable def r_towpathref16_Feed_Skip_14 : Array Oper := Code.ops c_towpathref16_Feed_Skip_14
noncomputable def c_towpathref16_Feed_Skip_16 : Code := Code.r c_towpathref16_Feed_Skip_13
noncomputable def c_towpathref16_Feed_Skip_17 : Code := Code.l c_towpathref16_Feed_Skip_16
noncomputable def c_towpathref16_Feed_Skip_18 : Code := Code.l c_towpathref16_Feed_Skip_17
noncomputable def r_towpathref16_Feed_Skip_18 : Array Oper := Code.ops c_towpathref16_Feed_Skip_18
noncomputable def c_towpathref16_Feed_Skip_20 : Code := Code.r c_towpathref16_Feed_Skip_17
noncomputable def c_towpathref16_Feed_Skip_21 : Code := Code.r c_towpathref16_Feed_Skip_16
noncomputable def c_towpathref16_Feed_Skip_22 : Code := Code.l c_towpathref16_Feed_Skip_21
noncomputable def r_towpathref16_Feed_Skip_22 : Array Oper := Code.ops c_towpathref16_Feed_Skip_22
noncomputable def c_towpathref16_Feed_Skip_24 : Code := Code.r c_towpathref16_Feed_Skip_21
noncomputable def c_towpathref16_Feed_Skip_25 : Code := Code.l c_towpathref16_Feed_Skip_24
noncomputable def c_towpathref16_Feed_Skip_26 : Code := Code.l c_towpathref16_Feed_Skip_25
noncomputable def r_towpathref16_Feed_Skip_26 : Array Oper := Code.ops c_towpathref16_Feed_Skip_26
noncomputable def c_towpathref16_Feed_Skip_28 : Code := Code.r c_towpathref16_Feed_Skip_25
noncomputable def c_towpathref16_Feed_Skip_29 : Code := Code.r c_towpathref16_Feed_Skip_24
noncomputable def c_towpathref16_Feed_Skip_30 : Code := Code.r c_towpathref16_Feed_Skip_3
noncomputable def c_towpathref16_Feed_Skip_31 : Code := Code.l c_towpathref16_Feed_Skip_30
noncomputable def r_towpathref16_Feed_Skip_31 : Array Oper := Code.ops c_towpathref16_Feed_Skip_31
noncomputable def c_towpathref16_Feed_Skip_33 : Code := Code.r c_towpathref16_Feed_Skip_30
noncomputable def c_towpathref16_Feed_Skip_34 : Code := Code.l c_towpathref16_Feed_Skip_33
noncomputable def r_towpathref16_Feed_Skip_34 : Array Oper := Code.ops c_towpathref16_Feed_Skip_34
noncomputable def c_towpathref16_Feed_Skip_36 : Code := Code.r c_towpathref16_Feed_Skip_33

set_option maxRecDepth 100000 in
set_option maxHeartbeats 4000000 in
theorem S_towpathref16_Feed_Skip {f : Option Addr} {w : World} {R : Int → Int → World → Prop} (h : F_towpathref16_Feed_Skip f R w) : C_towpathref16_Feed_Skip f w R := by
  unfold F_towpathref16_Feed_Skip at h
  unfold C_towpathref16_Feed_Skip
  refine Calls.mono (calls_of_wpE (args := [Value.pointer f]) (R := fun v w' => ∃ (r0 : Int) (r1 : Int), v = Value.tuple #[Value.int .i64 r0, Value.int .i64 r1] ∧ R r0 r1 w') Try.func56 (c := c_towpathref16_Feed_Skip_0) (by kernel_rfl) 25 (by kernel_rfl) (by kernel_rfl) [(0, Value.pointer f)] (by kernel_rfl) ?_) ?_
  · refine wpE_seq (x := c_towpathref16_Feed_Skip_1) (y := c_towpathref16_Feed_Skip_3) (by kernel_rfl) ?_
    refine wpE_region (id := 0) (ops := r_towpathref16_Feed_Skip_1) (by kernel_rfl) ?_
    refine reg_run [.plain, .plain] 2 [(0, [], Value.pointer f)] (by kernel_rfl) (by kernel_rfl) ?_
    refine reg_end [(0, Value.pointer f)] (by kernel_rfl) (by kernel_rfl) ?_
    change WpE _ _ c_towpathref16_Feed_Skip_3 _ _ _
    refine wpE_seq (x := c_towpathref16_Feed_Skip_4) (y := c_towpathref16_Feed_Skip_30) (by kernel_rfl) ?_
    refine wpE_block (id := 0) (x := c_towpathref16_Feed_Skip_5) (by kernel_rfl) ?_
    refine wpE_seq (x := c_towpathref16_Feed_Skip_6) (y := c_towpathref16_Feed_Skip_8) (by kernel_rfl) ?_
    refine wpE_region (id := 1) (ops := r_towpathref16_Feed_Skip_6) (by kernel_rfl) ?_
    refine reg_run [.plain] 1 [(0, [], Value.pointer f), (5, [], Value.pointer f)] (by kernel_rfl) (by kernel_rfl) ?_
    refine reg_val (op := (Go.Op.binOp Go.BinOp.eql 27 (Go.Operand.tmp 5) (Go.Operand.const (Go.Value.pointer none)) 27)) (ty := 4) (dst := some 6) (Value.bool f.isNone) (by kernel_rfl) (fun ww => run_ptr_eql_R (p := f) (by kernel_rfl) (by kernel_rfl) (by kernel_rfl) ww) ?_
    refine reg_run [.plain] 3 [(0, [], Value.pointer f), (4, [], Value.bool f.isNone)] (by kernel_rfl) (by kernel_rfl) ?_
    refine reg_end [(0, Value.pointer f), (4, Value.bool f.isNone)] (by kernel_rfl) (by kernel_rfl) ?_
    change WpE _ _ c_towpathref16_Feed_Skip_8 _ _ _
    refine wpE_cond (o := (Operand.tmp 4)) (b := f.isNone) (x := c_towpathref16_Feed_Skip_9) (y := c_towpathref16_Feed_Skip_13) (by kernel_rfl) (by kernel_rfl) (fun hb => ?_) (fun hb => ?_)
    · replace h := h.1 hb
      refine wpE_seq (x := c_towpathref16_Feed_Skip_10) (y := c_towpathref16_Feed_Skip_12) (by kernel_rfl) ?_
      refine wpE_region (id := 2) (ops := r_towpathref16_Feed_Skip_10) (by kernel_rfl) ?_
      refine reg_run [.plain, .plain] 2 [(2, [], Value.int .i64 0), (3, [], Value.int .i64 2)] (by kernel_rfl) (by kernel_rfl) ?_
      refine reg_end [(2, Value.int .i64 0), (3, Value.int .i64 2)] (by kernel_rfl) (by kernel_rfl) ?_
      change WpE _ _ c_towpathref16_Feed_Skip_12 _ _ _
      refine wpE_ret (by kernel_rfl) ?_
      repeat (first | refine seqQ_ret ?_ | refine blockQ_ret ?_ | refine loopQ_ret ?_ | refine cutQ_ret ?_)
      exact retT (rs := [(Go.ResultVar.tmp 2), (Go.ResultVar.tmp 3)]) (vs := [Value.int .i64 0, Value.int .i64 2]) (by kernel_rfl) (⟨by kernel_rfl, ⟨by kernel_rfl, trivial⟩⟩) (by kernel_rfl) ⟨0, 2, rfl, h⟩
    · replace h := h.2 hb
      refine wpE_seq (x := c_towpathref16_Feed_Skip_14) (y := c_towpathref16_Feed_Skip_16) (by kernel_rfl) ?_
      refine wpE_region (id := 3) (ops := r_towpathref16_Feed_Skip_14) (by kernel_rfl) ?_
      refine reg_run [.plain] 1 [(0, [], Value.pointer f), (8, [], Value.pointer f)] (by kernel_rfl) (by kernel_rfl) ?_
      obtain ⟨hp_3, h⟩ := h
      refine reg_conv [(0, [], Value.pointer f), (8, [], Value.pointer (some ⟨(pblk f), (poff f), none⟩))] (congrArg (fun pp => ([(0, [], Value.pointer f), (8, [], Value.pointer pp)] : GEnv)) hp_3) ?_
      refine reg_run [.plain] 2 [(0, [], Value.pointer f), (8, [], Value.pointer (some ⟨(pblk f), (poff f), none⟩)), (9, [], Value.pointer (some ⟨(pblk f), (poff f), none⟩))] (by kernel_rfl) (by kernel_rfl) ?_
      refine reg_run [.plain] 3 [(0, [], Value.pointer f), (10, [], Value.pointer (some ⟨(pblk f), (poff f) + 5, none⟩))] (by kernel_rfl) (by kernel_rfl) ?_
      obtain ⟨v11, hc, h⟩ := h
      refine reg_load1 (t := 4) (a := (Go.Operand.tmp 10)) (b := (pblk f)) (o := ((poff f) + 5)) (ty := 4) (dst := some 11) (by kernel_rfl) (by kernel_rfl) (by kernel_rfl) hc ?_
      refine reg_run [.plain, .plain] 6 [(0, [], Value.pointer f), (7, [], Value.bool (!v11))] (by kernel_rfl) (by kernel_rfl) ?_
      refine reg_end [(0, Value.pointer f), (7, Value.bool (!v11))] (by kernel_rfl) (by kernel_rfl) ?_
      change WpE _ _ c_towpathref16_Feed_Skip_16 _ _ _
      refine wpE_cond (o := (Operand.tmp 7)) (b := (!v11)) (x := c_towpathref16_Feed_Skip_17) (y := c_towpathref16_Feed_Skip_21) (by kernel_rfl) (by kernel_rfl) (fun hb => ?_) (fun hb => ?_)
      · replace h := h.1 hb
        refine wpE_seq (x := c_towpathref16_Feed_Skip_18) (y := c_towpathref16_Feed_Skip_20) (by kernel_rfl) ?_
        refine wpE_region (id := 4) (ops := r_towpathref16_Feed_Skip_18) (by kernel_rfl) ?_
        refine reg_run [.plain, .plain] 2 [(2, [], Value.int .i64 0), (3, [], Value.int .i64 9)] (by kernel_rfl) (by kernel_rfl) ?_
        refine reg_end [(2, Value.int .i64 0), (3, Value.int .i64 9)] (by kernel_rfl) (by kernel_rfl) ?_
        change WpE _ _ c_towpathref16_Feed_Skip_20 _ _ _
        refine wpE_ret (by kernel_rfl) ?_
        repeat (first | refine seqQ_ret ?_ | refine blockQ_ret ?_ | refine loopQ_ret ?_ | refine cutQ_ret ?_)
        exact retT (rs := [(Go.ResultVar.tmp 2), (Go.ResultVar.tmp 3)]) (vs := [Value.int .i64 0, Value.int .i64 9]) (by kernel_rfl) (⟨by kernel_rfl, ⟨by kernel_rfl, trivial⟩⟩) (by kernel_rfl) ⟨0, 9, rfl, h⟩
      · replace h := h.2 hb
        refine wpE_seq (x := c_towpathref16_Feed_Skip_22) (y := c_towpathref16_Feed_Skip_24) (by kernel_rfl) ?_
        refine wpE_region (id := 5) (ops := r_towpathref16_Feed_Skip_22) (by kernel_rfl) ?_
        refine reg_run [.plain] 1 [(0, [], Value.pointer f), (14, [], Value.pointer f)] (by kernel_rfl) (by kernel_rfl) ?_
        refine reg_enter (op := (Go.Op.call (Go.Call.mk (Go.Callee.value (Go.Operand.func 85)) #[(Go.Operand.tmp 14)] #[27]))) (ty := 4) (dst := some 15) 85 #[Value.pointer f] (by kernel_rfl) (fun ww => by kernel_rfl) (Calls.mono h ?_)
        rintro _ w1 ⟨v15, rfl, h⟩
        refine ⟨_, rfl, ?_⟩
        refine reg_run [.plain, .plain] 4 [(0, [], Value.pointer f), (13, [], Value.bool (!v15))] (by kernel_rfl) (by kernel_rfl) ?_
        refine reg_end [(0, Value.pointer f), (13, Value.bool (!v15))] (by kernel_rfl) (by kernel_rfl) ?_
        change WpE _ _ c_towpathref16_Feed_Skip_24 _ _ _
        refine wpE_cond (o := (Operand.tmp 13)) (b := (!v15)) (x := c_towpathref16_Feed_Skip_25) (y := c_towpathref16_Feed_Skip_29) (by kernel_rfl) (by kernel_rfl) (fun hb => ?_) (fun hb => ?_)
        · replace h := h.1 hb
          refine wpE_seq (x := c_towpathref16_Feed_Skip_26) (y := c_towpathref16_Feed_Skip_28) (by kernel_rfl) ?_
          refine wpE_region (id := 6) (ops := r_towpathref16_Feed_Skip_26) (by kernel_rfl) ?_
          refine reg_run [.plain, .plain] 2 [(2, [], Value.int .i64 0), (3, [], Value.int .i64 6)] (by kernel_rfl) (by kernel_rfl) ?_
          refine reg_end [(2, Value.int .i64 0), (3, Value.int .i64 6)] (by kernel_rfl) (by kernel_rfl) ?_
          change WpE _ _ c_towpathref16_Feed_Skip_28 _ _ _
          refine wpE_ret (by kernel_rfl) ?_
          repeat (first | refine seqQ_ret ?_ | refine blockQ_ret ?_ | refine loopQ_ret ?_ | refine cutQ_ret ?_)
          exact retT (rs := [(Go.ResultVar.tmp 2), (Go.ResultVar.tmp 3)]) (vs := [Value.int .i64 0, Value.int .i64 6]) (by kernel_rfl) (⟨by kernel_rfl, ⟨by kernel_rfl, trivial⟩⟩) (by kernel_rfl) ⟨0, 6, rfl, h⟩
        · replace h := h.2 hb
          refine wpE_skip (by kernel_rfl) ?_
          change WpE _ _ c_towpathref16_Feed_Skip_30 _ _ _
          refine wpE_seq (x := c_towpathref16_Feed_Skip_31) (y := c_towpathref16_Feed_Skip_33) (by kernel_rfl) ?_
          refine wpE_region (id := 7) (ops := r_towpathref16_Feed_Skip_31) (by kernel_rfl) ?_
          refine reg_run [.plain] 1 [(0, [], Value.pointer f), (17, [], Value.pointer f)] (by kernel_rfl) (by kernel_rfl) ?_
          obtain ⟨hp_5, h⟩ := h
          refine reg_conv [(0, [], Value.pointer f), (17, [], Value.pointer (some ⟨(pblk f), (poff f), none⟩))] (congrArg (fun pp => ([(0, [], Value.pointer f), (17, [], Value.pointer pp)] : GEnv)) hp_5) ?_
          refine reg_run [.plain] 2 [(0, [], Value.pointer f), (17, [], Value.pointer (some ⟨(pblk f), (poff f), none⟩)), (18, [], Value.pointer (some ⟨(pblk f), (poff f), none⟩))] (by kernel_rfl) (by kernel_rfl) ?_
          refine reg_run [.plain] 3 [(0, [], Value.pointer f), (19, [], Value.pointer (some ⟨(pblk f), (poff f) + 5, none⟩))] (by kernel_rfl) (by kernel_rfl) ?_
          obtain ⟨hc, h⟩ := h
          refine reg_store (t := 4) (a := (Go.Operand.tmp 19)) (x := (Go.Operand.const (Go.Value.bool false))) (b := (pblk f)) (o := ((poff f) + 5)) (ty := 0) (dst := none) [Value.bool false] (by kernel_rfl) (by kernel_rfl) (by kernel_rfl) (k := 1) (by kernel_rfl) (by kernel_rfl) (by kernel_rfl) hc (fun w2 hw => ?_)
          replace h := h w2 hw
          clear hw
          refine reg_end [(0, Value.pointer f)] (by kernel_rfl) (by kernel_rfl) ?_
          change WpE _ _ c_towpathref16_Feed_Skip_33 _ _ _
          refine wpE_seq (x := c_towpathref16_Feed_Skip_34) (y := c_towpathref16_Feed_Skip_36) (by kernel_rfl) ?_
          refine wpE_region (id := 8) (ops := r_towpathref16_Feed_Skip_34) (by kernel_rfl) ?_
          refine reg_run [.plain] 1 [(20, [], Value.pointer f)] (by kernel_rfl) (by kernel_rfl) ?_
          obtain ⟨hp_6, h⟩ := h
          refine reg_conv [(20, [], Value.pointer (some ⟨(pblk f), (poff f), none⟩))] (congrArg (fun pp => ([(20, [], Value.pointer pp)] : GEnv)) hp_6) ?_
          refine reg_run [.plain] 2 [(20, [], Value.pointer (some ⟨(pblk f), (poff f), none⟩)), (21, [], Value.pointer (some ⟨(pblk f), (poff f), none⟩))] (by kernel_rfl) (by kernel_rfl) ?_
          refine reg_run [.plain, .plain] 4 [(23, [], Value.pointer (some ⟨(pblk f), (poff f) + 6, none⟩))] (by kernel_rfl) (by kernel_rfl) ?_
          obtain ⟨v24, hc, h⟩ := h
          refine reg_load1 (t := 3) (a := (Go.Operand.tmp 23)) (b := (pblk f)) (o := ((poff f) + 6)) (ty := 3) (dst := some 24) (by kernel_rfl) (by kernel_rfl) (by kernel_rfl) hc ?_
          refine reg_run [.plain, .plain] 7 [(2, [], Value.int .i64 v24), (3, [], Value.int .i64 0)] (by kernel_rfl) (by kernel_rfl) ?_
          refine reg_end [(2, Value.int .i64 v24), (3, Value.int .i64 0)] (by kernel_rfl) (by kernel_rfl) ?_
          change WpE _ _ c_towpathref16_Feed_Skip_36 _ _ _
          refine wpE_ret (by kernel_rfl) ?_
          repeat (first | refine seqQ_ret ?_ | refine blockQ_ret ?_ | refine loopQ_ret ?_ | refine cutQ_ret ?_)
          exact retT (rs := [(Go.ResultVar.tmp 2), (Go.ResultVar.tmp 3)]) (vs := [Value.int .i64 v24, Value.int .i64 0]) (by kernel_rfl) (⟨by kernel_rfl, ⟨by kernel_rfl, trivial⟩⟩) (by kernel_rfl) ⟨v24, 0, rfl, h⟩
  · rintro e w' ⟨v, rfl, r0, r1, rfl, h⟩; exact ⟨r0, r1, rfl, h⟩

/-! ### (*towpath/towpathref16.Feed).Dispatch (function 57) -/
noncomputable def c_towpathref16_Feed_Dispatch_0 : Code := (Try.f57.body).getD Code.skip
noncomputable def c_towpathref16_Feed_Dispatch_1 : Code := Code.l c_towpathref16_Feed_Dispatch_0
noncomputable def r_towpathref16_Feed_Dispatch_1 : Array Oper := Code.ops c_towpathref16_Feed_Dispatch_1
noncomputable def c_towpathref16_Feed_Dispatch_3 : Code := Code.r c_towpathref16_Feed_Dispatch_0
noncomputable def c_towpathref16_Feed_Dispatch_4 : Code := Code.l c_towpathref16_Feed_Dispatch_3
noncomputable def c_towpathref16_Feed_Dispatch_5 : Code := Code.l c_towpathref16_Feed_Dispatch_4
noncomputable def c_towpathref16_Feed_Dispatch_6 : Code := Code.l c_towpathref16_Feed_Dispatch_5
noncomputable def r_towpathref16_Feed_Dispatch_6 : Array Oper := Code.ops c_towpathref16_Feed_Dispatch_6
noncomputable def c_towpathref16_Feed_Dispatch_8 : Code := Code.r c_towpathref16_Feed_Dispatch_5
noncomputable def c_towpathref16_Feed_Dispatch_9 : Code := Code.l c_towpathref16_Feed_Dispatch_8
noncomputable def c_towpathref16_Feed_Dispatch_10 : Code := Code.l c_towpathref16_Feed_Dispatch_9
noncomputable def r_towpathref16_Feed_Dispatch_10 : Array Oper := Code.ops c_towpathref16_Feed_Dispatch_10
noncomputable def c_towpathref16_Feed_Dispatch_12 : Code := Code.r c_towpathref16_Feed_Dispatch_9
noncomputable def c_towpathref16_Feed_Dispatch_13 : Code := Code.r c_towpathref16_Feed_Dispatch_8
noncomputable def c_towpathref16_Feed_Dispatch_14 : Code := Code.l c_towpathref16_Feed_Dispatch_13
noncomputable def r_towpathref16_Feed_Dispatch_14 : Array Oper := Code.ops c_towpathref16_Feed_Dispatch_14
noncomputable def c_towpathref16_Feed_Dispatch_16 : Code := Code.r c_towpathref16_Feed_Dispatch_13
noncomputable def c_towpathref16_Feed_Dispatch_17 : Code := Code.l c_towpathref16_Feed_Dispatch_16
noncomputable def c_towpathref16_Feed_Dispatch_18 : Code := Code.l c_towpathref16_Feed_Dispatch_17
noncomputable def r_towpathref16_Feed_Dispatch_18 : Array Oper := Code.ops c_towpathref16_Feed_Dispatch_18
noncomputable def c_towpathref16_Feed_Dispatch_20 : Code := Code.r c_towpathref16_Feed_Dispatch_17
noncomputable def c_towpathref16_Feed_Dispatch_21 : Code := Code.r c_towpathref16_Feed_Dispatch_16
noncomputable def c_towpathref16_Feed_Dispatch_22 : Code := Code.l c_towpathref16_Feed_Dispatch_21
noncomputable def r_towpathref16_Feed_Dispatch_22 : Array Oper := Code.ops c_towpathref16_Feed_Dispatch_22
noncomputable def c_towpathref16_Feed_Dispatch_24 : Code := Code.r c_towpathref16_Feed_Dispatch_21
noncomputable def c_towpathref16_Feed_Dispatch_25 : Code := Code.l c_towpathref16_Feed_Dispatch_24
noncomputable def c_towpathref16_Feed_Dispatch_26 : Code := Code.l c_towpathref16_Feed_Dispatch_25
noncomputable def r_towpathref16_Feed_Dispatch_26 : Array Oper := Code.ops c_towpathref16_Feed_Dispatch_26
noncomputable def c_towpathref16_Feed_Dispatch_28 : Code := Code.r c_towpathref16_Feed_Dispatch_25
noncomputable def c_towpathref16_Feed_Dispatch_29 : Code := Code.r c_towpathref16_Feed_Dispatch_24
noncomputable def c_towpathref16_Feed_Dispatch_30 : Code := Code.r c_towpathref16_Feed_Dispatch_3
noncomputable def c_towpathref16_Feed_Dispatch_31 : Code := Code.l c_towpathref16_Feed_Dispatch_30
noncomputable def r_towpathref16_Feed_Dispatch_31 : Array Oper := Code.ops c_towpathref16_Feed_Dispatch_31
noncomputable def c_towpathref16_Feed_Dispatch_33 : Code := Code.r c_towpathref16_Feed_Dispatch_30
noncomputable def c_towpathref16_Feed_Dispatch_34 : Code := Code.l c_towpathref16_Feed_Dispatch_33
noncomputable def r_towpathref16_Feed_Dispatch_34 : Array Oper := Code.ops c_towpathref16_Feed_Dispatch_34
noncomputable def c_towpathref16_Feed_Dispatch_36 : Code := Code.r c_towpathref16_Feed_Dispatch_33

set_option maxRecDepth 100000 in
set_option maxHeartbeats 4000000 in
theorem S_towpathref16_Feed_Dispatch {f : Option Addr} {mark : Int} {w : World} {R : T_api_Txn → Int → World → Prop} (h : F_towpathref16_Feed_Dispatch f mark R w) : C_towpathref16_Feed_Dispatch f mark w R := by
  unfold F_towpathref16_Feed_Dispatch at h
  unfold C_towpathref16_Feed_Dispatch
  refine Calls.mono (calls_of_wpE (args := [Value.pointer f, Value.int .i64 mark]) (R := fun v w' => ∃ (r0 : T_api_Txn) (r1 : Int), v = Value.tuple #[Value.agg #[Value.int .i64 r0.Number, Value.slice r0.Writes.ptr r0.Writes.len r0.Writes.cap], Value.int .i64 r1] ∧ R r0 r1 w') Try.func57 (c := c_towpathref16_Feed_Dispatch_0) (by kernel_rfl) 34 (by kernel_rfl) (by kernel_rfl) [(0, Value.pointer f), (1, Value.int .i64 mark)] (by kernel_rfl) ?_) ?_
  · refine wpE_seq (x := c_towpathref16_Feed_Dispatch_1) (y := c_towpathref16_Feed_Dispatch_3) (by kernel_rfl) ?_
    refine wpE_region (id := 0) (ops := r_towpathref16_Feed_Dispatch_1) (by kernel_rfl) ?_
    refine reg_run [] 0 [(0, [], Value.pointer f), (1, [], Value.int .i64 mark)] (by kernel_rfl) (by kernel_rfl) ?_
    refine reg_new (op := (Go.Op.alloc 42)) (ty := 0) (dst := some 4) (fun bb => Value.pointer (some ⟨bb, 0, none⟩)) (Obj.cells ([Value.int .i64 0, Value.slice none 0 0]).toArray ty_api_Txn (0, 0)) (by kernel_rfl) (by kernel_rfl) (fun b_ w1 hb hw => ?_)
    replace h := h b_ w1 hb hw
    clear hb hw
    refine reg_run [.plain] 2 [(0, [], Value.pointer f), (1, [], Value.int .i64 mark), (4, [], Value.pointer (some ⟨b_, 0, none⟩))] (by kernel_rfl) (by kernel_rfl) ?_
    refine reg_end [(0, Value.pointer f), (1, Value.int .i64 mark), (4, Value.pointer (some ⟨b_, 0, none⟩))] (by kernel_rfl) (by kernel_rfl) ?_
    change WpE _ _ c_towpathref16_Feed_Dispatch_3 _ _ _
    refine wpE_seq (x := c_towpathref16_Feed_Dispatch_4) (y := c_towpathref16_Feed_Dispatch_30) (by kernel_rfl) ?_
    refine wpE_block (id := 0) (x := c_towpathref16_Feed_Dispatch_5) (by kernel_rfl) ?_
    refine wpE_seq (x := c_towpathref16_Feed_Dispatch_6) (y := c_towpathref16_Feed_Dispatch_8) (by kernel_rfl) ?_
    refine wpE_region (id := 1) (ops := r_towpathref16_Feed_Dispatch_6) (by kernel_rfl) ?_
    refine reg_run [.plain] 1 [(0, [], Value.pointer f), (1, [], Value.int .i64 mark), (4, [], Value.pointer (some ⟨b_, 0, none⟩)), (7, [], Value.pointer f)] (by kernel_rfl) (by kernel_rfl) ?_
    refine reg_val (op := (Go.Op.binOp Go.BinOp.eql 27 (Go.Operand.tmp 7) (Go.Operand.const (Go.Value.pointer none)) 27)) (ty := 4) (dst := some 8) (Value.bool f.isNone) (by kernel_rfl) (fun ww => run_ptr_eql_R (p := f) (by kernel_rfl) (by kernel_rfl) (by kernel_rfl) ww) ?_
    refine reg_run [.plain] 3 [(0, [], Value.pointer f), (1, [], Value.int .i64 mark), (4, [], Value.pointer (some ⟨b_, 0, none⟩)), (6, [], Value.bool f.isNone)] (by kernel_rfl) (by kernel_rfl) ?_
    refine reg_end [(0, Value.pointer f), (1, Value.int .i64 mark), (4, Value.pointer (some ⟨b_, 0, none⟩)), (6, Value.bool f.isNone)] (by kernel_rfl) (by kernel_rfl) ?_
    change WpE _ _ c_towpathref16_Feed_Dispatch_8 _ _ _
    refine wpE_cond (o := (Operand.tmp 6)) (b := f.isNone) (x := c_towpathref16_Feed_Dispatch_9) (y := c_towpathref16_Feed_Dispatch_13) (by kernel_rfl) (by kernel_rfl) (fun hb => ?_) (fun hb => ?_)
    · replace h := h.1 hb
      refine wpE_seq (x := c_towpathref16_Feed_Dispatch_10) (y := c_towpathref16_Feed_Dispatch_12) (by kernel_rfl) ?_
      refine wpE_region (id := 2) (ops := r_towpathref16_Feed_Dispatch_10) (by kernel_rfl) ?_
      refine reg_run [.plain] 1 [(4, [], Value.pointer (some ⟨b_, 0, none⟩)), (9, [], Value.agg #[Value.int .i64 0, Value.slice none 0 0])] (by kernel_rfl) (by kernel_rfl) ?_
      obtain ⟨hc, h⟩ := h
      refine reg_store (t := 42) (a := (Go.Operand.tmp 4)) (x := (Go.Operand.tmp 9)) (b := b_) (o := 0) (ty := 0) (dst := none) [Value.int .i64 0, Value.slice none 0 0] (by kernel_rfl) (by kernel_rfl) (by kernel_rfl) (k := 2) (by kernel_rfl) (by kernel_rfl) (by kernel_rfl) hc (fun w2 hw => ?_)
      replace h := h w2 hw
      clear hw
      refine reg_run [.plain] 3 [(4, [], Value.pointer (some ⟨b_, 0, none⟩)), (5, [], Value.int .i64 2)] (by kernel_rfl) (by kernel_rfl) ?_
      refine reg_end [(4, Value.pointer (some ⟨b_, 0, none⟩)), (5, Value.int .i64 2)] (by kernel_rfl) (by kernel_rfl) ?_
      change WpE _ _ c_towpathref16_Feed_Dispatch_12 _ _ _
      refine wpE_ret (by kernel_rfl) ?_
      obtain ⟨res, hc_res, h⟩ := h
      repeat (first | refine seqQ_ret ?_ | refine blockQ_ret ?_ | refine loopQ_ret ?_ | refine cutQ_ret ?_)
      exact retT (rs := [(Go.ResultVar.cell 4 42), (Go.ResultVar.tmp 5)]) (vs := [Value.agg #[Value.int .i64 res.Number, Value.slice res.Writes.ptr res.Writes.len res.Writes.cap], Value.int .i64 2]) (by kernel_rfl) (⟨b_, 0, [Value.int .i64 res.Number, Value.slice res.Writes.ptr res.Writes.len res.Writes.cap], by kernel_rfl, hc_res, (sizeP_of (k := 2) (by kernel_rfl) (by kernel_rfl)), .inl ⟨by kernel_rfl, rfl⟩, ⟨by kernel_rfl, trivial⟩⟩) (by kernel_rfl) ⟨res, 2, rfl, h⟩
    · replace h := h.2 hb
      refine wpE_seq (x := c_towpathref16_Feed_Dispatch_14) (y := c_towpathref16_Feed_Dispatch_16) (by kernel_rfl) ?_
      refine wpE_region (id := 3) (ops := r_towpathref16_Feed_Dispatch_14) (by kernel_rfl) ?_
      refine reg_run [.plain] 1 [(0, [], Value.pointer f), (1, [], Value.int .i64 mark), (4, [], Value.pointer (some ⟨b_, 0, none⟩)), (11, [], Value.pointer f)] (by kernel_rfl) (by kernel_rfl) ?_
      obtain ⟨hp_3, h⟩ := h
      refine reg_conv [(0, [], Value.pointer f), (1, [], Value.int .i64 mark), (4, [], Value.pointer (some ⟨b_, 0, none⟩)), (11, [], Value.pointer (some ⟨(pblk f), (poff f), none⟩))] (congrArg (fun pp => ([(0, [], Value.pointer f), (1, [], Value.int .i64 mark), (4, [], Value.pointer (some ⟨b_, 0, none⟩)), (11, [], Value.pointer pp)] : GEnv)) hp_3) ?_
      refine reg_run [.plain] 2 [(0, [], Value.pointer f), (1, [], Value.int .i64 mark), (4, [], Value.pointer (some ⟨b_, 0, none⟩)), (11, [], Value.pointer (some ⟨(pblk f), (poff f), none⟩)), (12, [], Value.pointer (some ⟨(pblk f), (poff f), none⟩))] (by kernel_rfl) (by kernel_rfl) ?_
      refine reg_run [.plain] 3 [(0, [], Value.pointer f), (1, [], Value.int .i64 mark), (4, [], Value.pointer (some ⟨b_, 0, none⟩)), (13, [], Value.pointer (some ⟨(pblk f), (poff f) + 5, none⟩))] (by kernel_rfl) (by kernel_rfl) ?_
      obtain ⟨v14, hc, h⟩ := h
      refine reg_load1 (t := 4) (a := (Go.Operand.tmp 13)) (b := (pblk f)) (o := ((poff f) + 5)) (ty := 4) (dst := some 14) (by kernel_rfl) (by kernel_rfl) (by kernel_rfl) hc ?_
      refine reg_run [.plain, .plain] 6 [(0, [], Value.pointer f), (1, [], Value.int .i64 mark), (4, [], Value.pointer (some ⟨b_, 0, none⟩)), (10, [], Value.bool (!v14))] (by kernel_rfl) (by kernel_rfl) ?_
      refine reg_end [(0, Value.pointer f), (1, Value.int .i64 mark), (4, Value.pointer (some ⟨b_, 0, none⟩)), (10, Value.bool (!v14))] (by kernel_rfl) (by kernel_rfl) ?_
      change WpE _ _ c_towpathref16_Feed_Dispatch_16 _ _ _
      refine wpE_cond (o := (Operand.tmp 10)) (b := (!v14)) (x := c_towpathref16_Feed_Dispatch_17) (y := c_towpathref16_Feed_Dispatch_21) (by kernel_rfl) (by kernel_rfl) (fun hb => ?_) (fun hb => ?_)
      · replace h := h.1 hb
        refine wpE_seq (x := c_towpathref16_Feed_Dispatch_18) (y := c_towpathref16_Feed_Dispatch_20) (by kernel_rfl) ?_
        refine wpE_region (id := 4) (ops := r_towpathref16_Feed_Dispatch_18) (by kernel_rfl) ?_
        refine reg_run [.plain] 1 [(4, [], Value.pointer (some ⟨b_, 0, none⟩)), (16, [], Value.agg #[Value.int .i64 0, Value.slice none 0 0])] (by kernel_rfl) (by kernel_rfl) ?_
        obtain ⟨hc, h⟩ := h
        refine reg_store (t := 42) (a := (Go.Operand.tmp 4)) (x := (Go.Operand.tmp 16)) (b := b_) (o := 0) (ty := 0) (dst := none) [Value.int .i64 0, Value.slice none 0 0] (by kernel_rfl) (by kernel_rfl) (by kernel_rfl) (k := 2) (by kernel_rfl) (by kernel_rfl) (by kernel_rfl) hc (fun w3 hw => ?_)
        replace h := h w3 hw
        clear hw
        refine reg_run [.plain] 3 [(4, [], Value.pointer (some ⟨b_, 0, none⟩)), (5, [], Value.int .i64 9)] (by kernel_rfl) (by kernel_rfl) ?_
        refine reg_end [(4, Value.pointer (some ⟨b_, 0, none⟩)), (5, Value.int .i64 9)] (by kernel_rfl) (by kernel_rfl) ?_
        change WpE _ _ c_towpathref16_Feed_Dispatch_20 _ _ _
        refine wpE_ret (by kernel_rfl) ?_
        obtain ⟨res1, hc_res1, h⟩ := h
        repeat (first | refine seqQ_ret ?_ | refine blockQ_ret ?_ | refine loopQ_ret ?_ | refine cutQ_ret ?_)
        exact retT (rs := [(Go.ResultVar.cell 4 42), (Go.ResultVar.tmp 5)]) (vs := [Value.agg #[Value.int .i64 res1.Number, Value.slice res1.Writes.ptr res1.Writes.len res1.Writes.cap], Value.int .i64 9]) (by kernel_rfl) (⟨b_, 0, [Value.int .i64 res1.Number, Value.slice res1.Writes.ptr res1.Writes.len res1.Writes.cap], by kernel_rfl, hc_res1, (sizeP_of (k := 2) (by kernel_rfl) (by kernel_rfl)), .inl ⟨by kernel_rfl, rfl⟩, ⟨by kernel_rfl, trivial⟩⟩) (by kernel_rfl) ⟨res1, 9, rfl, h⟩
      · replace h := h.2 hb
        refine wpE_seq_cut (x := c_towpathref16_Feed_Dispatch_22) (y := c_towpathref16_Feed_Dispatch_24) (by kernel_rfl) (fun l w => ∃ (t17 : Bool), l = [(0, Value.pointer f), (4, Value.pointer (some ⟨b_, 0, none⟩)), (17, Value.bool t17)] ∧ F_towpathref16_Feed_Dispatch_k0 f R b_ t17 w) ?_ ?_
        · refine wpE_region (id := 5) (ops := r_towpathref16_Feed_Dispatch_22) (by kernel_rfl) ?_
          refine reg_run [.plain] 1 [(0, [], Value.pointer f), (1, [], Value.int .i64 mark), (4, [], Value.pointer (some ⟨b_, 0, none⟩)), (18, [], Value.pointer f)] (by kernel_rfl) (by kernel_rfl) ?_
          refine reg_enter (op := (Go.Op.call (Go.Call.mk (Go.Callee.value (Go.Operand.func 85)) #[(Go.Operand.tmp 18)] #[27]))) (ty := 4) (dst := some 19) 85 #[Value.pointer f] (by kernel_rfl) (fun ww => by kernel_rfl) (Calls.mono h ?_)
          rintro _ w8 ⟨v19, rfl, h⟩
          refine ⟨_, rfl, ?_⟩
          refine reg_run [.plain, .plain, .plain] 5 [(0, [], Value.pointer f), (4, [], Value.pointer (some ⟨b_, 0, none⟩)), (20, [], Value.bool v19), (21, [(20, false)], Value.pointer f), (22, [(20, false)], Value.int .i64 mark)] (by kernel_rfl) (by kernel_rfl) ?_
          refine reg_split 20 v19 (by kernel_rfl) (fun hb => ?_) (fun hb => ?_)
          · replace h := h.1 hb
            refine reg_run [] 5 [(0, [], Value.pointer f), (4, [], Value.pointer (some ⟨b_, 0, none⟩)), (20, [], Value.bool true), (21, [], undef), (22, [], undef)] (by kernel_rfl) (by kernel_rfl) ?_
            refine reg_run [.skip, .skip, .plain, .plain] 9 [(0, [], Value.pointer f), (4, [], Value.pointer (some ⟨b_, 0, none⟩)), (17, [], Value.bool true)] (by kernel_rfl) (by kernel_rfl) ?_
            refine reg_end [(0, Value.pointer f), (4, Value.pointer (some ⟨b_, 0, none⟩)), (17, Value.bool true)] (by kernel_rfl) (by kernel_rfl) ?_
            exact ⟨[(0, Value.pointer f), (4, Value.pointer (some ⟨b_, 0, none⟩)), (17, Value.bool true)], Sub.mk (by kernel_rfl), true, rfl, h⟩
          · replace h := h.2 hb
            refine reg_run [] 5 [(0, [], Value.pointer f), (4, [], Value.pointer (some ⟨b_, 0, none⟩)), (20, [], Value.bool false), (21, [], Value.pointer f), (22, [], Value.int .i64 mark)] (by kernel_rfl) (by kernel_rfl) ?_
            refine reg_run [] 5 [(0, [], Value.pointer f), (4, [], Value.pointer (some ⟨b_, 0, none⟩)), (20, [], Value.bool false), (21, [], Value.pointer f), (22, [], Value.int .i64 mark)] (by kernel_rfl) (by kernel_rfl) ?_
            refine reg_enter (op := (Go.Op.call (Go.Call.mk (Go.Callee.value (Go.Operand.func 86)) #[(Go.Operand.tmp 21), (Go.Operand.tmp 22)] #[27, 3]))) (ty := 4) (dst := some 23) 86 #[Value.pointer f, Value.int .i64 mark] (by kernel_rfl) (fun ww => by kernel_rfl) (Calls.mono h ?_)
            rintro _ w9 ⟨v23, rfl, h⟩
            refine ⟨_, rfl, ?_⟩
            refine reg_run [.sure, .plain, .plain] 9 [(0, [], Value.pointer f), (4, [], Value.pointer (some ⟨b_, 0, none⟩)), (17, [], Value.bool (!v23))] (by kernel_rfl) (by kernel_rfl) ?_
            refine reg_end [(0, Value.pointer f), (4, Value.pointer (some ⟨b_, 0, none⟩)), (17, Value.bool (!v23))] (by kernel_rfl) (by kernel_rfl) ?_
            exact ⟨[(0, Value.pointer f), (4, Value.pointer (some ⟨b_, 0, none⟩)), (17, Value.bool (!v23))], Sub.mk (by kernel_rfl), (!v23), rfl, h⟩
        · rintro _ w4 ⟨t17, rfl, h⟩
          unfold F_towpathref16_Feed_Dispatch_k0 at h
          refine wpE_cond (o := (Operand.tmp 17)) (b := t17) (x := c_towpathref16_Feed_Dispatch_25) (y := c_towpathref16_Feed_Dispatch_29) (by kernel_rfl) (by kernel_rfl) (fun hb => ?_) (fun hb => ?_)
          · replace h := h.1 hb
            refine wpE_seq (x := c_towpathref16_Feed_Dispatch_26) (y := c_towpathref16_Feed_Dispatch_28) (by kernel_rfl) ?_
            refine wpE_region (id := 6) (ops := r_towpathref16_Feed_Dispatch_26) (by kernel_rfl) ?_
            refine reg_run [.plain] 1 [(4, [], Value.pointer (some ⟨b_, 0, none⟩)), (26, [], Value.agg #[Value.int .i64 0, Value.slice none 0 0])] (by kernel_rfl) (by kernel_rfl) ?_
            obtain ⟨hc, h⟩ := h
            refine reg_store (t := 42) (a := (Go.Operand.tmp 4)) (x := (Go.Operand.tmp 26)) (b := b_) (o := 0) (ty := 0) (dst := none) [Value.int .i64 0, Value.slice none 0 0] (by kernel_rfl) (by kernel_rfl) (by kernel_rfl) (k := 2) (by kernel_rfl) (by kernel_rfl) (by kernel_rfl) hc (fun w5 hw => ?_)
            replace h := h w5 hw
            clear hw
            refine reg_run [.plain] 3 [(4, [], Value.pointer (some ⟨b_, 0, none⟩)), (5, [], Value.int .i64 6)] (by kernel_rfl) (by kernel_rfl) ?_
            refine reg_end [(4, Value.pointer (some ⟨b_, 0, none⟩)), (5, Value.int .i64 6)] (by kernel_rfl) (by kernel_rfl) ?_
            change WpE _ _ c_towpathref16_Feed_Dispatch_28 _ _ _
            refine wpE_ret (by kernel_rfl) ?_
            obtain ⟨res2, hc_res2, h⟩ := h
            repeat (first | refine seqQ_ret ?_ | refine blockQ_ret ?_ | refine loopQ_ret ?_ | refine cutQ_ret ?_)
            exact retT (rs := [(Go.ResultVar.cell 4 42), (Go.ResultVar.tmp 5)]) (vs := [Value.agg #[Value.int .i64 res2.Number, Value.slice res2.Writes.ptr res2.Writes.len res2.Writes.cap], Value.int .i64 6]) (by kernel_rfl) (⟨b_, 0, [Value.int .i64 res2.Number, Value.slice res2.Writes.ptr res2.Writes.len res2.Writes.cap], by kernel_rfl, hc_res2, (sizeP_of (k := 2) (by kernel_rfl) (by kernel_rfl)), .inl ⟨by kernel_rfl, rfl⟩, ⟨by kernel_rfl, trivial⟩⟩) (by kernel_rfl) ⟨res2, 6, rfl, h⟩
          · replace h := h.2 hb
            refine wpE_skip (by kernel_rfl) ?_
            change WpE _ _ c_towpathref16_Feed_Dispatch_30 _ _ _
            refine wpE_seq (x := c_towpathref16_Feed_Dispatch_31) (y := c_towpathref16_Feed_Dispatch_33) (by kernel_rfl) ?_
            refine wpE_region (id := 7) (ops := r_towpathref16_Feed_Dispatch_31) (by kernel_rfl) ?_
            refine reg_run [.plain] 1 [(0, [], Value.pointer f), (4, [], Value.pointer (some ⟨b_, 0, none⟩)), (27, [], Value.pointer f)] (by kernel_rfl) (by kernel_rfl) ?_
            obtain ⟨hp_5, h⟩ := h
            refine reg_conv [(0, [], Value.pointer f), (4, [], Value.pointer (some ⟨b_, 0, none⟩)), (27, [], Value.pointer (some ⟨(pblk f), (poff f), none⟩))] (congrArg (fun pp => ([(0, [], Value.pointer f), (4, [], Value.pointer (some ⟨b_, 0, none⟩)), (27, [], Value.pointer pp)] : GEnv)) hp_5) ?_
            refine reg_run [.plain] 2 [(0, [], Value.pointer f), (4, [], Value.pointer (some ⟨b_, 0, none⟩)), (27, [], Value.pointer (some ⟨(pblk f), (poff f), none⟩)), (28, [], Value.pointer (some ⟨(pblk f), (poff f), none⟩))] (by kernel_rfl) (by kernel_rfl) ?_
            refine reg_run [.plain] 3 [(0, [], Value.pointer f), (4, [], Value.pointer (some ⟨b_, 0, none⟩)), (29, [], Value.pointer (some ⟨(pblk f), (poff f) + 5, none⟩))] (by kernel_rfl) (by kernel_rfl) ?_
            obtain ⟨hc, h⟩ := h
            refine reg_store (t := 4) (a := (Go.Operand.tmp 29)) (x := (Go.Operand.const (Go.Value.bool false))) (b := (pblk f)) (o := ((poff f) + 5)) (ty := 0) (dst := none) [Value.bool false] (by kernel_rfl) (by kernel_rfl) (by kernel_rfl) (k := 1) (by kernel_rfl) (by kernel_rfl) (by kernel_rfl) hc (fun w6 hw => ?_)
            replace h := h w6 hw
            clear hw
            refine reg_end [(0, Value.pointer f), (4, Value.pointer (some ⟨b_, 0, none⟩))] (by kernel_rfl) (by kernel_rfl) ?_
            change WpE _ _ c_towpathref16_Feed_Dispatch_33 _ _ _
            refine wpE_seq (x := c_towpathref16_Feed_Dispatch_34) (y := c_towpathref16_Feed_Dispatch_36) (by kernel_rfl) ?_
            refine wpE_region (id := 8) (ops := r_towpathref16_Feed_Dispatch_34) (by kernel_rfl) ?_
            refine reg_run [.plain] 1 [(4, [], Value.pointer (some ⟨b_, 0, none⟩)), (30, [], Value.pointer f)] (by kernel_rfl) (by kernel_rfl) ?_
            obtain ⟨hp_6, h⟩ := h
            refine reg_conv [(4, [], Value.pointer (some ⟨b_, 0, none⟩)), (30, [], Value.pointer (some ⟨(pblk f), (poff f), none⟩))] (congrArg (fun pp => ([(4, [], Value.pointer (some ⟨b_, 0, none⟩)), (30, [], Value.pointer pp)] : GEnv)) hp_6) ?_
            refine reg_run [.plain] 2 [(4, [], Value.pointer (some ⟨b_, 0, none⟩)), (30, [], Value.pointer (some ⟨(pblk f), (poff f), none⟩)), (31, [], Value.pointer (some ⟨(pblk f), (poff f), none⟩))] (by kernel_rfl) (by kernel_rfl) ?_
            refine reg_run [.plain] 3 [(4, [], Value.pointer (some ⟨b_, 0, none⟩)), (32, [], Value.pointer (some ⟨(pblk f), (poff f) + 6, none⟩))] (by kernel_rfl) (by kernel_rfl) ?_
            obtain ⟨v33, hc, h⟩ := h
            refine reg_loadN (t := 42) (a := (Go.Operand.tmp 32)) (b := (pblk f)) (o := ((poff f) + 6)) (ty := 42) (dst := some 33) [Value.int .i64 v33.Number, Value.slice v33.Writes.ptr v33.Writes.len v33.Writes.cap] (by kernel_rfl) (by kernel_rfl) (by kernel_rfl) (k := 2) (by kernel_rfl) (by kernel_rfl) hc ?_
            refine reg_run [] 4 [(4, [], Value.pointer (some ⟨b_, 0, none⟩)), (33, [], Value.agg #[Value.int .i64 v33.Number, Value.slice v33.Writes.ptr v33.Writes.len v33.Writes.cap])] (by kernel_rfl) (by kernel_rfl) ?_
            obtain ⟨hc, h⟩ := h
            refine reg_store (t := 42) (a := (Go.Operand.tmp 4)) (x := (Go.Operand.tmp 33)) (b := b_) (o := 0) (ty := 0) (dst := none) [Value.int .i64 v33.Number, Value.slice v33.Writes.ptr v33.Writes.len v33.Writes.cap] (by kernel_rfl) (by kernel_rfl) (by kernel_rfl) (k := 2) (by kernel_rfl) (by kernel_rfl) (by kernel_rfl) hc (fun w7 hw => ?_)
            replace h := h w7 hw
            clear hw
            refine reg_run [.plain] 6 [(4, [], Value.pointer (some ⟨b_, 0, none⟩)), (5, [], Value.int .i64 0)] (by kernel_rfl) (by kernel_rfl) ?_
            refine reg_end [(4, Value.pointer (some ⟨b_, 0, none⟩)), (5, Value.int .i64 0)] (by kernel_rfl) (by kernel_rfl) ?_
            change WpE _ _ c_towpathref16_Feed_Dispatch_36 _ _ _
            refine wpE_ret (by kernel_rfl) ?_
            obtain ⟨res3, hc_res3, h⟩ := h
            repeat (first | refine seqQ_ret ?_ | refine blockQ_ret ?_ | refine loopQ_ret ?_ | refine cutQ_ret ?_)
            exact retT (rs := [(Go.ResultVar.cell 4 42), (Go.ResultVar.tmp 5)]) (vs := [Value.agg #[Value.int .i64 res3.Number, Value.slice res3.Writes.ptr res3.Writes.len res3.Writes.cap], Value.int .i64 0]) (by kernel_rfl) (⟨b_, 0, [Value.int .i64 res3.Number, Value.slice res3.Writes.ptr res3.Writes.len res3.Writes.cap], by kernel_rfl, hc_res3, (sizeP_of (k := 2) (by kernel_rfl) (by kernel_rfl)), .inl ⟨by kernel_rfl, rfl⟩, ⟨by kernel_rfl, trivial⟩⟩) (by kernel_rfl) ⟨res3, 0, rfl, h⟩
  · rintro e w' ⟨v, rfl, r0, r1, rfl, h⟩; exact ⟨r0, r1, rfl, h⟩

/-! ### (*towpath/towpathref16.Feed).Close (function 58) -/
noncomputable def c_towpathref16_Feed_Close_0 : Code := (Try.f58.body).getD Code.skip
noncomputable def c_towpathref16_Feed_Close_1 : Code := Code.l c_towpathref16_Feed_Close_0
noncomputable def r_towpathref16_Feed_Close_1 : Array Oper := Code.ops c_towpathref16_Feed_Close_1
noncomputable def c_towpathref16_Feed_Close_3 : Code := Code.r c_towpathref16_Feed_Close_0
noncomputable def c_towpathref16_Feed_Close_4 : Code := Code.l c_towpathref16_Feed_Close_3
noncomputable def r_towpathref16_Feed_Close_4 : Array Oper := Code.ops c_towpathref16_Feed_Close_4
noncomputable def c_towpathref16_Feed_Close_6 : Code := Code.r c_towpathref16_Feed_Close_3

set_option maxRecDepth 100000 in
set_option maxHeartbeats 4000000 in
theorem S_towpathref16_Feed_Close {f : Option Addr} {w : World} {R : World → Prop} (h : F_towpathref16_Feed_Close f R w) : C_towpathref16_Feed_Close f w R := by
  unfold F_towpathref16_Feed_Close at h
  unfold C_towpathref16_Feed_Close
  refine Calls.mono (calls_of_wpE (args := [Value.pointer f]) (R := fun v w' => v = Value.tuple #[] ∧ R w') Try.func58 (c := c_towpathref16_Feed_Close_0) (by kernel_rfl) 7 (by kernel_rfl) (by kernel_rfl) [(0, Value.pointer f)] (by kernel_rfl) ?_) ?_
  · refine wpE_seq (x := c_towpathref16_Feed_Close_1) (y := c_towpathref16_Feed_Close_3) (by kernel_rfl) ?_
    refine wpE_region (id := 0) (ops := r_towpathref16_Feed_Close_1) (by kernel_rfl) ?_
    refine reg_run [.plain] 1 [(0, [], Value.pointer f), (2, [], Value.pointer f)] (by kernel_rfl) (by kernel_rfl) ?_
    refine reg_val (op := (Go.Op.binOp Go.BinOp.neq 27 (Go.Operand.tmp 2) (Go.Operand.const (Go.Value.pointer none)) 27)) (ty := 4) (dst := some 3) (Value.bool (!f.isNone)) (by kernel_rfl) (fun ww => run_ptr_neq_R (p := f) (by kernel_rfl) (by kernel_rfl) (by kernel_rfl) ww) ?_
    refine reg_end [(0, Value.pointer f), (3, Value.bool (!f.isNone))] (by kernel_rfl) (by kernel_rfl) ?_
    change WpE _ _ c_towpathref16_Feed_Close_3 _ _ _
    refine wpE_cond (o := (Operand.tmp 3)) (b := (!f.isNone)) (x := c_towpathref16_Feed_Close_4) (y := c_towpathref16_Feed_Close_6) (by kernel_rfl) (by kernel_rfl) (fun hb => ?_) (fun hb => ?_)
    · replace h := h.1 hb
      refine wpE_region (id := 1) (ops := r_towpathref16_Feed_Close_4) (by kernel_rfl) ?_
      refine reg_run [.plain] 1 [(4, [], Value.pointer f)] (by kernel_rfl) (by kernel_rfl) ?_
      obtain ⟨hp_0, h⟩ := h
      refine reg_conv [(4, [], Value.pointer (some ⟨(pblk f), (poff f), none⟩))] (congrArg (fun pp => ([(4, [], Value.pointer pp)] : GEnv)) hp_0) ?_
      refine reg_run [.plain] 2 [(4, [], Value.pointer (some ⟨(pblk f), (poff f), none⟩)), (5, [], Value.pointer (some ⟨(pblk f), (poff f), none⟩))] (by kernel_rfl) (by kernel_rfl) ?_
      refine reg_run [.plain] 3 [(6, [], Value.pointer (some ⟨(pblk f), (poff f) + 8, none⟩))] (by kernel_rfl) (by kernel_rfl) ?_
      obtain ⟨hc, h⟩ := h
      refine reg_store (t := 4) (a := (Go.Operand.tmp 6)) (x := (Go.Operand.const (Go.Value.bool true))) (b := (pblk f)) (o := ((poff f) + 8)) (ty := 0) (dst := none) [Value.bool true] (by kernel_rfl) (by kernel_rfl) (by kernel_rfl) (k := 1) (by kernel_rfl) (by kernel_rfl) (by kernel_rfl) hc (fun w1 hw => ?_)
      replace h := h w1 hw
      clear hw
      refine reg_end [] (by kernel_rfl) (by kernel_rfl) ?_
      repeat (first | refine seqQ_exit ?_ | refine loopQ_exit ?_ | refine cutQ_exit ?_ | refine blockQ_hit ?_ | refine blockQ_miss (by kernel_rfl) ?_)
      refine retQ_normal ?_
      repeat (first | refine seqQ_ret ?_ | refine blockQ_ret ?_ | refine loopQ_ret ?_ | refine cutQ_ret ?_)
      exact retT (rs := []) (vs := []) (by kernel_rfl) (trivial) (by kernel_rfl) ⟨rfl, h⟩
    · replace h := h.2 hb
      refine wpE_skip (by kernel_rfl) ?_
      repeat (first | refine seqQ_exit ?_ | refine loopQ_exit ?_ | refine cutQ_exit ?_ | refine blockQ_hit ?_ | refine blockQ_miss (by kernel_rfl) ?_)
      refine retQ_normal ?_
      repeat (first | refine seqQ_ret ?_ | refine blockQ_ret ?_ | refine loopQ_ret ?_ | refine cutQ_ret ?_)
      exact retT (rs := []) (vs := []) (by kernel_rfl) (trivial) (by kernel_rfl) ⟨rfl, h⟩
  · rintro e w' ⟨v, rfl, rfl, h⟩; exact ⟨rfl, h⟩

/-! ### (*towpath/towpathref16.Feed).there (function 85) -/
noncomputable def c_towpathref16_Feed_there_0 : Code := (Try.f85.body).getD Code.skip
noncomputable def c_towpathref16_Feed_there_1 : Code := Code.l c_towpathref16_Feed_there_0
noncomputable def r_towpathref16_Feed_there_1 : Array Oper := Code.ops c_towpathref16_Feed_there_1
noncomputable def c_towpathref16_Feed_there_3 : Code := Code.r c_towpathref16_Feed_there_0
noncomputable def c_towpathref16_Feed_there_4 : Code := Code.l c_towpathref16_Feed_there_3
noncomputable def c_towpathref16_Feed_there_5 : Code := Code.l c_towpathref16_Feed_there_4
noncomputable def r_towpathref16_Feed_there_5 : Array Oper := Code.ops c_towpathref16_Feed_there_5
noncomputable def c_towpathref16_Feed_there_7 : Code := Code.r c_towpathref16_Feed_there_4
noncomputable def c_towpathref16_Feed_there_8 : Code := Code.l c_towpathref16_Feed_there_7
noncomputable def c_towpathref16_Feed_there_9 : Code := Code.l c_towpathref16_Feed_there_8
noncomputable def c_towpathref16_Feed_there_10 : Code := Code.l c_towpathref16_Feed_there_9
noncomputable def c_towpathref16_Feed_there_11 : Code := Code.l c_towpathref16_Feed_there_10
noncomputable def r_towpathref16_Feed_there_11 : Array Oper := Code.ops c_towpathref16_Feed_there_11
noncomputable def c_towpathref16_Feed_there_13 : Code := Code.r c_towpathref16_Feed_there_10
noncomputable def c_towpathref16_Feed_there_14 : Code := Code.l c_towpathref16_Feed_there_13
noncomputable def c_towpathref16_Feed_there_15 : Code := Code.r c_towpathref16_Feed_there_13
noncomputable def c_towpathref16_Feed_there_16 : Code := Code.r c_towpathref16_Feed_there_9
noncomputable def c_towpathref16_Feed_there_17 : Code := Code.l c_towpathref16_Feed_there_16
noncomputable def c_towpathref16_Feed_there_18 : Code := Code.l c_towpathref16_Feed_there_17
noncomputable def c_towpathref16_Feed_there_19 : Code := Code.l c_towpathref16_Feed_there_18
noncomputable def r_towpathref16_Feed_there_19 : Array Oper := Code.ops c_towpathref16_Feed_there_19
noncomputable def c_towpathref16_Feed_there_21 : Code := Code.r c_towpathref16_Feed_there_18
noncomputable def c_towpathref16_Feed_there_22 : Code := Code.l c_towpathref16_Feed_there_21
noncomputable def c_towpathref16_Feed_there_23 : Code := Code.l c_towpathref16_Feed_there_22
noncomputable def r_towpathref16_Feed_there_23 : Array Oper := Code.ops c_towpathref16_Feed_there_23
noncomputable def c_towpathref16_Feed_there_25 : Code := Code.r c_towpathref16_Feed_there_22
noncomputable def c_towpathref16_Feed_there_26 : Code := Code.r c_towpathref16_Feed_there_21
noncomputable def c_towpathref16_Feed_there_27 : Code := Code.r c_towpathref16_Feed_there_16
noncomputable def r_towpathref16_Feed_there_27 : Array Oper := Code.ops c_towpathref16_Feed_there_27
noncomputable def c_towpathref16_Feed_there_29 : Code := Code.r c_towpathref16_Feed_there_3
noncomputable def c_towpathref16_Feed_there_30 : Code := Code.l c_towpathref16_Feed_there_29
noncomputable def r_towpathref16_Feed_there_30 : Array Oper := Code.ops c_towpathref16_Feed_there_30
noncomputable def c_towpathref16_Feed_there_32 : Code := Code.r c_towpathref16_Feed_there_29

set_option maxRecDepth 100000 in
set_option maxHeartbeats 4000000 in
theorem S_towpathref16_Feed_there {f : Option Addr} {w : World} {R : Bool → World → Prop} (h : F_towpathref16_Feed_there f R w) : C_towpathref16_Feed_there f w R := by
  unfold F_towpathref16_Feed_there at h
  unfold C_towpathref16_Feed_there
  refine Calls.mono (calls_of_wpE (args := [Value.pointer f]) (R := fun v w' => ∃ (r0 : Bool), v = Value.bool r0 ∧ R r0 w') Try.func85 (c := c_towpathref16_Feed_there_0) (by kernel_rfl) 26 (by kernel_rfl) (by kernel_rfl) [(0, Value.pointer f)] (by kernel_rfl) ?_) ?_
  · refine wpE_seq (x := c_towpathref16_Feed_there_1) (y := c_towpathref16_Feed_there_3) (by kernel_rfl) ?_
    refine wpE_region (id := 0) (ops := r_towpathref16_Feed_there_1) (by kernel_rfl) ?_
    refine reg_run [.plain] 1 [(0, [], Value.pointer f)] (by kernel_rfl) (by kernel_rfl) ?_
    refine reg_end [(0, Value.pointer f)] (by kernel_rfl) (by kernel_rfl) ?_
    change WpE _ _ c_towpathref16_Feed_there_3 _ _ _
    refine wpE_seq (x := c_towpathref16_Feed_there_4) (y := c_towpathref16_Feed_there_29) (by kernel_rfl) ?_
    refine wpE_seq (x := c_towpathref16_Feed_there_5) (y := c_towpathref16_Feed_there_7) (by kernel_rfl) ?_
    refine wpE_region (id := 1) (ops := r_towpathref16_Feed_there_5) (by kernel_rfl) ?_
    refine reg_run [.plain] 1 [(0, [], Value.pointer f), (3, [], Value.int .i64 0)] (by kernel_rfl) (by kernel_rfl) ?_
    refine reg_end [(0, Value.pointer f), (3, Value.int .i64 0)] (by kernel_rfl) (by kernel_rfl) ?_
    change WpE _ _ c_towpathref16_Feed_there_7 _ _ _
    refine wpE_block (id := 0) (x := c_towpathref16_Feed_there_8) (by kernel_rfl) ?_
    obtain ⟨I, μ, h0, hr⟩ := h
    refine wpE_loop (x := c_towpathref16_Feed_there_9) (by kernel_rfl) (fun m l w => ∃ (i : Int), l = [(0, Value.pointer f), (3, Value.int .i64 i)] ∧ I i w ∧ μ i w = m) (l' := [(0, Value.pointer f), (3, Value.int .i64 0)]) (Sub.mk (by kernel_rfl)) ⟨0, rfl, h0, rfl⟩ ?_
    rintro _ _ w1 ⟨i, rfl, hI, rfl⟩
    obtain ⟨again_, again__h, h⟩ : ∃ again_ : Int → World → Prop, (∀ i' w', again_ i' w' → I i' w' ∧ μ i' w' < μ i w1) ∧ F_towpathref16_Feed_there_L0 f R again_ i w1 := ⟨_, fun _ _ h => h, hr i w1 hI⟩
    clear h0 hI
    unfold F_towpathref16_Feed_there_L0 at h
    refine wpE_seq (x := c_towpathref16_Feed_there_10) (y := c_towpathref16_Feed_there_16) (by kernel_rfl) ?_
    refine wpE_seq (x := c_towpathref16_Feed_there_11) (y := c_towpathref16_Feed_there_13) (by kernel_rfl) ?_
    refine wpE_region (id := 2) (ops := r_towpathref16_Feed_there_11) (by kernel_rfl) ?_
    refine reg_run [.plain, .plain] 2 [(0, [], Value.pointer f), (3, [], Value.int .i64 i), (4, [], Value.int .i64 i), (5, [], Value.pointer f)] (by kernel_rfl) (by kernel_rfl) ?_
    obtain ⟨hp_19, h⟩ := h
    refine reg_conv [(0, [], Value.pointer f), (3, [], Value.int .i64 i), (4, [], Value.int .i64 i), (5, [], Value.pointer (some ⟨(pblk f), (poff f), none⟩))] (congrArg (fun pp => ([(0, [], Value.pointer f), (3, [], Value.int .i64 i), (4, [], Value.int .i64 i), (5, [], Value.pointer pp)] : GEnv)) hp_19) ?_
    refine reg_run [.plain] 3 [(0, [], Value.pointer f), (3, [], Value.int .i64 i), (4, [], Value.int .i64 i), (5, [], Value.pointer (some ⟨(pblk f), (poff f), none⟩)), (6, [], Value.pointer (some ⟨(pblk f), (poff f), none⟩))] (by kernel_rfl) (by kernel_rfl) ?_
    refine reg_run [.plain] 4 [(0, [], Value.pointer f), (3, [], Value.int .i64 i), (4, [], Value.int .i64 i), (7, [], Value.pointer (some ⟨(pblk f), (poff f) + 2, none⟩))] (by kernel_rfl) (by kernel_rfl) ?_
    obtain ⟨v8, hc, h⟩ := h
    refine reg_load1 (t := 23) (a := (Go.Operand.tmp 7)) (b := (pblk f)) (o := ((poff f) + 2)) (ty := 23) (dst := some 8) (by kernel_rfl) (by kernel_rfl) (by kernel_rfl) hc ?_
    refine reg_run [.plain, .plain] 7 [(0, [], Value.pointer f), (3, [], Value.int .i64 i), (10, [], Value.bool (decide (i < ((v8.len : Nat) : Int))))] (by kernel_rfl) (by kernel_rfl) ?_
    refine reg_end [(0, Value.pointer f), (3, Value.int .i64 i), (10, Value.bool (decide (i < ((v8.len : Nat) : Int))))] (by kernel_rfl) (by kernel_rfl) ?_
    change WpE _ _ c_towpathref16_Feed_there_13 _ _ _
    refine wpE_cond (o := (Operand.tmp 10)) (b := (decide (i < ((v8.len : Nat) : Int)))) (x := c_towpathref16_Feed_there_14) (y := c_towpathref16_Feed_there_15) (by kernel_rfl) (by kernel_rfl) (fun hb => ?_) (fun hb => ?_)
    · replace h := h.1 hb
      refine wpE_skip (by kernel_rfl) ?_
      change WpE _ _ c_towpathref16_Feed_there_16 _ _ _
      refine wpE_seq (x := c_towpathref16_Feed_there_17) (y := c_towpathref16_Feed_there_27) (by kernel_rfl) ?_
      refine wpE_block (id := 1) (x := c_towpathref16_Feed_there_18) (by kernel_rfl) ?_
      refine wpE_seq (x := c_towpathref16_Feed_there_19) (y := c_towpathref16_Feed_there_21) (by kernel_rfl) ?_
      refine wpE_drawregion (id := 4) (ops := r_towpathref16_Feed_there_19) (by kernel_rfl) (by kernel_rfl) (by kernel_rfl) ?_
      refine qreg_run [.plain] 1 [(0, [], Value.pointer f), (3, [], Value.int .i64 i), (13, [], Value.pointer f)] (by kernel_rfl) (by kernel_rfl) ?_
      obtain ⟨hp_29, h⟩ := h
      refine qreg_conv [(0, [], Value.pointer f), (3, [], Value.int .i64 i), (13, [], Value.pointer (some ⟨(pblk f), (poff f), none⟩))] (congrArg (fun pp => ([(0, [], Value.pointer f), (3, [], Value.int .i64 i), (13, [], Value.pointer pp)] : GEnv)) hp_29) ?_
      refine qreg_run [.plain] 2 [(0, [], Value.pointer f), (3, [], Value.int .i64 i), (13, [], Value.pointer (some ⟨(pblk f), (poff f), none⟩)), (14, [], Value.pointer (some ⟨(pblk f), (poff f), none⟩))] (by kernel_rfl) (by kernel_rfl) ?_
      refine qreg_run [.plain] 3 [(0, [], Value.pointer f), (3, [], Value.int .i64 i), (15, [], Value.pointer (some ⟨(pblk f), (poff f) + 2, none⟩))] (by kernel_rfl) (by kernel_rfl) ?_
      obtain ⟨v16, hc, h⟩ := h
      refine qreg_load1 (t := 23) (a := (Go.Operand.tmp 15)) (b := (pblk f)) (o := ((poff f) + 2)) (ty := 23) (dst := some 16) (by kernel_rfl) (by kernel_rfl) (by kernel_rfl) hc ?_
      refine qreg_run [.plain] 5 [(0, [], Value.pointer f), (3, [], Value.int .i64 i), (16, [], Value.slice v16.ptr v16.len v16.cap), (17, [], Value.int .i64 i)] (by kernel_rfl) (by kernel_rfl) ?_
      obtain ⟨hp_30, h⟩ := h
      refine qreg_conv [(0, [], Value.pointer f), (3, [], Value.int .i64 i), (16, [], Value.slice (some ⟨(pblk v16.ptr), (poff v16.ptr), none⟩) v16.len v16.cap), (17, [], Value.int .i64 i)] (congrArg (fun pp => ([(0, [], Value.pointer f), (3, [], Value.int .i64 i), (16, [], Value.slice pp v16.len v16.cap), (17, [], Value.int .i64 i)] : GEnv)) hp_30) ?_
      obtain ⟨h0, h1, h⟩ := h
      refine qreg_indexS1 (t := 23) (e := 3) (x := (Go.Operand.tmp 16)) (ix := (Go.Operand.tmp 17)) (b := (pblk v16.ptr)) (o := (poff v16.ptr)) (l := v16.len) (c := v16.cap) (k := .i64) (j := i) (ty := 0) (dst := some 18) (by kernel_rfl) (by kernel_rfl) (by kernel_rfl) (by kernel_rfl) (by kernel_rfl) h0 h1 ?_
      refine qreg_run [] 6 [(0, [], Value.pointer f), (3, [], Value.int .i64 i), (18, [], Value.pointer (some ⟨(pblk v16.ptr), (poff v16.ptr) + i.toNat, none⟩))] (by kernel_rfl) (by kernel_rfl) ?_
      obtain ⟨v19, hc, h⟩ := h
      refine qreg_load1 (t := 3) (a := (Go.Operand.tmp 18)) (b := (pblk v16.ptr)) (o := ((poff v16.ptr) + i.toNat)) (ty := 3) (dst := some 19) (by kernel_rfl) (by kernel_rfl) (by kernel_rfl) hc ?_
      refine qreg_run [.plain] 8 [(0, [], Value.pointer f), (3, [], Value.int .i64 i), (19, [], Value.int .i64 v19), (20, [], Value.pointer f)] (by kernel_rfl) (by kernel_rfl) ?_
      obtain ⟨hp_31, h⟩ := h
      refine qreg_conv [(0, [], Value.pointer f), (3, [], Value.int .i64 i), (19, [], Value.int .i64 v19), (20, [], Value.pointer (some ⟨(pblk f), (poff f), none⟩))] (congrArg (fun pp => ([(0, [], Value.pointer f), (3, [], Value.int .i64 i), (19, [], Value.int .i64 v19), (20, [], Value.pointer pp)] : GEnv)) hp_31) ?_
      refine qreg_run [.plain] 9 [(0, [], Value.pointer f), (3, [], Value.int .i64 i), (19, [], Value.int .i64 v19), (20, [], Value.pointer (some ⟨(pblk f), (poff f), none⟩)), (21, [], Value.pointer (some ⟨(pblk f), (poff f), none⟩))] (by kernel_rfl) (by kernel_rfl) ?_
      refine qreg_run [.plain, .plain] 11 [(0, [], Value.pointer f), (3, [], Value.int .i64 i), (19, [], Value.int .i64 v19), (23, [], Value.pointer (some ⟨(pblk f), (poff f) + 6, none⟩))] (by kernel_rfl) (by kernel_rfl) ?_
      obtain ⟨v24, hc, h⟩ := h
      refine qreg_load1 (t := 3) (a := (Go.Operand.tmp 23)) (b := (pblk f)) (o := ((poff f) + 6)) (ty := 3) (dst := some 24) (by kernel_rfl) (by kernel_rfl) (by kernel_rfl) hc ?_
      refine qreg_run [.plain] 13 [(0, [], Value.pointer f), (3, [], Value.int .i64 i), (25, [], Value.bool (v19 == v24))] (by kernel_rfl) (by kernel_rfl) ?_
      refine qreg_end [(0, Value.pointer f), (3, Value.int .i64 i), (25, Value.bool (v19 == v24))] (by kernel_rfl) (by kernel_rfl) (fun w2 hw => ?_)
      replace h := h w2 hw
      clear hw
      change WpE _ _ c_towpathref16_Feed_there_21 _ _ _
      refine wpE_cond (o := (Operand.tmp 25)) (b := (v19 == v24)) (x := c_towpathref16_Feed_there_22) (y := c_towpathref16_Feed_there_26) (by kernel_rfl) (by kernel_rfl) (fun hb => ?_) (fun hb => ?_)
      · replace h := h.1 hb
        refine wpE_seq (x := c_towpathref16_Feed_there_23) (y := c_towpathref16_Feed_there_25) (by kernel_rfl) ?_
        refine wpE_region (id := 5) (ops := r_towpathref16_Feed_there_23) (by kernel_rfl) ?_
        refine reg_run [.plain] 1 [(2, [], Value.bool true)] (by kernel_rfl) (by kernel_rfl) ?_
        refine reg_end [(2, Value.bool true)] (by kernel_rfl) (by kernel_rfl) ?_
        change WpE _ _ c_towpathref16_Feed_there_25 _ _ _
        refine wpE_ret (by kernel_rfl) ?_
        repeat (first | refine seqQ_ret ?_ | refine blockQ_ret ?_ | refine loopQ_ret ?_ | refine cutQ_ret ?_)
        exact retS (rs := [(Go.ResultVar.tmp 2)]) (v := Value.bool true) (by kernel_rfl) (⟨by kernel_rfl, trivial⟩) ⟨true, rfl, h⟩
      · replace h := h.2 hb
        refine wpE_skip (by kernel_rfl) ?_
        change WpE _ _ c_towpathref16_Feed_there_27 _ _ _
        refine wpE_region (id := 3) (ops := r_towpathref16_Feed_there_27) (by kernel_rfl) ?_
        refine reg_run [.plain, .plain, .plain] 3 [(0, [], Value.pointer f), (3, [], Value.int .i64 (IntKind.i64.wrap (i + 1)))] (by kernel_rfl) (by kernel_rfl) ?_
        refine reg_end [(0, Value.pointer f), (3, Value.int .i64 (IntKind.i64.wrap (i + 1)))] (by kernel_rfl) (by kernel_rfl) ?_
        have hb_ := again__h _ _ h
        exact ⟨_, hb_.2, [(0, Value.pointer f), (3, Value.int .i64 (IntKind.i64.wrap (i + 1)))], Sub.mk (by kernel_rfl), (IntKind.i64.wrap (i + 1)), rfl, hb_.1, rfl⟩
    · replace h := h.2 hb
      refine wpE_exit (id := 0) (by kernel_rfl) ?_
      change WpE _ _ c_towpathref16_Feed_there_29 _ _ _
      refine wpE_seq (x := c_towpathref16_Feed_there_30) (y := c_towpathref16_Feed_there_32) (by kernel_rfl) ?_
      refine wpE_region (id := 6) (ops := r_towpathref16_Feed_there_30) (by kernel_rfl) ?_
      refine reg_run [.plain] 1 [(2, [], Value.bool false)] (by kernel_rfl) (by kernel_rfl) ?_
      refine reg_end [(2, Value.bool false)] (by kernel_rfl) (by kernel_rfl) ?_
      change WpE _ _ c_towpathref16_Feed_there_32 _ _ _
      refine wpE_ret (by kernel_rfl) ?_
      repeat (first | refine seqQ_ret ?_ | refine blockQ_ret ?_ | refine loopQ_ret ?_ | refine cutQ_ret ?_)
      exact retS (rs := [(Go.ResultVar.tmp 2)]) (v := Value.bool false) (by kernel_rfl) (⟨by kernel_rfl, trivial⟩) ⟨false, rfl, h⟩
  · rintro e w' ⟨v, rfl, r0, rfl, h⟩; exact ⟨r0, rfl, h⟩

/-! ### (*towpath/towpathref16.Feed).near (function 86) -/
noncomputable def c_towpathref16_Feed_near_0 : Code := (Try.f86.body).getD Code.skip
noncomputable def c_towpathref16_Feed_near_1 : Code := Code.l c_towpathref16_Feed_near_0
noncomputable def r_towpathref16_Feed_near_1 : Array Oper := Code.ops c_towpathref16_Feed_near_1
noncomputable def c_towpathref16_Feed_near_3 : Code := Code.r c_towpathref16_Feed_near_0
noncomputable def c_towpathref16_Feed_near_4 : Code := Code.l c_towpathref16_Feed_near_3
noncomputable def r_towpathref16_Feed_near_4 : Array Oper := Code.ops c_towpathref16_Feed_near_4
noncomputable def c_towpathref16_Feed_near_6 : Code := Code.r c_towpathref16_Feed_near_3

set_option maxRecDepth 100000 in
set_option maxHeartbeats 4000000 in
theorem S_towpathref16_Feed_near {f : Option Addr} {mark : Int} {w : World} {R : Bool → World → Prop} (h : F_towpathref16_Feed_near f mark R w) : C_towpathref16_Feed_near f mark w R := by
  unfold F_towpathref16_Feed_near at h
  unfold C_towpathref16_Feed_near
  refine Calls.mono (calls_of_wpE (args := [Value.pointer f, Value.int .i64 mark]) (R := fun v w' => ∃ (r0 : Bool), v = Value.bool r0 ∧ R r0 w') Try.func86 (c := c_towpathref16_Feed_near_0) (by kernel_rfl) 17 (by kernel_rfl) (by kernel_rfl) [(0, Value.pointer f), (1, Value.int .i64 mark)] (by kernel_rfl) ?_) ?_
  · refine wpE_seq (x := c_towpathref16_Feed_near_1) (y := c_towpathref16_Feed_near_3) (by kernel_rfl) ?_
    refine wpE_region (id := 0) (ops := r_towpathref16_Feed_near_1) (by kernel_rfl) ?_
    refine reg_run [.plain] 1 [(0, [], Value.pointer f), (1, [], Value.int .i64 mark)] (by kernel_rfl) (by kernel_rfl) ?_
    refine reg_end [(0, Value.pointer f), (1, Value.int .i64 mark)] (by kernel_rfl) (by kernel_rfl) ?_
    change WpE _ _ c_towpathref16_Feed_near_3 _ _ _
    refine wpE_seq (x := c_towpathref16_Feed_near_4) (y := c_towpathref16_Feed_near_6) (by kernel_rfl) ?_
    refine wpE_drawregion (id := 1) (ops := r_towpathref16_Feed_near_4) (by kernel_rfl) (by kernel_rfl) (by kernel_rfl) ?_
    refine qreg_run [.plain, .plain] 2 [(0, [], Value.pointer f), (5, [], Value.int .i64 mark), (6, [], Value.pointer f)] (by kernel_rfl) (by kernel_rfl) ?_
    obtain ⟨hp_0, h⟩ := h
    refine qreg_conv [(0, [], Value.pointer f), (5, [], Value.int .i64 mark), (6, [], Value.pointer (some ⟨(pblk f), (poff f), none⟩))] (congrArg (fun pp => ([(0, [], Value.pointer f), (5, [], Value.int .i64 mark), (6, [], Value.pointer pp)] : GEnv)) hp_0) ?_
    refine qreg_run [.plain] 3 [(0, [], Value.pointer f), (5, [], Value.int .i64 mark), (6, [], Value.pointer (some ⟨(pblk f), (poff f), none⟩)), (7, [], Value.pointer (some ⟨(pblk f), (poff f), none⟩))] (by kernel_rfl) (by kernel_rfl) ?_
    refine qreg_run [.plain, .plain] 5 [(0, [], Value.pointer f), (5, [], Value.int .i64 mark), (9, [], Value.pointer (some ⟨(pblk f), (poff f) + 6, none⟩))] (by kernel_rfl) (by kernel_rfl) ?_
    obtain ⟨v10, hc, h⟩ := h
    refine qreg_load1 (t := 3) (a := (Go.Operand.tmp 9)) (b := (pblk f)) (o := ((poff f) + 6)) (ty := 3) (dst := some 10) (by kernel_rfl) (by kernel_rfl) (by kernel_rfl) hc ?_
    refine qreg_run [.plain] 7 [(5, [], Value.int .i64 mark), (10, [], Value.int .i64 v10), (11, [], Value.pointer f)] (by kernel_rfl) (by kernel_rfl) ?_
    obtain ⟨hp_1, h⟩ := h
    refine qreg_conv [(5, [], Value.int .i64 mark), (10, [], Value.int .i64 v10), (11, [], Value.pointer (some ⟨(pblk f), (poff f), none⟩))] (congrArg (fun pp => ([(5, [], Value.int .i64 mark), (10, [], Value.int .i64 v10), (11, [], Value.pointer pp)] : GEnv)) hp_1) ?_
    refine qreg_run [.plain] 8 [(5, [], Value.int .i64 mark), (10, [], Value.int .i64 v10), (11, [], Value.pointer (some ⟨(pblk f), (poff f), none⟩)), (12, [], Value.pointer (some ⟨(pblk f), (poff f), none⟩))] (by kernel_rfl) (by kernel_rfl) ?_
    refine qreg_run [.plain] 9 [(5, [], Value.int .i64 mark), (10, [], Value.int .i64 v10), (13, [], Value.pointer (some ⟨(pblk f), (poff f) + 4, none⟩))] (by kernel_rfl) (by kernel_rfl) ?_
    obtain ⟨v14, hc, h⟩ := h
    refine qreg_load1 (t := 3) (a := (Go.Operand.tmp 13)) (b := (pblk f)) (o := ((poff f) + 4)) (ty := 3) (dst := some 14) (by kernel_rfl) (by kernel_rfl) (by kernel_rfl) hc ?_
    refine qreg_run [.plain, .plain, .plain] 13 [(4, [], Value.bool (decide (mark ≥ (IntKind.i64.wrap (v10 - v14)))))] (by kernel_rfl) (by kernel_rfl) ?_
    refine qreg_end [(4, Value.bool (decide (mark ≥ (IntKind.i64.wrap (v10 - v14)))))] (by kernel_rfl) (by kernel_rfl) (fun w1 hw => ?_)
    replace h := h w1 hw
    clear hw
    change WpE _ _ c_towpathref16_Feed_near_6 _ _ _
    refine wpE_ret (by kernel_rfl) ?_
    repeat (first | refine seqQ_ret ?_ | refine blockQ_ret ?_ | refine loopQ_ret ?_ | refine cutQ_ret ?_)
    exact retS (rs := [(Go.ResultVar.tmp 4)]) (v := Value.bool (decide (mark ≥ (IntKind.i64.wrap (v10 - v14))))) (by kernel_rfl) (⟨by kernel_rfl, trivial⟩) ⟨(decide (mark ≥ (IntKind.i64.wrap (v10 - v14)))), rfl, h⟩
  · rintro e w' ⟨v, rfl, r0, rfl, h⟩; exact ⟨r0, rfl, h⟩
end Go.Proofs.Ytpedclhflmhakaa
