/- WRITTEN BY PROGRAM (dec.py): for each Go function the clean formula F, the call's contract C, and the proof S that F gives C. -/
import Derived.Test.YtckmganidgbpgaaGreatDoorRows
import Derived.Test.YtckmganidgbpgaaGreatDoorGF
namespace Go.Proofs.YtckmganidgbpgaaGreatDoor
open Go
set_option linter.unusedVariables false

/-! ### towpath/towpathref04.New (function 6) -/
noncomputable def c_towpathref04_New_0 : Code := (Tryz.f6.body).getD Code.skip
noncomputable def c_towpathref04_New_1 : Code := Code.l c_towpathref04_New_0
noncomputable def r_towpathref04_New_1 : Array Oper := Code.ops c_towpathref04_New_1
noncomputable def c_towpathref04_New_3 : Code := Code.r c_towpathref04_New_0
noncomputable def c_towpathref04_New_4 : Code := Code.l c_towpathref04_New_3
noncomputable def c_towpathref04_New_5 : Code := Code.l c_towpathref04_New_4
noncomputable def r_towpathref04_New_5 : Array Oper := Code.ops c_towpathref04_New_5
noncomputable def c_towpathref04_New_7 : Code := Code.r c_towpathref04_New_4
noncomputable def c_towpathref04_New_8 : Code := Code.l c_towpathref04_New_7
noncomputable def c_towpathref04_New_9 : Code := Code.l c_towpathref04_New_8
noncomputable def r_towpathref04_New_9 : Array Oper := Code.ops c_towpathref04_New_9
noncomputable def c_towpathref04_New_11 : Code := Code.r c_towpathref04_New_8
noncomputable def c_towpathref04_New_12 : Code := Code.r c_towpathref04_New_7
noncomputable def c_towpathref04_New_13 : Code := Code.r c_towpathref04_New_3
noncomputable def c_towpathref04_New_14 : Code := Code.l c_towpathref04_New_13
noncomputable def r_towpathref04_New_14 : Array Oper := Code.ops c_towpathref04_New_14
noncomputable def c_towpathref04_New_16 : Code := Code.r c_towpathref04_New_13

set_option maxRecDepth 100000 in
set_option maxHeartbeats 4000000 in
theorem S_towpathref04_New {capacity : Int} {w : World} {R : Option Addr → Int → World → Prop} (h : F_towpathref04_New capacity R w) : C_towpathref04_New capacity w R := by
  unfold F_towpathref04_New at h
  unfold C_towpathref04_New
  refine Calls.mono (calls_of_wpE (args := [Value.int .i64 capacity]) (R := fun v w' => ∃ (r0 : Option Addr) (r1 : Int), v = Value.tuple #[Value.pointer r0, Value.int .i64 r1] ∧ R r0 r1 w') Tryz.func6 (c := c_towpathref04_New_0) (by kernel_rfl) 13 (by kernel_rfl) (by kernel_rfl) [(0, Value.int .i64 capacity)] (by kernel_rfl) ?_) ?_
  · refine wpE_seq (x := c_towpathref04_New_1) (y := c_towpathref04_New_3) (by kernel_rfl) ?_
    refine wpE_region (id := 0) (ops := r_towpathref04_New_1) (by kernel_rfl) ?_
    refine reg_run [.plain, .plain] 2 [(0, [], Value.int .i64 capacity)] (by kernel_rfl) (by kernel_rfl) ?_
    refine reg_end [(0, Value.int .i64 capacity)] (by kernel_rfl) (by kernel_rfl) ?_
    change WpE _ _ c_towpathref04_New_3 _ _ _
    refine wpE_seq (x := c_towpathref04_New_4) (y := c_towpathref04_New_13) (by kernel_rfl) ?_
    refine wpE_seq (x := c_towpathref04_New_5) (y := c_towpathref04_New_7) (by kernel_rfl) ?_
    refine wpE_region (id := 1) (ops := r_towpathref04_New_5) (by kernel_rfl) ?_
    refine reg_run [.plain, .plain, .plain, .plain, .plain, .pick] 6 [(0, [], Value.int .i64 capacity), (9, [], Value.bool ((decide (capacity < 0)) || (decide (capacity > 16777216))))] (by kernel_rfl) (by kernel_rfl) ?_
    refine reg_end [(0, Value.int .i64 capacity), (9, Value.bool ((decide (capacity < 0)) || (decide (capacity > 16777216))))] (by kernel_rfl) (by kernel_rfl) ?_
    change WpE _ _ c_towpathref04_New_7 _ _ _
    refine wpE_cond (o := (Operand.tmp 9)) (b := ((decide (capacity < 0)) || (decide (capacity > 16777216)))) (x := c_towpathref04_New_8) (y := c_towpathref04_New_12) (by kernel_rfl) (by kernel_rfl) (fun hb => ?_) (fun hb => ?_)
    · replace h := h.1 hb
      refine wpE_seq (x := c_towpathref04_New_9) (y := c_towpathref04_New_11) (by kernel_rfl) ?_
      refine wpE_region (id := 2) (ops := r_towpathref04_New_9) (by kernel_rfl) ?_
      refine reg_run [.plain, .plain] 2 [(2, [], Value.pointer none), (3, [], Value.int .i64 1)] (by kernel_rfl) (by kernel_rfl) ?_
      refine reg_end [(2, Value.pointer none), (3, Value.int .i64 1)] (by kernel_rfl) (by kernel_rfl) ?_
      change WpE _ _ c_towpathref04_New_11 _ _ _
      refine wpE_ret (by kernel_rfl) ?_
      repeat (first | refine seqQ_ret ?_ | refine blockQ_ret ?_ | refine loopQ_ret ?_ | refine cutQ_ret ?_)
      exact retT (rs := [(Go.ResultVar.tmp 2), (Go.ResultVar.tmp 3)]) (vs := [Value.pointer none, Value.int .i64 1]) (by kernel_rfl) (⟨by kernel_rfl, ⟨by kernel_rfl, trivial⟩⟩) (by kernel_rfl) ⟨none, 1, rfl, h⟩
    · replace h := h.2 hb
      refine wpE_skip (by kernel_rfl) ?_
      change WpE _ _ c_towpathref04_New_13 _ _ _
      refine wpE_seq (x := c_towpathref04_New_14) (y := c_towpathref04_New_16) (by kernel_rfl) ?_
      refine wpE_region (id := 3) (ops := r_towpathref04_New_14) (by kernel_rfl) ?_
      refine reg_run [.plain, .plain] 2 [(11, [], Value.agg #[Value.int .i64 capacity, Value.slice none 0 0, Value.slice none 0 0, Value.int .i64 (-1), Value.bool false, Value.int .i64 0])] (by kernel_rfl) (by kernel_rfl) ?_
      refine reg_new (op := (Go.Op.box 58 (Go.Operand.tmp 11))) (ty := 28) (dst := some 12) (fun bb => Value.pointer (some ⟨bb, 0, none⟩)) (Obj.cells ([Value.int .i64 capacity, Value.slice none 0 0, Value.slice none 0 0, Value.int .i64 (-1), Value.bool false, Value.int .i64 0]).toArray ty_towpathref04_Disk (0, 0)) (by kernel_rfl) (by kernel_rfl) (fun b_ w1 hb hw => ?_)
      replace h := h b_ w1 hb hw
      clear hb hw
      refine reg_run [.plain, .plain] 5 [(2, [], Value.pointer (some ⟨b_, 0, none⟩)), (3, [], Value.int .i64 0)] (by kernel_rfl) (by kernel_rfl) ?_
      refine reg_end [(2, Value.pointer (some ⟨b_, 0, none⟩)), (3, Value.int .i64 0)] (by kernel_rfl) (by kernel_rfl) ?_
      change WpE _ _ c_towpathref04_New_16 _ _ _
      refine wpE_ret (by kernel_rfl) ?_
      repeat (first | refine seqQ_ret ?_ | refine blockQ_ret ?_ | refine loopQ_ret ?_ | refine cutQ_ret ?_)
      exact retT (rs := [(Go.ResultVar.tmp 2), (Go.ResultVar.tmp 3)]) (vs := [Value.pointer (some ⟨b_, 0, none⟩), Value.int .i64 0]) (by kernel_rfl) (⟨by kernel_rfl, ⟨by kernel_rfl, trivial⟩⟩) (by kernel_rfl) ⟨(some ⟨b_, 0, none⟩), 0, rfl, h⟩
  · rintro e w' ⟨v, rfl, r0, r1, rfl, h⟩; exact ⟨r0, r1, rfl, h⟩

/-! ### (*towpath/towpathref04.Disk).Write (function 13) -/
noncomputable def c_towpathref04_Disk_Write_0 : Code := (Tryz.f13.body).getD Code.skip
noncomputable def c_towpathref04_Disk_Write_1 : Code := Code.l c_towpathref04_Disk_Write_0
noncomputable def r_towpathref04_Disk_Write_1 : Array Oper := Code.ops c_towpathref04_Disk_Write_1
noncomputable def c_towpathref04_Disk_Write_3 : Code := Code.r c_towpathref04_Disk_Write_0
noncomputable def c_towpathref04_Disk_Write_4 : Code := Code.l c_towpathref04_Disk_Write_3
noncomputable def c_towpathref04_Disk_Write_5 : Code := Code.l c_towpathref04_Disk_Write_4
noncomputable def r_towpathref04_Disk_Write_5 : Array Oper := Code.ops c_towpathref04_Disk_Write_5
noncomputable def c_towpathref04_Disk_Write_7 : Code := Code.r c_towpathref04_Disk_Write_4
noncomputable def c_towpathref04_Disk_Write_8 : Code := Code.l c_towpathref04_Disk_Write_7
noncomputable def c_towpathref04_Disk_Write_9 : Code := Code.l c_towpathref04_Disk_Write_8
noncomputable def r_towpathref04_Disk_Write_9 : Array Oper := Code.ops c_towpathref04_Disk_Write_9
noncomputable def c_towpathref04_Disk_Write_11 : Code := Code.r c_towpathref04_Disk_Write_8
noncomputable def c_towpathref04_Disk_Write_12 : Code := Code.r c_towpathref04_Disk_Write_7
noncomputable def c_towpathref04_Disk_Write_13 : Code := Code.r c_towpathref04_Disk_Write_3
noncomputable def c_towpathref04_Disk_Write_14 : Code := Code.l c_towpathref04_Disk_Write_13
noncomputable def c_towpathref04_Disk_Write_15 : Code := Code.l c_towpathref04_Disk_Write_14
noncomputable def r_towpathref04_Disk_Write_15 : Array Oper := Code.ops c_towpathref04_Disk_Write_15
noncomputable def c_towpathref04_Disk_Write_17 : Code := Code.r c_towpathref04_Disk_Write_14
noncomputable def c_towpathref04_Disk_Write_18 : Code := Code.l c_towpathref04_Disk_Write_17
noncomputable def c_towpathref04_Disk_Write_19 : Code := Code.l c_towpathref04_Disk_Write_18
noncomputable def r_towpathref04_Disk_Write_19 : Array Oper := Code.ops c_towpathref04_Disk_Write_19
noncomputable def c_towpathref04_Disk_Write_21 : Code := Code.r c_towpathref04_Disk_Write_18
noncomputable def c_towpathref04_Disk_Write_22 : Code := Code.r c_towpathref04_Disk_Write_17
noncomputable def c_towpathref04_Disk_Write_23 : Code := Code.r c_towpathref04_Disk_Write_13
noncomputable def c_towpathref04_Disk_Write_24 : Code := Code.l c_towpathref04_Disk_Write_23
noncomputable def r_towpathref04_Disk_Write_24 : Array Oper := Code.ops c_towpathref04_Disk_Write_24
noncomputable def c_towpathref04_Disk_Write_26 : Code := Code.r c_towpathref04_Disk_Write_23
noncomputable def c_towpathref04_Disk_Write_27 : Code := Code.l c_towpathref04_Disk_Write_26
noncomputable def c_towpathref04_Disk_Write_28 : Code := Code.l c_towpathref04_Disk_Write_27
noncomputable def r_towpathref04_Disk_Write_28 : Array Oper := Code.ops c_towpathref04_Disk_Write_28
noncomputable def c_towpathref04_Disk_Write_30 : Code := Code.r c_towpathref04_Disk_Write_27
noncomputable def c_towpathref04_Disk_Write_31 : Code := Code.l c_towpathref04_Disk_Write_30
noncomputable def c_towpathref04_Disk_Write_32 : Code := Code.l c_towpathref04_Disk_Write_31
noncomputable def r_towpathref04_Disk_Write_32 : Array Oper := Code.ops c_towpathref04_Disk_Write_32
noncomputable def c_towpathref04_Disk_Write_34 : Code := Code.r c_towpathref04_Disk_Write_31
noncomputable def c_towpathref04_Disk_Write_35 : Code := Code.r c_towpathref04_Disk_Write_30
noncomputable def c_towpathref04_Disk_Write_36 : Code := Code.r c_towpathref04_Disk_Write_26
noncomputable def c_towpathref04_Disk_Write_37 : Code := Code.l c_towpathref04_Disk_Write_36
noncomputable def c_towpathref04_Disk_Write_38 : Code := Code.l c_towpathref04_Disk_Write_37
noncomputable def r_towpathref04_Disk_Write_38 : Array Oper := Code.ops c_towpathref04_Disk_Write_38
noncomputable def c_towpathref04_Disk_Write_40 : Code := Code.r c_towpathref04_Disk_Write_37
noncomputable def c_towpathref04_Disk_Write_41 : Code := Code.l c_towpathref04_Disk_Write_40
noncomputable def c_towpathref04_Disk_Write_42 : Code := Code.l c_towpathref04_Disk_Write_41
noncomputable def r_towpathref04_Disk_Write_42 : Array Oper := Code.ops c_towpathref04_Disk_Write_42
noncomputable def c_towpathref04_Disk_Write_44 : Code := Code.r c_towpathref04_Disk_Write_41
noncomputable def c_towpathref04_Disk_Write_45 : Code := Code.r c_towpathref04_Disk_Write_40
noncomputable def c_towpathref04_Disk_Write_46 : Code := Code.r c_towpathref04_Disk_Write_36
noncomputable def c_towpathref04_Disk_Write_47 : Code := Code.l c_towpathref04_Disk_Write_46
noncomputable def r_towpathref04_Disk_Write_47 : Array Oper := Code.ops c_towpathref04_Disk_Write_47
noncomputable def c_towpathref04_Disk_Write_49 : Code := Code.r c_towpathref04_Disk_Write_46
noncomputable def c_towpathref04_Disk_Write_50 : Code := Code.l c_towpathref04_Disk_Write_49
noncomputable def c_towpathref04_Disk_Write_51 : Code := Code.l c_towpathref04_Disk_Write_50
noncomputable def r_towpathref04_Disk_Write_51 : Array Oper := Code.ops c_towpathref04_Disk_Write_51
noncomputable def c_towpathref04_Disk_Write_53 : Code := Code.r c_towpathref04_Disk_Write_50
noncomputable def c_towpathref04_Disk_Write_54 : Code := Code.l c_towpathref04_Disk_Write_53
noncomputable def c_towpathref04_Disk_Write_55 : Code := Code.l c_towpathref04_Disk_Write_54
noncomputable def r_towpathref04_Disk_Write_55 : Array Oper := Code.ops c_towpathref04_Disk_Write_55
noncomputable def c_towpathref04_Disk_Write_57 : Code := Code.r c_towpathref04_Disk_Write_54
noncomputable def c_towpathref04_Disk_Write_58 : Code := Code.r c_towpathref04_Disk_Write_53
noncomputable def c_towpathref04_Disk_Write_59 : Code := Code.r c_towpathref04_Disk_Write_49
noncomputable def c_towpathref04_Disk_Write_60 : Code := Code.l c_towpathref04_Disk_Write_59
noncomputable def r_towpathref04_Disk_Write_60 : Array Oper := Code.ops c_towpathref04_Disk_Write_60
noncomputable def c_towpathref04_Disk_Write_62 : Code := Code.r c_towpathref04_Disk_Write_59
noncomputable def c_towpathref04_Disk_Write_63 : Code := Code.l c_towpathref04_Disk_Write_62
noncomputable def r_towpathref04_Disk_Write_63 : Array Oper := Code.ops c_towpathref04_Disk_Write_63
noncomputable def c_towpathref04_Disk_Write_65 : Code := Code.r c_towpathref04_Disk_Write_62
noncomputable def c_towpathref04_Disk_Write_66 : Code := Code.l c_towpathref04_Disk_Write_65
noncomputable def r_towpathref04_Disk_Write_66 : Array Oper := Code.ops c_towpathref04_Disk_Write_66
noncomputable def c_towpathref04_Disk_Write_68 : Code := Code.r c_towpathref04_Disk_Write_65
noncomputable def c_towpathref04_Disk_Write_69 : Code := Code.l c_towpathref04_Disk_Write_68
noncomputable def c_towpathref04_Disk_Write_70 : Code := Code.l c_towpathref04_Disk_Write_69
noncomputable def r_towpathref04_Disk_Write_70 : Array Oper := Code.ops c_towpathref04_Disk_Write_70
noncomputable def c_towpathref04_Disk_Write_72 : Code := Code.r c_towpathref04_Disk_Write_69
noncomputable def c_towpathref04_Disk_Write_73 : Code := Code.l c_towpathref04_Disk_Write_72
noncomputable def r_towpathref04_Disk_Write_73 : Array Oper := Code.ops c_towpathref04_Disk_Write_73
noncomputable def c_towpathref04_Disk_Write_75 : Code := Code.r c_towpathref04_Disk_Write_72
noncomputable def c_towpathref04_Disk_Write_76 : Code := Code.r c_towpathref04_Disk_Write_68
noncomputable def c_towpathref04_Disk_Write_77 : Code := Code.l c_towpathref04_Disk_Write_76
noncomputable def r_towpathref04_Disk_Write_77 : Array Oper := Code.ops c_towpathref04_Disk_Write_77
noncomputable def c_towpathref04_Disk_Write_79 : Code := Code.r c_towpathref04_Disk_Write_76
noncomputable def c_towpathref04_Disk_Write_80 : Code := Code.l c_towpathref04_Disk_Write_79
noncomputable def r_towpathref04_Disk_Write_80 : Array Oper := Code.ops c_towpathref04_Disk_Write_80
noncomputable def c_towpathref04_Disk_Write_82 : Code := Code.r c_towpathref04_Disk_Write_79

set_option maxRecDepth 100000 in
set_option maxHeartbeats 4000000 in
theorem S_towpathref04_Disk_Write {d : Option Addr} {slot : Int} {at_ : Int} {b_ : Slc} {w : World} {R : Int → World → Prop} (h : F_towpathref04_Disk_Write d slot at_ b_ R w) : C_towpathref04_Disk_Write d slot at_ b_ w R := by
  unfold F_towpathref04_Disk_Write at h
  unfold C_towpathref04_Disk_Write
  refine Calls.mono (calls_of_wpE (args := [Value.pointer d, Value.int .i64 slot, Value.int .i64 at_, Value.slice b_.ptr b_.len b_.cap]) (R := fun v w' => ∃ (r0 : Int), v = Value.int .i64 r0 ∧ R r0 w') Tryz.func13 (c := c_towpathref04_Disk_Write_0) (by kernel_rfl) 82 (by kernel_rfl) (by kernel_rfl) [(0, Value.pointer d), (1, Value.int .i64 slot), (2, Value.int .i64 at_), (3, Value.slice b_.ptr b_.len b_.cap)] (by kernel_rfl) ?_) ?_
  · refine wpE_seq (x := c_towpathref04_Disk_Write_1) (y := c_towpathref04_Disk_Write_3) (by kernel_rfl) ?_
    refine wpE_region (id := 0) (ops := r_towpathref04_Disk_Write_1) (by kernel_rfl) ?_
    refine reg_run [.plain] 1 [(0, [], Value.pointer d), (1, [], Value.int .i64 slot), (2, [], Value.int .i64 at_), (3, [], Value.slice b_.ptr b_.len b_.cap)] (by kernel_rfl) (by kernel_rfl) ?_
    refine reg_end [(0, Value.pointer d), (1, Value.int .i64 slot), (2, Value.int .i64 at_), (3, Value.slice b_.ptr b_.len b_.cap)] (by kernel_rfl) (by kernel_rfl) ?_
    change WpE _ _ c_towpathref04_Disk_Write_3 _ _ _
    refine wpE_seq (x := c_towpathref04_Disk_Write_4) (y := c_towpathref04_Disk_Write_13) (by kernel_rfl) ?_
    refine wpE_seq (x := c_towpathref04_Disk_Write_5) (y := c_towpathref04_Disk_Write_7) (by kernel_rfl) ?_
    refine wpE_region (id := 1) (ops := r_towpathref04_Disk_Write_5) (by kernel_rfl) ?_
    refine reg_run [.plain] 1 [(0, [], Value.pointer d), (1, [], Value.int .i64 slot), (2, [], Value.int .i64 at_), (3, [], Value.slice b_.ptr b_.len b_.cap), (12, [], Value.pointer d)] (by kernel_rfl) (by kernel_rfl) ?_
    refine reg_val (op := (Go.Op.binOp Go.BinOp.eql 28 (Go.Operand.tmp 12) (Go.Operand.const (Go.Value.pointer none)) 28)) (ty := 4) (dst := some 13) (Value.bool d.isNone) (by kernel_rfl) (fun ww => run_ptr_eql_R (p := d) (by kernel_rfl) (by kernel_rfl) (by kernel_rfl) ww) ?_
    refine reg_end [(0, Value.pointer d), (1, Value.int .i64 slot), (2, Value.int .i64 at_), (3, Value.slice b_.ptr b_.len b_.cap), (13, Value.bool d.isNone)] (by kernel_rfl) (by kernel_rfl) ?_
    change WpE _ _ c_towpathref04_Disk_Write_7 _ _ _
    refine wpE_cond (o := (Operand.tmp 13)) (b := d.isNone) (x := c_towpathref04_Disk_Write_8) (y := c_towpathref04_Disk_Write_12) (by kernel_rfl) (by kernel_rfl) (fun hb => ?_) (fun hb => ?_)
    · replace h := h.1 hb
      refine wpE_seq (x := c_towpathref04_Disk_Write_9) (y := c_towpathref04_Disk_Write_11) (by kernel_rfl) ?_
      refine wpE_region (id := 2) (ops := r_towpathref04_Disk_Write_9) (by kernel_rfl) ?_
      refine reg_run [.plain] 1 [(8, [], Value.int .i64 2)] (by kernel_rfl) (by kernel_rfl) ?_
      refine reg_end [(8, Value.int .i64 2)] (by kernel_rfl) (by kernel_rfl) ?_
      change WpE _ _ c_towpathref04_Disk_Write_11 _ _ _
      refine wpE_ret (by kernel_rfl) ?_
      repeat (first | refine seqQ_ret ?_ | refine blockQ_ret ?_ | refine loopQ_ret ?_ | refine cutQ_ret ?_)
      exact retS (rs := [(Go.ResultVar.tmp 8)]) (v := Value.int .i64 2) (by kernel_rfl) (⟨by kernel_rfl, trivial⟩) ⟨2, rfl, h⟩
    · replace h := h.2 hb
      refine wpE_skip (by kernel_rfl) ?_
      change WpE _ _ c_towpathref04_Disk_Write_13 _ _ _
      refine wpE_seq (x := c_towpathref04_Disk_Write_14) (y := c_towpathref04_Disk_Write_23) (by kernel_rfl) ?_
      refine wpE_seq (x := c_towpathref04_Disk_Write_15) (y := c_towpathref04_Disk_Write_17) (by kernel_rfl) ?_
      refine wpE_region (id := 3) (ops := r_towpathref04_Disk_Write_15) (by kernel_rfl) ?_
      refine reg_run [.plain, .plain, .plain, .plain, .plain, .pick, .plain, .plain, .plain, .pick, .plain, .plain, .plain, .plain, .pick] 15 [(0, [], Value.pointer d), (1, [], Value.int .i64 slot), (2, [], Value.int .i64 at_), (3, [], Value.slice b_.ptr b_.len b_.cap), (28, [], Value.bool ((((slot != 0) && (slot != 1)) || (decide (at_ < 0))) || (decide (((b_.len : Nat) : Int) > 64))))] (by kernel_rfl) (by kernel_rfl) ?_
      refine reg_end [(0, Value.pointer d), (1, Value.int .i64 slot), (2, Value.int .i64 at_), (3, Value.slice b_.ptr b_.len b_.cap), (28, Value.bool ((((slot != 0) && (slot != 1)) || (decide (at_ < 0))) || (decide (((b_.len : Nat) : Int) > 64))))] (by kernel_rfl) (by kernel_rfl) ?_
      change WpE _ _ c_towpathref04_Disk_Write_17 _ _ _
      refine wpE_cond (o := (Operand.tmp 28)) (b := ((((slot != 0) && (slot != 1)) || (decide (at_ < 0))) || (decide (((b_.len : Nat) : Int) > 64)))) (x := c_towpathref04_Disk_Write_18) (y := c_towpathref04_Disk_Write_22) (by kernel_rfl) (by kernel_rfl) (fun hb => ?_) (fun hb => ?_)
      · replace h := h.1 hb
        refine wpE_seq (x := c_towpathref04_Disk_Write_19) (y := c_towpathref04_Disk_Write_21) (by kernel_rfl) ?_
        refine wpE_region (id := 4) (ops := r_towpathref04_Disk_Write_19) (by kernel_rfl) ?_
        refine reg_run [.plain] 1 [(8, [], Value.int .i64 1)] (by kernel_rfl) (by kernel_rfl) ?_
        refine reg_end [(8, Value.int .i64 1)] (by kernel_rfl) (by kernel_rfl) ?_
        change WpE _ _ c_towpathref04_Disk_Write_21 _ _ _
        refine wpE_ret (by kernel_rfl) ?_
        repeat (first | refine seqQ_ret ?_ | refine blockQ_ret ?_ | refine loopQ_ret ?_ | refine cutQ_ret ?_)
        exact retS (rs := [(Go.ResultVar.tmp 8)]) (v := Value.int .i64 1) (by kernel_rfl) (⟨by kernel_rfl, trivial⟩) ⟨1, rfl, h⟩
      · replace h := h.2 hb
        refine wpE_skip (by kernel_rfl) ?_
        change WpE _ _ c_towpathref04_Disk_Write_23 _ _ _
        refine wpE_seq (x := c_towpathref04_Disk_Write_24) (y := c_towpathref04_Disk_Write_26) (by kernel_rfl) ?_
        refine wpE_region (id := 5) (ops := r_towpathref04_Disk_Write_24) (by kernel_rfl) ?_
        refine reg_run [.plain, .plain] 2 [(0, [], Value.pointer d), (1, [], Value.int .i64 slot), (2, [], Value.int .i64 at_), (3, [], Value.slice b_.ptr b_.len b_.cap), (29, [], Value.pointer d), (30, [], Value.int .i64 slot)] (by kernel_rfl) (by kernel_rfl) ?_
        obtain ⟨hp_1, h⟩ := h
        refine reg_conv [(0, [], Value.pointer d), (1, [], Value.int .i64 slot), (2, [], Value.int .i64 at_), (3, [], Value.slice b_.ptr b_.len b_.cap), (29, [], Value.pointer (some ⟨(pblk d), (poff d), none⟩)), (30, [], Value.int .i64 slot)] (congrArg (fun pp => ([(0, [], Value.pointer d), (1, [], Value.int .i64 slot), (2, [], Value.int .i64 at_), (3, [], Value.slice b_.ptr b_.len b_.cap), (29, [], Value.pointer pp), (30, [], Value.int .i64 slot)] : GEnv)) hp_1) ?_
        refine reg_run [.plain] 3 [(0, [], Value.pointer d), (1, [], Value.int .i64 slot), (2, [], Value.int .i64 at_), (3, [], Value.slice b_.ptr b_.len b_.cap), (29, [], Value.pointer (some ⟨(pblk d), (poff d), none⟩)), (30, [], Value.int .i64 slot), (31, [], Value.pointer (some ⟨(pblk d), (poff d), none⟩))] (by kernel_rfl) (by kernel_rfl) ?_
        refine reg_run [.plain] 4 [(0, [], Value.pointer d), (1, [], Value.int .i64 slot), (2, [], Value.int .i64 at_), (3, [], Value.slice b_.ptr b_.len b_.cap), (30, [], Value.int .i64 slot), (32, [], Value.pointer (some ⟨(pblk d), (poff d) + 1, none⟩))] (by kernel_rfl) (by kernel_rfl) ?_
        obtain ⟨h0, h1, h⟩ := h
        refine reg_indexA1 (t := 54) (e := 45) (x := (Go.Operand.tmp 32)) (ix := (Go.Operand.tmp 30)) (b := (pblk d)) (o := ((poff d) + 1)) (len := 2) (k := .i64) (j := slot) (ty := 0) (dst := some 33) (by kernel_rfl) (by kernel_rfl) (by kernel_rfl) (by kernel_rfl) (by kernel_rfl) h0 h1 ?_
        refine reg_run [] 5 [(0, [], Value.pointer d), (1, [], Value.int .i64 slot), (2, [], Value.int .i64 at_), (3, [], Value.slice b_.ptr b_.len b_.cap), (33, [], Value.pointer (some ⟨(pblk d), ((poff d) + 1) + slot.toNat, none⟩))] (by kernel_rfl) (by kernel_rfl) ?_
        obtain ⟨old, hc, h⟩ := h
        refine reg_load1 (t := 45) (a := (Go.Operand.tmp 33)) (b := (pblk d)) (o := (((poff d) + 1) + slot.toNat)) (ty := 45) (dst := some 34) (by kernel_rfl) (by kernel_rfl) (by kernel_rfl) hc ?_
        refine reg_run [.plain] 7 [(0, [], Value.pointer d), (1, [], Value.int .i64 slot), (2, [], Value.int .i64 at_), (3, [], Value.slice b_.ptr b_.len b_.cap), (9, [], Value.slice old.ptr old.len old.cap)] (by kernel_rfl) (by kernel_rfl) ?_
        refine reg_end [(0, Value.pointer d), (1, Value.int .i64 slot), (2, Value.int .i64 at_), (3, Value.slice b_.ptr b_.len b_.cap), (9, Value.slice old.ptr old.len old.cap)] (by kernel_rfl) (by kernel_rfl) ?_
        change WpE _ _ c_towpathref04_Disk_Write_26 _ _ _
        refine wpE_seq (x := c_towpathref04_Disk_Write_27) (y := c_towpathref04_Disk_Write_36) (by kernel_rfl) ?_
        refine wpE_seq (x := c_towpathref04_Disk_Write_28) (y := c_towpathref04_Disk_Write_30) (by kernel_rfl) ?_
        refine wpE_region (id := 6) (ops := r_towpathref04_Disk_Write_28) (by kernel_rfl) ?_
        refine reg_run [.plain, .plain, .plain, .plain] 4 [(0, [], Value.pointer d), (1, [], Value.int .i64 slot), (2, [], Value.int .i64 at_), (3, [], Value.slice b_.ptr b_.len b_.cap), (9, [], Value.slice old.ptr old.len old.cap), (38, [], Value.bool (decide (at_ > ((old.len : Nat) : Int))))] (by kernel_rfl) (by kernel_rfl) ?_
        refine reg_end [(0, Value.pointer d), (1, Value.int .i64 slot), (2, Value.int .i64 at_), (3, Value.slice b_.ptr b_.len b_.cap), (9, Value.slice old.ptr old.len old.cap), (38, Value.bool (decide (at_ > ((old.len : Nat) : Int))))] (by kernel_rfl) (by kernel_rfl) ?_
        change WpE _ _ c_towpathref04_Disk_Write_30 _ _ _
        refine wpE_cond (o := (Operand.tmp 38)) (b := (decide (at_ > ((old.len : Nat) : Int)))) (x := c_towpathref04_Disk_Write_31) (y := c_towpathref04_Disk_Write_35) (by kernel_rfl) (by kernel_rfl) (fun hb => ?_) (fun hb => ?_)
        · replace h := h.1 hb
          refine wpE_seq (x := c_towpathref04_Disk_Write_32) (y := c_towpathref04_Disk_Write_34) (by kernel_rfl) ?_
          refine wpE_region (id := 7) (ops := r_towpathref04_Disk_Write_32) (by kernel_rfl) ?_
          refine reg_run [.plain] 1 [(8, [], Value.int .i64 6)] (by kernel_rfl) (by kernel_rfl) ?_
          refine reg_end [(8, Value.int .i64 6)] (by kernel_rfl) (by kernel_rfl) ?_
          change WpE _ _ c_towpathref04_Disk_Write_34 _ _ _
          refine wpE_ret (by kernel_rfl) ?_
          repeat (first | refine seqQ_ret ?_ | refine blockQ_ret ?_ | refine loopQ_ret ?_ | refine cutQ_ret ?_)
          exact retS (rs := [(Go.ResultVar.tmp 8)]) (v := Value.int .i64 6) (by kernel_rfl) (⟨by kernel_rfl, trivial⟩) ⟨6, rfl, h⟩
        · replace h := h.2 hb
          refine wpE_skip (by kernel_rfl) ?_
          change WpE _ _ c_towpathref04_Disk_Write_36 _ _ _
          refine wpE_seq (x := c_towpathref04_Disk_Write_37) (y := c_towpathref04_Disk_Write_46) (by kernel_rfl) ?_
          refine wpE_seq (x := c_towpathref04_Disk_Write_38) (y := c_towpathref04_Disk_Write_40) (by kernel_rfl) ?_
          refine wpE_region (id := 8) (ops := r_towpathref04_Disk_Write_38) (by kernel_rfl) ?_
          refine reg_run [.plain, .plain, .plain, .plain, .plain] 5 [(0, [], Value.pointer d), (1, [], Value.int .i64 slot), (2, [], Value.int .i64 at_), (3, [], Value.slice b_.ptr b_.len b_.cap), (9, [], Value.slice old.ptr old.len old.cap), (42, [], Value.int .i64 (IntKind.i64.wrap (at_ + ((b_.len : Nat) : Int)))), (43, [], Value.pointer d)] (by kernel_rfl) (by kernel_rfl) ?_
          obtain ⟨hp_5, h⟩ := h
          refine reg_conv [(0, [], Value.pointer d), (1, [], Value.int .i64 slot), (2, [], Value.int .i64 at_), (3, [], Value.slice b_.ptr b_.len b_.cap), (9, [], Value.slice old.ptr old.len old.cap), (42, [], Value.int .i64 (IntKind.i64.wrap (at_ + ((b_.len : Nat) : Int)))), (43, [], Value.pointer (some ⟨(pblk d), (poff d), none⟩))] (congrArg (fun pp => ([(0, [], Value.pointer d), (1, [], Value.int .i64 slot), (2, [], Value.int .i64 at_), (3, [], Value.slice b_.ptr b_.len b_.cap), (9, [], Value.slice old.ptr old.len old.cap), (42, [], Value.int .i64 (IntKind.i64.wrap (at_ + ((b_.len : Nat) : Int)))), (43, [], Value.pointer pp)] : GEnv)) hp_5) ?_
          refine reg_run [.plain] 6 [(0, [], Value.pointer d), (1, [], Value.int .i64 slot), (2, [], Value.int .i64 at_), (3, [], Value.slice b_.ptr b_.len b_.cap), (9, [], Value.slice old.ptr old.len old.cap), (42, [], Value.int .i64 (IntKind.i64.wrap (at_ + ((b_.len : Nat) : Int)))), (43, [], Value.pointer (some ⟨(pblk d), (poff d), none⟩)), (44, [], Value.pointer (some ⟨(pblk d), (poff d), none⟩))] (by kernel_rfl) (by kernel_rfl) ?_
          refine reg_run [.plain] 7 [(0, [], Value.pointer d), (1, [], Value.int .i64 slot), (2, [], Value.int .i64 at_), (3, [], Value.slice b_.ptr b_.len b_.cap), (9, [], Value.slice old.ptr old.len old.cap), (42, [], Value.int .i64 (IntKind.i64.wrap (at_ + ((b_.len : Nat) : Int)))), (45, [], Value.pointer (some ⟨(pblk d), (poff d), none⟩))] (by kernel_rfl) (by kernel_rfl) ?_
          obtain ⟨v46, hc, h⟩ := h
          refine reg_load1 (t := 3) (a := (Go.Operand.tmp 45)) (b := (pblk d)) (o := (poff d)) (ty := 3) (dst := some 46) (by kernel_rfl) (by kernel_rfl) (by kernel_rfl) hc ?_
          refine reg_run [.plain] 9 [(0, [], Value.pointer d), (1, [], Value.int .i64 slot), (2, [], Value.int .i64 at_), (3, [], Value.slice b_.ptr b_.len b_.cap), (9, [], Value.slice old.ptr old.len old.cap), (47, [], Value.bool (decide ((IntKind.i64.wrap (at_ + ((b_.len : Nat) : Int))) > v46)))] (by kernel_rfl) (by kernel_rfl) ?_
          refine reg_end [(0, Value.pointer d), (1, Value.int .i64 slot), (2, Value.int .i64 at_), (3, Value.slice b_.ptr b_.len b_.cap), (9, Value.slice old.ptr old.len old.cap), (47, Value.bool (decide ((IntKind.i64.wrap (at_ + ((b_.len : Nat) : Int))) > v46)))] (by kernel_rfl) (by kernel_rfl) ?_
          change WpE _ _ c_towpathref04_Disk_Write_40 _ _ _
          refine wpE_cond (o := (Operand.tmp 47)) (b := (decide ((IntKind.i64.wrap (at_ + ((b_.len : Nat) : Int))) > v46))) (x := c_towpathref04_Disk_Write_41) (y := c_towpathref04_Disk_Write_45) (by kernel_rfl) (by kernel_rfl) (fun hb => ?_) (fun hb => ?_)
          · replace h := h.1 hb
            refine wpE_seq (x := c_towpathref04_Disk_Write_42) (y := c_towpathref04_Disk_Write_44) (by kernel_rfl) ?_
            refine wpE_region (id := 9) (ops := r_towpathref04_Disk_Write_42) (by kernel_rfl) ?_
            refine reg_run [.plain] 1 [(8, [], Value.int .i64 13)] (by kernel_rfl) (by kernel_rfl) ?_
            refine reg_end [(8, Value.int .i64 13)] (by kernel_rfl) (by kernel_rfl) ?_
            change WpE _ _ c_towpathref04_Disk_Write_44 _ _ _
            refine wpE_ret (by kernel_rfl) ?_
            repeat (first | refine seqQ_ret ?_ | refine blockQ_ret ?_ | refine loopQ_ret ?_ | refine cutQ_ret ?_)
            exact retS (rs := [(Go.ResultVar.tmp 8)]) (v := Value.int .i64 13) (by kernel_rfl) (⟨by kernel_rfl, trivial⟩) ⟨13, rfl, h⟩
          · replace h := h.2 hb
            refine wpE_skip (by kernel_rfl) ?_
            change WpE _ _ c_towpathref04_Disk_Write_46 _ _ _
            refine wpE_seq (x := c_towpathref04_Disk_Write_47) (y := c_towpathref04_Disk_Write_49) (by kernel_rfl) ?_
            refine wpE_region (id := 10) (ops := r_towpathref04_Disk_Write_47) (by kernel_rfl) ?_
            refine reg_run [.plain] 1 [(0, [], Value.pointer d), (1, [], Value.int .i64 slot), (2, [], Value.int .i64 at_), (3, [], Value.slice b_.ptr b_.len b_.cap), (9, [], Value.slice old.ptr old.len old.cap), (48, [], Value.pointer d)] (by kernel_rfl) (by kernel_rfl) ?_
            refine reg_enter (op := (Go.Op.call (Go.Call.mk (Go.Callee.value (Go.Operand.func 66)) #[(Go.Operand.tmp 48)] #[28]))) (ty := 25) (dst := some 49) 66 #[Value.pointer d] (by kernel_rfl) (fun ww => by kernel_rfl) (Calls.mono h ?_)
            rintro _ w1 ⟨v49, rfl, h⟩
            refine ⟨_, rfl, ?_⟩
            refine reg_run [.plain] 3 [(0, [], Value.pointer d), (1, [], Value.int .i64 slot), (2, [], Value.int .i64 at_), (3, [], Value.slice b_.ptr b_.len b_.cap), (9, [], Value.slice old.ptr old.len old.cap), (10, [], Value.int .i64 v49)] (by kernel_rfl) (by kernel_rfl) ?_
            refine reg_end [(0, Value.pointer d), (1, Value.int .i64 slot), (2, Value.int .i64 at_), (3, Value.slice b_.ptr b_.len b_.cap), (9, Value.slice old.ptr old.len old.cap), (10, Value.int .i64 v49)] (by kernel_rfl) (by kernel_rfl) ?_
            change WpE _ _ c_towpathref04_Disk_Write_49 _ _ _
            refine wpE_seq (x := c_towpathref04_Disk_Write_50) (y := c_towpathref04_Disk_Write_59) (by kernel_rfl) ?_
            refine wpE_seq (x := c_towpathref04_Disk_Write_51) (y := c_towpathref04_Disk_Write_53) (by kernel_rfl) ?_
            refine wpE_region (id := 11) (ops := r_towpathref04_Disk_Write_51) (by kernel_rfl) ?_
            refine reg_run [.plain, .plain] 2 [(0, [], Value.pointer d), (1, [], Value.int .i64 slot), (2, [], Value.int .i64 at_), (3, [], Value.slice b_.ptr b_.len b_.cap), (9, [], Value.slice old.ptr old.len old.cap), (10, [], Value.int .i64 v49), (51, [], Value.bool (v49 != 0))] (by kernel_rfl) (by kernel_rfl) ?_
            refine reg_end [(0, Value.pointer d), (1, Value.int .i64 slot), (2, Value.int .i64 at_), (3, Value.slice b_.ptr b_.len b_.cap), (9, Value.slice old.ptr old.len old.cap), (10, Value.int .i64 v49), (51, Value.bool (v49 != 0))] (by kernel_rfl) (by kernel_rfl) ?_
            change WpE _ _ c_towpathref04_Disk_Write_53 _ _ _
            refine wpE_cond (o := (Operand.tmp 51)) (b := (v49 != 0)) (x := c_towpathref04_Disk_Write_54) (y := c_towpathref04_Disk_Write_58) (by kernel_rfl) (by kernel_rfl) (fun hb => ?_) (fun hb => ?_)
            · replace h := h.1 hb
              refine wpE_seq (x := c_towpathref04_Disk_Write_55) (y := c_towpathref04_Disk_Write_57) (by kernel_rfl) ?_
              refine wpE_region (id := 12) (ops := r_towpathref04_Disk_Write_55) (by kernel_rfl) ?_
              refine reg_run [.plain, .plain] 2 [(8, [], Value.int .i64 v49)] (by kernel_rfl) (by kernel_rfl) ?_
              refine reg_end [(8, Value.int .i64 v49)] (by kernel_rfl) (by kernel_rfl) ?_
              change WpE _ _ c_towpathref04_Disk_Write_57 _ _ _
              refine wpE_ret (by kernel_rfl) ?_
              repeat (first | refine seqQ_ret ?_ | refine blockQ_ret ?_ | refine loopQ_ret ?_ | refine cutQ_ret ?_)
              exact retS (rs := [(Go.ResultVar.tmp 8)]) (v := Value.int .i64 v49) (by kernel_rfl) (⟨by kernel_rfl, trivial⟩) ⟨v49, rfl, h⟩
            · replace h := h.2 hb
              refine wpE_skip (by kernel_rfl) ?_
              change WpE _ _ c_towpathref04_Disk_Write_59 _ _ _
              refine wpE_seq (x := c_towpathref04_Disk_Write_60) (y := c_towpathref04_Disk_Write_62) (by kernel_rfl) ?_
              refine wpE_region (id := 13) (ops := r_towpathref04_Disk_Write_60) (by kernel_rfl) ?_
              refine reg_run [.plain] 1 [(0, [], Value.pointer d), (1, [], Value.int .i64 slot), (2, [], Value.int .i64 at_), (3, [], Value.slice b_.ptr b_.len b_.cap), (9, [], Value.slice old.ptr old.len old.cap), (11, [], Value.slice none 0 0)] (by kernel_rfl) (by kernel_rfl) ?_
              refine reg_end [(0, Value.pointer d), (1, Value.int .i64 slot), (2, Value.int .i64 at_), (3, Value.slice b_.ptr b_.len b_.cap), (9, Value.slice old.ptr old.len old.cap), (11, Value.slice none 0 0)] (by kernel_rfl) (by kernel_rfl) ?_
              change WpE _ _ c_towpathref04_Disk_Write_62 _ _ _
              refine wpE_seq (x := c_towpathref04_Disk_Write_63) (y := c_towpathref04_Disk_Write_65) (by kernel_rfl) ?_
              refine wpE_region (id := 14) (ops := r_towpathref04_Disk_Write_63) (by kernel_rfl) ?_
              refine reg_run [.plain, .plain, .plain] 3 [(0, [], Value.pointer d), (1, [], Value.int .i64 slot), (2, [], Value.int .i64 at_), (3, [], Value.slice b_.ptr b_.len b_.cap), (9, [], Value.slice old.ptr old.len old.cap), (11, [], Value.slice none 0 0), (53, [], Value.slice none 0 0), (54, [], Value.slice old.ptr old.len old.cap), (55, [], Value.int .i64 at_)] (by kernel_rfl) (by kernel_rfl) ?_
              obtain ⟨h0, h1, h⟩ := h
              refine reg_sliceHi (t := 45) (e := 5) (x := (Go.Operand.tmp 54)) (hi := (Go.Operand.tmp 55)) (p := old.ptr) (l := old.len) (c := old.cap) (sz := 1) (k := .i64) (j := at_) (ty := 45) (dst := some 56) (by kernel_rfl) (by kernel_rfl) (by kernel_rfl) (by kernel_rfl) (by kernel_rfl) h0 h1 ?_
              refine reg_run [] 4 [(0, [], Value.pointer d), (1, [], Value.int .i64 slot), (2, [], Value.int .i64 at_), (3, [], Value.slice b_.ptr b_.len b_.cap), (9, [], Value.slice old.ptr old.len old.cap), (11, [], Value.slice none 0 0), (53, [], Value.slice none 0 0), (56, [], Value.slice old.ptr at_.toNat old.cap)] (by kernel_rfl) (by kernel_rfl) ?_
              obtain ⟨src, hs, h⟩ := h
              refine reg_append (t := 45) (tx := 45) (e := 5) (a := (Go.Operand.tmp 53)) (xo := (Go.Operand.tmp 56)) (s := (Slc.mk none 0 0)) (x := (Slc.mk old.ptr at_.toNat old.cap)) (sz := 1) (by_ := 1) (zs := [Value.int .u8 0]) (ty := 45) (dst := some 57)  src (by kernel_rfl) (by kernel_rfl) (by kernel_rfl) (by kernel_rfl) (by kernel_rfl) (by kernel_rfl) (by kernel_rfl) (by kernel_rfl) (by kernel_rfl) hs (AppendW.mono h (fun l_ w2 h => ?_))
              refine reg_run [.plain] 6 [(0, [], Value.pointer d), (1, [], Value.int .i64 slot), (2, [], Value.int .i64 at_), (3, [], Value.slice b_.ptr b_.len b_.cap), (9, [], Value.slice old.ptr old.len old.cap), (11, [], Value.slice l_.ptr l_.len l_.cap)] (by kernel_rfl) (by kernel_rfl) ?_
              refine reg_end [(0, Value.pointer d), (1, Value.int .i64 slot), (2, Value.int .i64 at_), (3, Value.slice b_.ptr b_.len b_.cap), (9, Value.slice old.ptr old.len old.cap), (11, Value.slice l_.ptr l_.len l_.cap)] (by kernel_rfl) (by kernel_rfl) ?_
              change WpE _ _ c_towpathref04_Disk_Write_65 _ _ _
              refine wpE_seq (x := c_towpathref04_Disk_Write_66) (y := c_towpathref04_Disk_Write_68) (by kernel_rfl) ?_
              refine wpE_region (id := 15) (ops := r_towpathref04_Disk_Write_66) (by kernel_rfl) ?_
              refine reg_run [.plain, .plain] 2 [(0, [], Value.pointer d), (1, [], Value.int .i64 slot), (2, [], Value.int .i64 at_), (3, [], Value.slice b_.ptr b_.len b_.cap), (9, [], Value.slice old.ptr old.len old.cap), (11, [], Value.slice l_.ptr l_.len l_.cap), (58, [], Value.slice l_.ptr l_.len l_.cap), (59, [], Value.slice b_.ptr b_.len b_.cap)] (by kernel_rfl) (by kernel_rfl) ?_
              obtain ⟨src, hs, h⟩ := h
              refine reg_append (t := 45) (tx := 45) (e := 5) (a := (Go.Operand.tmp 58)) (xo := (Go.Operand.tmp 59)) (s := l_) (x := b_) (sz := 1) (by_ := 1) (zs := [Value.int .u8 0]) (ty := 45) (dst := some 60)  src (by kernel_rfl) (by kernel_rfl) (by kernel_rfl) (by kernel_rfl) (by kernel_rfl) (by kernel_rfl) (by kernel_rfl) (by kernel_rfl) (by kernel_rfl) hs (AppendW.mono h (fun l_1 w3 h => ?_))
              refine reg_run [.plain] 4 [(0, [], Value.pointer d), (1, [], Value.int .i64 slot), (2, [], Value.int .i64 at_), (3, [], Value.slice b_.ptr b_.len b_.cap), (9, [], Value.slice old.ptr old.len old.cap), (11, [], Value.slice l_1.ptr l_1.len l_1.cap)] (by kernel_rfl) (by kernel_rfl) ?_
              refine reg_end [(0, Value.pointer d), (1, Value.int .i64 slot), (2, Value.int .i64 at_), (3, Value.slice b_.ptr b_.len b_.cap), (9, Value.slice old.ptr old.len old.cap), (11, Value.slice l_1.ptr l_1.len l_1.cap)] (by kernel_rfl) (by kernel_rfl) ?_
              change WpE _ _ c_towpathref04_Disk_Write_68 _ _ _
              refine wpE_seq_cut (x := c_towpathref04_Disk_Write_69) (y := c_towpathref04_Disk_Write_76) (by kernel_rfl) (fun l w => ∃ (l_2 : Slc), l = [(0, Value.pointer d), (1, Value.int .i64 slot), (11, Value.slice l_2.ptr l_2.len l_2.cap)] ∧ F_towpathref04_Disk_Write_k0 d slot R l_2 w) ?_ ?_
              · refine wpE_seq (x := c_towpathref04_Disk_Write_70) (y := c_towpathref04_Disk_Write_72) (by kernel_rfl) ?_
                refine wpE_region (id := 16) (ops := r_towpathref04_Disk_Write_70) (by kernel_rfl) ?_
                refine reg_run [.plain, .plain, .plain, .plain, .plain, .plain, .plain] 7 [(0, [], Value.pointer d), (1, [], Value.int .i64 slot), (2, [], Value.int .i64 at_), (3, [], Value.slice b_.ptr b_.len b_.cap), (9, [], Value.slice old.ptr old.len old.cap), (11, [], Value.slice l_1.ptr l_1.len l_1.cap), (67, [], Value.bool (decide ((IntKind.i64.wrap (at_ + ((b_.len : Nat) : Int))) < ((old.len : Nat) : Int))))] (by kernel_rfl) (by kernel_rfl) ?_
                refine reg_end [(0, Value.pointer d), (1, Value.int .i64 slot), (2, Value.int .i64 at_), (3, Value.slice b_.ptr b_.len b_.cap), (9, Value.slice old.ptr old.len old.cap), (11, Value.slice l_1.ptr l_1.len l_1.cap), (67, Value.bool (decide ((IntKind.i64.wrap (at_ + ((b_.len : Nat) : Int))) < ((old.len : Nat) : Int))))] (by kernel_rfl) (by kernel_rfl) ?_
                change WpE _ _ c_towpathref04_Disk_Write_72 _ _ _
                refine wpE_cond (o := (Operand.tmp 67)) (b := (decide ((IntKind.i64.wrap (at_ + ((b_.len : Nat) : Int))) < ((old.len : Nat) : Int)))) (x := c_towpathref04_Disk_Write_73) (y := c_towpathref04_Disk_Write_75) (by kernel_rfl) (by kernel_rfl) (fun hb => ?_) (fun hb => ?_)
                · replace h := h.1 hb
                  refine wpE_region (id := 17) (ops := r_towpathref04_Disk_Write_73) (by kernel_rfl) ?_
                  refine reg_run [.plain, .plain, .plain, .plain, .plain, .plain] 6 [(0, [], Value.pointer d), (1, [], Value.int .i64 slot), (11, [], Value.slice l_1.ptr l_1.len l_1.cap), (68, [], Value.slice l_1.ptr l_1.len l_1.cap), (69, [], Value.slice old.ptr old.len old.cap), (73, [], Value.int .i64 (IntKind.i64.wrap (at_ + ((b_.len : Nat) : Int))))] (by kernel_rfl) (by kernel_rfl) ?_
                  obtain ⟨hc, h⟩ := h
                  refine reg_slice (t := 45) (e := 5) (x := (Go.Operand.tmp 69)) (lo := (Go.Operand.tmp 73)) (s := old) (sz := 1) (k := .i64) (a := (IntKind.i64.wrap (at_ + ((b_.len : Nat) : Int)))) (ty := 45) (dst := some 74) (by kernel_rfl) (by kernel_rfl) (by kernel_rfl) (by kernel_rfl) (by kernel_rfl) hc (fun s hs => ?_)
                  replace h := h s hs
                  clear hs
                  refine reg_run [] 7 [(0, [], Value.pointer d), (1, [], Value.int .i64 slot), (11, [], Value.slice l_1.ptr l_1.len l_1.cap), (68, [], Value.slice l_1.ptr l_1.len l_1.cap), (74, [], Value.slice s.ptr s.len s.cap)] (by kernel_rfl) (by kernel_rfl) ?_
                  obtain ⟨src, hs, h⟩ := h
                  refine reg_append (t := 45) (tx := 45) (e := 5) (a := (Go.Operand.tmp 68)) (xo := (Go.Operand.tmp 74)) (s := l_1) (x := s) (sz := 1) (by_ := 1) (zs := [Value.int .u8 0]) (ty := 45) (dst := some 75)  src (by kernel_rfl) (by kernel_rfl) (by kernel_rfl) (by kernel_rfl) (by kernel_rfl) (by kernel_rfl) (by kernel_rfl) (by kernel_rfl) (by kernel_rfl) hs (AppendW.mono h (fun l_3 w6 h => ?_))
                  refine reg_run [.plain] 9 [(0, [], Value.pointer d), (1, [], Value.int .i64 slot), (11, [], Value.slice l_3.ptr l_3.len l_3.cap)] (by kernel_rfl) (by kernel_rfl) ?_
                  refine reg_end [(0, Value.pointer d), (1, Value.int .i64 slot), (11, Value.slice l_3.ptr l_3.len l_3.cap)] (by kernel_rfl) (by kernel_rfl) ?_
                  exact ⟨[(0, Value.pointer d), (1, Value.int .i64 slot), (11, Value.slice l_3.ptr l_3.len l_3.cap)], Sub.mk (by kernel_rfl), l_3, rfl, h⟩
                · replace h := h.2 hb
                  refine wpE_skip (by kernel_rfl) ?_
                  exact ⟨[(0, Value.pointer d), (1, Value.int .i64 slot), (11, Value.slice l_1.ptr l_1.len l_1.cap)], Sub.mk (by kernel_rfl), l_1, rfl, h⟩
              · rintro _ w4 ⟨l_2, rfl, h⟩
                unfold F_towpathref04_Disk_Write_k0 at h
                refine wpE_seq (x := c_towpathref04_Disk_Write_77) (y := c_towpathref04_Disk_Write_79) (by kernel_rfl) ?_
                refine wpE_region (id := 18) (ops := r_towpathref04_Disk_Write_77) (by kernel_rfl) ?_
                refine reg_run [.plain, .plain, .plain] 3 [(76, [], Value.pointer d), (77, [], Value.int .i64 slot), (78, [], Value.slice l_2.ptr l_2.len l_2.cap)] (by kernel_rfl) (by kernel_rfl) ?_
                obtain ⟨hp_7, h⟩ := h
                refine reg_conv [(76, [], Value.pointer (some ⟨(pblk d), (poff d), none⟩)), (77, [], Value.int .i64 slot), (78, [], Value.slice l_2.ptr l_2.len l_2.cap)] (congrArg (fun pp => ([(76, [], Value.pointer pp), (77, [], Value.int .i64 slot), (78, [], Value.slice l_2.ptr l_2.len l_2.cap)] : GEnv)) hp_7) ?_
                refine reg_run [.plain] 4 [(76, [], Value.pointer (some ⟨(pblk d), (poff d), none⟩)), (77, [], Value.int .i64 slot), (78, [], Value.slice l_2.ptr l_2.len l_2.cap), (79, [], Value.pointer (some ⟨(pblk d), (poff d), none⟩))] (by kernel_rfl) (by kernel_rfl) ?_
                refine reg_run [.plain] 5 [(77, [], Value.int .i64 slot), (78, [], Value.slice l_2.ptr l_2.len l_2.cap), (80, [], Value.pointer (some ⟨(pblk d), (poff d) + 1, none⟩))] (by kernel_rfl) (by kernel_rfl) ?_
                obtain ⟨h0, h1, h⟩ := h
                refine reg_indexA1 (t := 54) (e := 45) (x := (Go.Operand.tmp 80)) (ix := (Go.Operand.tmp 77)) (b := (pblk d)) (o := ((poff d) + 1)) (len := 2) (k := .i64) (j := slot) (ty := 0) (dst := some 81) (by kernel_rfl) (by kernel_rfl) (by kernel_rfl) (by kernel_rfl) (by kernel_rfl) h0 h1 ?_
                refine reg_run [] 6 [(78, [], Value.slice l_2.ptr l_2.len l_2.cap), (81, [], Value.pointer (some ⟨(pblk d), ((poff d) + 1) + slot.toNat, none⟩))] (by kernel_rfl) (by kernel_rfl) ?_
                obtain ⟨hc, h⟩ := h
                refine reg_store (t := 45) (a := (Go.Operand.tmp 81)) (x := (Go.Operand.tmp 78)) (b := (pblk d)) (o := (((poff d) + 1) + slot.toNat)) (ty := 0) (dst := none) [Value.slice l_2.ptr l_2.len l_2.cap] (by kernel_rfl) (by kernel_rfl) (by kernel_rfl) (k := 1) (by kernel_rfl) (by kernel_rfl) (by kernel_rfl) hc (fun w5 hw => ?_)
                replace h := h w5 hw
                clear hw
                refine reg_end [] (by kernel_rfl) (by kernel_rfl) ?_
                change WpE _ _ c_towpathref04_Disk_Write_79 _ _ _
                refine wpE_seq (x := c_towpathref04_Disk_Write_80) (y := c_towpathref04_Disk_Write_82) (by kernel_rfl) ?_
                refine wpE_region (id := 19) (ops := r_towpathref04_Disk_Write_80) (by kernel_rfl) ?_
                refine reg_run [.plain] 1 [(8, [], Value.int .i64 0)] (by kernel_rfl) (by kernel_rfl) ?_
                refine reg_end [(8, Value.int .i64 0)] (by kernel_rfl) (by kernel_rfl) ?_
                change WpE _ _ c_towpathref04_Disk_Write_82 _ _ _
                refine wpE_ret (by kernel_rfl) ?_
                repeat (first | refine seqQ_ret ?_ | refine blockQ_ret ?_ | refine loopQ_ret ?_ | refine cutQ_ret ?_)
                exact retS (rs := [(Go.ResultVar.tmp 8)]) (v := Value.int .i64 0) (by kernel_rfl) (⟨by kernel_rfl, trivial⟩) ⟨0, rfl, h⟩
  · rintro e w' ⟨v, rfl, r0, rfl, h⟩; exact ⟨r0, rfl, h⟩

/-! ### (*towpath/towpathref04.Disk).Clear (function 17) -/
noncomputable def c_towpathref04_Disk_Clear_0 : Code := (Tryz.f17.body).getD Code.skip
noncomputable def c_towpathref04_Disk_Clear_1 : Code := Code.l c_towpathref04_Disk_Clear_0
noncomputable def r_towpathref04_Disk_Clear_1 : Array Oper := Code.ops c_towpathref04_Disk_Clear_1
noncomputable def c_towpathref04_Disk_Clear_3 : Code := Code.r c_towpathref04_Disk_Clear_0
noncomputable def c_towpathref04_Disk_Clear_4 : Code := Code.l c_towpathref04_Disk_Clear_3
noncomputable def c_towpathref04_Disk_Clear_5 : Code := Code.l c_towpathref04_Disk_Clear_4
noncomputable def r_towpathref04_Disk_Clear_5 : Array Oper := Code.ops c_towpathref04_Disk_Clear_5
noncomputable def c_towpathref04_Disk_Clear_7 : Code := Code.r c_towpathref04_Disk_Clear_4
noncomputable def c_towpathref04_Disk_Clear_8 : Code := Code.l c_towpathref04_Disk_Clear_7
noncomputable def c_towpathref04_Disk_Clear_9 : Code := Code.l c_towpathref04_Disk_Clear_8
noncomputable def r_towpathref04_Disk_Clear_9 : Array Oper := Code.ops c_towpathref04_Disk_Clear_9
noncomputable def c_towpathref04_Disk_Clear_11 : Code := Code.r c_towpathref04_Disk_Clear_8
noncomputable def c_towpathref04_Disk_Clear_12 : Code := Code.r c_towpathref04_Disk_Clear_7
noncomputable def c_towpathref04_Disk_Clear_13 : Code := Code.r c_towpathref04_Disk_Clear_3
noncomputable def c_towpathref04_Disk_Clear_14 : Code := Code.l c_towpathref04_Disk_Clear_13
noncomputable def c_towpathref04_Disk_Clear_15 : Code := Code.l c_towpathref04_Disk_Clear_14
noncomputable def r_towpathref04_Disk_Clear_15 : Array Oper := Code.ops c_towpathref04_Disk_Clear_15
noncomputable def c_towpathref04_Disk_Clear_17 : Code := Code.r c_towpathref04_Disk_Clear_14
noncomputable def c_towpathref04_Disk_Clear_18 : Code := Code.l c_towpathref04_Disk_Clear_17
noncomputable def c_towpathref04_Disk_Clear_19 : Code := Code.l c_towpathref04_Disk_Clear_18
noncomputable def r_towpathref04_Disk_Clear_19 : Array Oper := Code.ops c_towpathref04_Disk_Clear_19
noncomputable def c_towpathref04_Disk_Clear_21 : Code := Code.r c_towpathref04_Disk_Clear_18
noncomputable def c_towpathref04_Disk_Clear_22 : Code := Code.r c_towpathref04_Disk_Clear_17
noncomputable def c_towpathref04_Disk_Clear_23 : Code := Code.r c_towpathref04_Disk_Clear_13
noncomputable def c_towpathref04_Disk_Clear_24 : Code := Code.l c_towpathref04_Disk_Clear_23
noncomputable def r_towpathref04_Disk_Clear_24 : Array Oper := Code.ops c_towpathref04_Disk_Clear_24
noncomputable def c_towpathref04_Disk_Clear_26 : Code := Code.r c_towpathref04_Disk_Clear_23
noncomputable def c_towpathref04_Disk_Clear_27 : Code := Code.l c_towpathref04_Disk_Clear_26
noncomputable def c_towpathref04_Disk_Clear_28 : Code := Code.l c_towpathref04_Disk_Clear_27
noncomputable def r_towpathref04_Disk_Clear_28 : Array Oper := Code.ops c_towpathref04_Disk_Clear_28
noncomputable def c_towpathref04_Disk_Clear_30 : Code := Code.r c_towpathref04_Disk_Clear_27
noncomputable def c_towpathref04_Disk_Clear_31 : Code := Code.l c_towpathref04_Disk_Clear_30
noncomputable def r_towpathref04_Disk_Clear_31 : Array Oper := Code.ops c_towpathref04_Disk_Clear_31
noncomputable def c_towpathref04_Disk_Clear_33 : Code := Code.r c_towpathref04_Disk_Clear_30
noncomputable def c_towpathref04_Disk_Clear_34 : Code := Code.r c_towpathref04_Disk_Clear_26
noncomputable def c_towpathref04_Disk_Clear_35 : Code := Code.l c_towpathref04_Disk_Clear_34
noncomputable def r_towpathref04_Disk_Clear_35 : Array Oper := Code.ops c_towpathref04_Disk_Clear_35
noncomputable def c_towpathref04_Disk_Clear_37 : Code := Code.r c_towpathref04_Disk_Clear_34

set_option maxRecDepth 100000 in
set_option maxHeartbeats 4000000 in
theorem S_towpathref04_Disk_Clear {d : Option Addr} {slot : Int} {w : World} {R : Int → World → Prop} (h : F_towpathref04_Disk_Clear d slot R w) : C_towpathref04_Disk_Clear d slot w R := by
  unfold F_towpathref04_Disk_Clear at h
  unfold C_towpathref04_Disk_Clear
  refine Calls.mono (calls_of_wpE (args := [Value.pointer d, Value.int .i64 slot]) (R := fun v w' => ∃ (r0 : Int), v = Value.int .i64 r0 ∧ R r0 w') Tryz.func17 (c := c_towpathref04_Disk_Clear_0) (by kernel_rfl) 24 (by kernel_rfl) (by kernel_rfl) [(0, Value.pointer d), (1, Value.int .i64 slot)] (by kernel_rfl) ?_) ?_
  · refine wpE_seq (x := c_towpathref04_Disk_Clear_1) (y := c_towpathref04_Disk_Clear_3) (by kernel_rfl) ?_
    refine wpE_region (id := 0) (ops := r_towpathref04_Disk_Clear_1) (by kernel_rfl) ?_
    refine reg_run [.plain] 1 [(0, [], Value.pointer d), (1, [], Value.int .i64 slot)] (by kernel_rfl) (by kernel_rfl) ?_
    refine reg_end [(0, Value.pointer d), (1, Value.int .i64 slot)] (by kernel_rfl) (by kernel_rfl) ?_
    change WpE _ _ c_towpathref04_Disk_Clear_3 _ _ _
    refine wpE_seq (x := c_towpathref04_Disk_Clear_4) (y := c_towpathref04_Disk_Clear_13) (by kernel_rfl) ?_
    refine wpE_seq (x := c_towpathref04_Disk_Clear_5) (y := c_towpathref04_Disk_Clear_7) (by kernel_rfl) ?_
    refine wpE_region (id := 1) (ops := r_towpathref04_Disk_Clear_5) (by kernel_rfl) ?_
    refine reg_run [.plain] 1 [(0, [], Value.pointer d), (1, [], Value.int .i64 slot), (6, [], Value.pointer d)] (by kernel_rfl) (by kernel_rfl) ?_
    refine reg_val (op := (Go.Op.binOp Go.BinOp.eql 28 (Go.Operand.tmp 6) (Go.Operand.const (Go.Value.pointer none)) 28)) (ty := 4) (dst := some 7) (Value.bool d.isNone) (by kernel_rfl) (fun ww => run_ptr_eql_R (p := d) (by kernel_rfl) (by kernel_rfl) (by kernel_rfl) ww) ?_
    refine reg_end [(0, Value.pointer d), (1, Value.int .i64 slot), (7, Value.bool d.isNone)] (by kernel_rfl) (by kernel_rfl) ?_
    change WpE _ _ c_towpathref04_Disk_Clear_7 _ _ _
    refine wpE_cond (o := (Operand.tmp 7)) (b := d.isNone) (x := c_towpathref04_Disk_Clear_8) (y := c_towpathref04_Disk_Clear_12) (by kernel_rfl) (by kernel_rfl) (fun hb => ?_) (fun hb => ?_)
    · replace h := h.1 hb
      refine wpE_seq (x := c_towpathref04_Disk_Clear_9) (y := c_towpathref04_Disk_Clear_11) (by kernel_rfl) ?_
      refine wpE_region (id := 2) (ops := r_towpathref04_Disk_Clear_9) (by kernel_rfl) ?_
      refine reg_run [.plain] 1 [(4, [], Value.int .i64 2)] (by kernel_rfl) (by kernel_rfl) ?_
      refine reg_end [(4, Value.int .i64 2)] (by kernel_rfl) (by kernel_rfl) ?_
      change WpE _ _ c_towpathref04_Disk_Clear_11 _ _ _
      refine wpE_ret (by kernel_rfl) ?_
      repeat (first | refine seqQ_ret ?_ | refine blockQ_ret ?_ | refine loopQ_ret ?_ | refine cutQ_ret ?_)
      exact retS (rs := [(Go.ResultVar.tmp 4)]) (v := Value.int .i64 2) (by kernel_rfl) (⟨by kernel_rfl, trivial⟩) ⟨2, rfl, h⟩
    · replace h := h.2 hb
      refine wpE_skip (by kernel_rfl) ?_
      change WpE _ _ c_towpathref04_Disk_Clear_13 _ _ _
      refine wpE_seq (x := c_towpathref04_Disk_Clear_14) (y := c_towpathref04_Disk_Clear_23) (by kernel_rfl) ?_
      refine wpE_seq (x := c_towpathref04_Disk_Clear_15) (y := c_towpathref04_Disk_Clear_17) (by kernel_rfl) ?_
      refine wpE_region (id := 3) (ops := r_towpathref04_Disk_Clear_15) (by kernel_rfl) ?_
      refine reg_run [.plain, .plain, .plain, .plain, .plain, .pick] 6 [(0, [], Value.pointer d), (1, [], Value.int .i64 slot), (13, [], Value.bool ((slot != 0) && (slot != 1)))] (by kernel_rfl) (by kernel_rfl) ?_
      refine reg_end [(0, Value.pointer d), (1, Value.int .i64 slot), (13, Value.bool ((slot != 0) && (slot != 1)))] (by kernel_rfl) (by kernel_rfl) ?_
      change WpE _ _ c_towpathref04_Disk_Clear_17 _ _ _
      refine wpE_cond (o := (Operand.tmp 13)) (b := ((slot != 0) && (slot != 1))) (x := c_towpathref04_Disk_Clear_18) (y := c_towpathref04_Disk_Clear_22) (by kernel_rfl) (by kernel_rfl) (fun hb => ?_) (fun hb => ?_)
      · replace h := h.1 hb
        refine wpE_seq (x := c_towpathref04_Disk_Clear_19) (y := c_towpathref04_Disk_Clear_21) (by kernel_rfl) ?_
        refine wpE_region (id := 4) (ops := r_towpathref04_Disk_Clear_19) (by kernel_rfl) ?_
        refine reg_run [.plain] 1 [(4, [], Value.int .i64 1)] (by kernel_rfl) (by kernel_rfl) ?_
        refine reg_end [(4, Value.int .i64 1)] (by kernel_rfl) (by kernel_rfl) ?_
        change WpE _ _ c_towpathref04_Disk_Clear_21 _ _ _
        refine wpE_ret (by kernel_rfl) ?_
        repeat (first | refine seqQ_ret ?_ | refine blockQ_ret ?_ | refine loopQ_ret ?_ | refine cutQ_ret ?_)
        exact retS (rs := [(Go.ResultVar.tmp 4)]) (v := Value.int .i64 1) (by kernel_rfl) (⟨by kernel_rfl, trivial⟩) ⟨1, rfl, h⟩
      · replace h := h.2 hb
        refine wpE_skip (by kernel_rfl) ?_
        change WpE _ _ c_towpathref04_Disk_Clear_23 _ _ _
        refine wpE_seq (x := c_towpathref04_Disk_Clear_24) (y := c_towpathref04_Disk_Clear_26) (by kernel_rfl) ?_
        refine wpE_region (id := 5) (ops := r_towpathref04_Disk_Clear_24) (by kernel_rfl) ?_
        refine reg_run [.plain] 1 [(0, [], Value.pointer d), (1, [], Value.int .i64 slot), (14, [], Value.pointer d)] (by kernel_rfl) (by kernel_rfl) ?_
        refine reg_enter (op := (Go.Op.call (Go.Call.mk (Go.Callee.value (Go.Operand.func 66)) #[(Go.Operand.tmp 14)] #[28]))) (ty := 25) (dst := some 15) 66 #[Value.pointer d] (by kernel_rfl) (fun ww => by kernel_rfl) (Calls.mono h ?_)
        rintro _ w1 ⟨v15, rfl, h⟩
        refine ⟨_, rfl, ?_⟩
        refine reg_run [.plain] 3 [(0, [], Value.pointer d), (1, [], Value.int .i64 slot), (5, [], Value.int .i64 v15)] (by kernel_rfl) (by kernel_rfl) ?_
        refine reg_end [(0, Value.pointer d), (1, Value.int .i64 slot), (5, Value.int .i64 v15)] (by kernel_rfl) (by kernel_rfl) ?_
        change WpE _ _ c_towpathref04_Disk_Clear_26 _ _ _
        refine wpE_seq_cut (x := c_towpathref04_Disk_Clear_27) (y := c_towpathref04_Disk_Clear_34) (by kernel_rfl) (fun l w => l = [(5, Value.int .i64 v15)] ∧ F_towpathref04_Disk_Clear_k0 R v15 w) ?_ ?_
        · refine wpE_seq (x := c_towpathref04_Disk_Clear_28) (y := c_towpathref04_Disk_Clear_30) (by kernel_rfl) ?_
          refine wpE_region (id := 6) (ops := r_towpathref04_Disk_Clear_28) (by kernel_rfl) ?_
          refine reg_run [.plain, .plain] 2 [(0, [], Value.pointer d), (1, [], Value.int .i64 slot), (5, [], Value.int .i64 v15), (17, [], Value.bool (v15 == 0))] (by kernel_rfl) (by kernel_rfl) ?_
          refine reg_end [(0, Value.pointer d), (1, Value.int .i64 slot), (5, Value.int .i64 v15), (17, Value.bool (v15 == 0))] (by kernel_rfl) (by kernel_rfl) ?_
          change WpE _ _ c_towpathref04_Disk_Clear_30 _ _ _
          refine wpE_cond (o := (Operand.tmp 17)) (b := (v15 == 0)) (x := c_towpathref04_Disk_Clear_31) (y := c_towpathref04_Disk_Clear_33) (by kernel_rfl) (by kernel_rfl) (fun hb => ?_) (fun hb => ?_)
          · replace h := h.1 hb
            refine wpE_region (id := 7) (ops := r_towpathref04_Disk_Clear_31) (by kernel_rfl) ?_
            refine reg_run [.plain, .plain] 2 [(5, [], Value.int .i64 v15), (18, [], Value.pointer d), (19, [], Value.int .i64 slot)] (by kernel_rfl) (by kernel_rfl) ?_
            obtain ⟨hp_1, h⟩ := h
            refine reg_conv [(5, [], Value.int .i64 v15), (18, [], Value.pointer (some ⟨(pblk d), (poff d), none⟩)), (19, [], Value.int .i64 slot)] (congrArg (fun pp => ([(5, [], Value.int .i64 v15), (18, [], Value.pointer pp), (19, [], Value.int .i64 slot)] : GEnv)) hp_1) ?_
            refine reg_run [.plain] 3 [(5, [], Value.int .i64 v15), (18, [], Value.pointer (some ⟨(pblk d), (poff d), none⟩)), (19, [], Value.int .i64 slot), (20, [], Value.pointer (some ⟨(pblk d), (poff d), none⟩))] (by kernel_rfl) (by kernel_rfl) ?_
            refine reg_run [.plain] 4 [(5, [], Value.int .i64 v15), (19, [], Value.int .i64 slot), (21, [], Value.pointer (some ⟨(pblk d), (poff d) + 1, none⟩))] (by kernel_rfl) (by kernel_rfl) ?_
            obtain ⟨h0, h1, h⟩ := h
            refine reg_indexA1 (t := 54) (e := 45) (x := (Go.Operand.tmp 21)) (ix := (Go.Operand.tmp 19)) (b := (pblk d)) (o := ((poff d) + 1)) (len := 2) (k := .i64) (j := slot) (ty := 0) (dst := some 22) (by kernel_rfl) (by kernel_rfl) (by kernel_rfl) (by kernel_rfl) (by kernel_rfl) h0 h1 ?_
            refine reg_run [] 5 [(5, [], Value.int .i64 v15), (22, [], Value.pointer (some ⟨(pblk d), ((poff d) + 1) + slot.toNat, none⟩))] (by kernel_rfl) (by kernel_rfl) ?_
            obtain ⟨hc, h⟩ := h
            refine reg_store (t := 45) (a := (Go.Operand.tmp 22)) (x := (Go.Operand.const (Go.Value.slice none 0 0))) (b := (pblk d)) (o := (((poff d) + 1) + slot.toNat)) (ty := 0) (dst := none) [Value.slice none 0 0] (by kernel_rfl) (by kernel_rfl) (by kernel_rfl) (k := 1) (by kernel_rfl) (by kernel_rfl) (by kernel_rfl) hc (fun w3 hw => ?_)
            replace h := h w3 hw
            clear hw
            refine reg_end [(5, Value.int .i64 v15)] (by kernel_rfl) (by kernel_rfl) ?_
            exact ⟨[(5, Value.int .i64 v15)], Sub.mk (by kernel_rfl), rfl, h⟩
          · replace h := h.2 hb
            refine wpE_skip (by kernel_rfl) ?_
            exact ⟨[(5, Value.int .i64 v15)], Sub.mk (by kernel_rfl), rfl, h⟩
        · rintro _ w2 ⟨rfl, h⟩
          unfold F_towpathref04_Disk_Clear_k0 at h
          refine wpE_seq (x := c_towpathref04_Disk_Clear_35) (y := c_towpathref04_Disk_Clear_37) (by kernel_rfl) ?_
          refine wpE_region (id := 8) (ops := r_towpathref04_Disk_Clear_35) (by kernel_rfl) ?_
          refine reg_run [.plain, .plain] 2 [(4, [], Value.int .i64 v15)] (by kernel_rfl) (by kernel_rfl) ?_
          refine reg_end [(4, Value.int .i64 v15)] (by kernel_rfl) (by kernel_rfl) ?_
          change WpE _ _ c_towpathref04_Disk_Clear_37 _ _ _
          refine wpE_ret (by kernel_rfl) ?_
          repeat (first | refine seqQ_ret ?_ | refine blockQ_ret ?_ | refine loopQ_ret ?_ | refine cutQ_ret ?_)
          exact retS (rs := [(Go.ResultVar.tmp 4)]) (v := Value.int .i64 v15) (by kernel_rfl) (⟨by kernel_rfl, trivial⟩) ⟨v15, rfl, h⟩
  · rintro e w' ⟨v, rfl, r0, rfl, h⟩; exact ⟨r0, rfl, h⟩

/-! ### (*towpath/towpathref04.Disk).Cut (function 19) -/
noncomputable def c_towpathref04_Disk_Cut_0 : Code := (Tryz.f19.body).getD Code.skip
noncomputable def c_towpathref04_Disk_Cut_1 : Code := Code.l c_towpathref04_Disk_Cut_0
noncomputable def r_towpathref04_Disk_Cut_1 : Array Oper := Code.ops c_towpathref04_Disk_Cut_1
noncomputable def c_towpathref04_Disk_Cut_3 : Code := Code.r c_towpathref04_Disk_Cut_0
noncomputable def c_towpathref04_Disk_Cut_4 : Code := Code.l c_towpathref04_Disk_Cut_3
noncomputable def c_towpathref04_Disk_Cut_5 : Code := Code.l c_towpathref04_Disk_Cut_4
noncomputable def r_towpathref04_Disk_Cut_5 : Array Oper := Code.ops c_towpathref04_Disk_Cut_5
noncomputable def c_towpathref04_Disk_Cut_7 : Code := Code.r c_towpathref04_Disk_Cut_4
noncomputable def c_towpathref04_Disk_Cut_8 : Code := Code.l c_towpathref04_Disk_Cut_7
noncomputable def c_towpathref04_Disk_Cut_9 : Code := Code.l c_towpathref04_Disk_Cut_8
noncomputable def r_towpathref04_Disk_Cut_9 : Array Oper := Code.ops c_towpathref04_Disk_Cut_9
noncomputable def c_towpathref04_Disk_Cut_11 : Code := Code.r c_towpathref04_Disk_Cut_8
noncomputable def c_towpathref04_Disk_Cut_12 : Code := Code.r c_towpathref04_Disk_Cut_7
noncomputable def c_towpathref04_Disk_Cut_13 : Code := Code.r c_towpathref04_Disk_Cut_3
noncomputable def c_towpathref04_Disk_Cut_14 : Code := Code.l c_towpathref04_Disk_Cut_13
noncomputable def c_towpathref04_Disk_Cut_15 : Code := Code.l c_towpathref04_Disk_Cut_14
noncomputable def r_towpathref04_Disk_Cut_15 : Array Oper := Code.ops c_towpathref04_Disk_Cut_15
noncomputable def c_towpathref04_Disk_Cut_17 : Code := Code.r c_towpathref04_Disk_Cut_14
noncomputable def c_towpathref04_Disk_Cut_18 : Code := Code.l c_towpathref04_Disk_Cut_17
noncomputable def c_towpathref04_Disk_Cut_19 : Code := Code.l c_towpathref04_Disk_Cut_18
noncomputable def r_towpathref04_Disk_Cut_19 : Array Oper := Code.ops c_towpathref04_Disk_Cut_19
noncomputable def c_towpathref04_Disk_Cut_21 : Code := Code.r c_towpathref04_Disk_Cut_18
noncomputable def c_towpathref04_Disk_Cut_22 : Code := Code.r c_towpathref04_Disk_Cut_17
noncomputable def c_towpathref04_Disk_Cut_23 : Code := Code.r c_towpathref04_Disk_Cut_13
noncomputable def c_towpathref04_Disk_Cut_24 : Code := Code.l c_towpathref04_Disk_Cut_23
noncomputable def r_towpathref04_Disk_Cut_24 : Array Oper := Code.ops c_towpathref04_Disk_Cut_24
noncomputable def c_towpathref04_Disk_Cut_26 : Code := Code.r c_towpathref04_Disk_Cut_23
noncomputable def c_towpathref04_Disk_Cut_27 : Code := Code.l c_towpathref04_Disk_Cut_26
noncomputable def c_towpathref04_Disk_Cut_28 : Code := Code.l c_towpathref04_Disk_Cut_27
noncomputable def r_towpathref04_Disk_Cut_28 : Array Oper := Code.ops c_towpathref04_Disk_Cut_28
noncomputable def c_towpathref04_Disk_Cut_30 : Code := Code.r c_towpathref04_Disk_Cut_27
noncomputable def c_towpathref04_Disk_Cut_31 : Code := Code.l c_towpathref04_Disk_Cut_30
noncomputable def r_towpathref04_Disk_Cut_31 : Array Oper := Code.ops c_towpathref04_Disk_Cut_31
noncomputable def c_towpathref04_Disk_Cut_33 : Code := Code.r c_towpathref04_Disk_Cut_30
noncomputable def c_towpathref04_Disk_Cut_34 : Code := Code.r c_towpathref04_Disk_Cut_26
noncomputable def c_towpathref04_Disk_Cut_35 : Code := Code.l c_towpathref04_Disk_Cut_34
noncomputable def r_towpathref04_Disk_Cut_35 : Array Oper := Code.ops c_towpathref04_Disk_Cut_35
noncomputable def c_towpathref04_Disk_Cut_37 : Code := Code.r c_towpathref04_Disk_Cut_34

set_option maxRecDepth 100000 in
set_option maxHeartbeats 4000000 in
theorem S_towpathref04_Disk_Cut {d : Option Addr} {n_ : Int} {w : World} {R : Int → World → Prop} (h : F_towpathref04_Disk_Cut d n_ R w) : C_towpathref04_Disk_Cut d n_ w R := by
  unfold F_towpathref04_Disk_Cut at h
  unfold C_towpathref04_Disk_Cut
  refine Calls.mono (calls_of_wpE (args := [Value.pointer d, Value.int .i64 n_]) (R := fun v w' => ∃ (r0 : Int), v = Value.int .i64 r0 ∧ R r0 w') Tryz.func19 (c := c_towpathref04_Disk_Cut_0) (by kernel_rfl) 20 (by kernel_rfl) (by kernel_rfl) [(0, Value.pointer d), (1, Value.int .i64 n_)] (by kernel_rfl) ?_) ?_
  · refine wpE_seq (x := c_towpathref04_Disk_Cut_1) (y := c_towpathref04_Disk_Cut_3) (by kernel_rfl) ?_
    refine wpE_region (id := 0) (ops := r_towpathref04_Disk_Cut_1) (by kernel_rfl) ?_
    refine reg_run [.plain] 1 [(0, [], Value.pointer d), (1, [], Value.int .i64 n_)] (by kernel_rfl) (by kernel_rfl) ?_
    refine reg_end [(0, Value.pointer d), (1, Value.int .i64 n_)] (by kernel_rfl) (by kernel_rfl) ?_
    change WpE _ _ c_towpathref04_Disk_Cut_3 _ _ _
    refine wpE_seq (x := c_towpathref04_Disk_Cut_4) (y := c_towpathref04_Disk_Cut_13) (by kernel_rfl) ?_
    refine wpE_seq (x := c_towpathref04_Disk_Cut_5) (y := c_towpathref04_Disk_Cut_7) (by kernel_rfl) ?_
    refine wpE_region (id := 1) (ops := r_towpathref04_Disk_Cut_5) (by kernel_rfl) ?_
    refine reg_run [.plain] 1 [(0, [], Value.pointer d), (1, [], Value.int .i64 n_), (5, [], Value.pointer d)] (by kernel_rfl) (by kernel_rfl) ?_
    refine reg_val (op := (Go.Op.binOp Go.BinOp.eql 28 (Go.Operand.tmp 5) (Go.Operand.const (Go.Value.pointer none)) 28)) (ty := 4) (dst := some 6) (Value.bool d.isNone) (by kernel_rfl) (fun ww => run_ptr_eql_R (p := d) (by kernel_rfl) (by kernel_rfl) (by kernel_rfl) ww) ?_
    refine reg_end [(0, Value.pointer d), (1, Value.int .i64 n_), (6, Value.bool d.isNone)] (by kernel_rfl) (by kernel_rfl) ?_
    change WpE _ _ c_towpathref04_Disk_Cut_7 _ _ _
    refine wpE_cond (o := (Operand.tmp 6)) (b := d.isNone) (x := c_towpathref04_Disk_Cut_8) (y := c_towpathref04_Disk_Cut_12) (by kernel_rfl) (by kernel_rfl) (fun hb => ?_) (fun hb => ?_)
    · replace h := h.1 hb
      refine wpE_seq (x := c_towpathref04_Disk_Cut_9) (y := c_towpathref04_Disk_Cut_11) (by kernel_rfl) ?_
      refine wpE_region (id := 2) (ops := r_towpathref04_Disk_Cut_9) (by kernel_rfl) ?_
      refine reg_run [.plain] 1 [(4, [], Value.int .i64 2)] (by kernel_rfl) (by kernel_rfl) ?_
      refine reg_end [(4, Value.int .i64 2)] (by kernel_rfl) (by kernel_rfl) ?_
      change WpE _ _ c_towpathref04_Disk_Cut_11 _ _ _
      refine wpE_ret (by kernel_rfl) ?_
      repeat (first | refine seqQ_ret ?_ | refine blockQ_ret ?_ | refine loopQ_ret ?_ | refine cutQ_ret ?_)
      exact retS (rs := [(Go.ResultVar.tmp 4)]) (v := Value.int .i64 2) (by kernel_rfl) (⟨by kernel_rfl, trivial⟩) ⟨2, rfl, h⟩
    · replace h := h.2 hb
      refine wpE_skip (by kernel_rfl) ?_
      change WpE _ _ c_towpathref04_Disk_Cut_13 _ _ _
      refine wpE_seq (x := c_towpathref04_Disk_Cut_14) (y := c_towpathref04_Disk_Cut_23) (by kernel_rfl) ?_
      refine wpE_seq (x := c_towpathref04_Disk_Cut_15) (y := c_towpathref04_Disk_Cut_17) (by kernel_rfl) ?_
      refine wpE_region (id := 3) (ops := r_towpathref04_Disk_Cut_15) (by kernel_rfl) ?_
      refine reg_run [.plain] 1 [(0, [], Value.pointer d), (1, [], Value.int .i64 n_), (7, [], Value.pointer d)] (by kernel_rfl) (by kernel_rfl) ?_
      obtain ⟨hp_3, h⟩ := h
      refine reg_conv [(0, [], Value.pointer d), (1, [], Value.int .i64 n_), (7, [], Value.pointer (some ⟨(pblk d), (poff d), none⟩))] (congrArg (fun pp => ([(0, [], Value.pointer d), (1, [], Value.int .i64 n_), (7, [], Value.pointer pp)] : GEnv)) hp_3) ?_
      refine reg_run [.plain] 2 [(0, [], Value.pointer d), (1, [], Value.int .i64 n_), (7, [], Value.pointer (some ⟨(pblk d), (poff d), none⟩)), (8, [], Value.pointer (some ⟨(pblk d), (poff d), none⟩))] (by kernel_rfl) (by kernel_rfl) ?_
      refine reg_run [.plain] 3 [(0, [], Value.pointer d), (1, [], Value.int .i64 n_), (9, [], Value.pointer (some ⟨(pblk d), (poff d) + 4, none⟩))] (by kernel_rfl) (by kernel_rfl) ?_
      obtain ⟨v10, hc, h⟩ := h
      refine reg_load1 (t := 4) (a := (Go.Operand.tmp 9)) (b := (pblk d)) (o := ((poff d) + 4)) (ty := 4) (dst := some 10) (by kernel_rfl) (by kernel_rfl) (by kernel_rfl) hc ?_
      refine reg_end [(0, Value.pointer d), (1, Value.int .i64 n_), (10, Value.bool v10)] (by kernel_rfl) (by kernel_rfl) ?_
      change WpE _ _ c_towpathref04_Disk_Cut_17 _ _ _
      refine wpE_cond (o := (Operand.tmp 10)) (b := v10) (x := c_towpathref04_Disk_Cut_18) (y := c_towpathref04_Disk_Cut_22) (by kernel_rfl) (by kernel_rfl) (fun hb => ?_) (fun hb => ?_)
      · replace h := h.1 hb
        refine wpE_seq (x := c_towpathref04_Disk_Cut_19) (y := c_towpathref04_Disk_Cut_21) (by kernel_rfl) ?_
        refine wpE_region (id := 4) (ops := r_towpathref04_Disk_Cut_19) (by kernel_rfl) ?_
        refine reg_run [.plain] 1 [(4, [], Value.int .i64 11)] (by kernel_rfl) (by kernel_rfl) ?_
        refine reg_end [(4, Value.int .i64 11)] (by kernel_rfl) (by kernel_rfl) ?_
        change WpE _ _ c_towpathref04_Disk_Cut_21 _ _ _
        refine wpE_ret (by kernel_rfl) ?_
        repeat (first | refine seqQ_ret ?_ | refine blockQ_ret ?_ | refine loopQ_ret ?_ | refine cutQ_ret ?_)
        exact retS (rs := [(Go.ResultVar.tmp 4)]) (v := Value.int .i64 11) (by kernel_rfl) (⟨by kernel_rfl, trivial⟩) ⟨11, rfl, h⟩
      · replace h := h.2 hb
        refine wpE_skip (by kernel_rfl) ?_
        change WpE _ _ c_towpathref04_Disk_Cut_23 _ _ _
        refine wpE_seq (x := c_towpathref04_Disk_Cut_24) (y := c_towpathref04_Disk_Cut_26) (by kernel_rfl) ?_
        refine wpE_region (id := 5) (ops := r_towpathref04_Disk_Cut_24) (by kernel_rfl) ?_
        refine reg_run [.plain, .plain] 2 [(0, [], Value.pointer d), (1, [], Value.int .i64 n_), (11, [], Value.pointer d), (12, [], Value.int .i64 n_)] (by kernel_rfl) (by kernel_rfl) ?_
        obtain ⟨hp_5, h⟩ := h
        refine reg_conv [(0, [], Value.pointer d), (1, [], Value.int .i64 n_), (11, [], Value.pointer (some ⟨(pblk d), (poff d), none⟩)), (12, [], Value.int .i64 n_)] (congrArg (fun pp => ([(0, [], Value.pointer d), (1, [], Value.int .i64 n_), (11, [], Value.pointer pp), (12, [], Value.int .i64 n_)] : GEnv)) hp_5) ?_
        refine reg_run [.plain] 3 [(0, [], Value.pointer d), (1, [], Value.int .i64 n_), (11, [], Value.pointer (some ⟨(pblk d), (poff d), none⟩)), (12, [], Value.int .i64 n_), (13, [], Value.pointer (some ⟨(pblk d), (poff d), none⟩))] (by kernel_rfl) (by kernel_rfl) ?_
        refine reg_run [.plain] 4 [(0, [], Value.pointer d), (1, [], Value.int .i64 n_), (12, [], Value.int .i64 n_), (14, [], Value.pointer (some ⟨(pblk d), (poff d) + 3, none⟩))] (by kernel_rfl) (by kernel_rfl) ?_
        obtain ⟨hc, h⟩ := h
        refine reg_store (t := 3) (a := (Go.Operand.tmp 14)) (x := (Go.Operand.tmp 12)) (b := (pblk d)) (o := ((poff d) + 3)) (ty := 0) (dst := none) [Value.int .i64 n_] (by kernel_rfl) (by kernel_rfl) (by kernel_rfl) (k := 1) (by kernel_rfl) (by kernel_rfl) (by kernel_rfl) hc (fun w1 hw => ?_)
        replace h := h w1 hw
        clear hw
        refine reg_end [(0, Value.pointer d), (1, Value.int .i64 n_)] (by kernel_rfl) (by kernel_rfl) ?_
        change WpE _ _ c_towpathref04_Disk_Cut_26 _ _ _
        refine wpE_seq_cut (x := c_towpathref04_Disk_Cut_27) (y := c_towpathref04_Disk_Cut_34) (by kernel_rfl) (fun l w => l = [] ∧ F_towpathref04_Disk_Cut_k0 R w) ?_ ?_
        · refine wpE_seq (x := c_towpathref04_Disk_Cut_28) (y := c_towpathref04_Disk_Cut_30) (by kernel_rfl) ?_
          refine wpE_region (id := 6) (ops := r_towpathref04_Disk_Cut_28) (by kernel_rfl) ?_
          refine reg_run [.plain, .plain] 2 [(0, [], Value.pointer d), (16, [], Value.bool (decide (n_ < 0)))] (by kernel_rfl) (by kernel_rfl) ?_
          refine reg_end [(0, Value.pointer d), (16, Value.bool (decide (n_ < 0)))] (by kernel_rfl) (by kernel_rfl) ?_
          change WpE _ _ c_towpathref04_Disk_Cut_30 _ _ _
          refine wpE_cond (o := (Operand.tmp 16)) (b := (decide (n_ < 0))) (x := c_towpathref04_Disk_Cut_31) (y := c_towpathref04_Disk_Cut_33) (by kernel_rfl) (by kernel_rfl) (fun hb => ?_) (fun hb => ?_)
          · replace h := h.1 hb
            refine wpE_region (id := 7) (ops := r_towpathref04_Disk_Cut_31) (by kernel_rfl) ?_
            refine reg_run [.plain] 1 [(17, [], Value.pointer d)] (by kernel_rfl) (by kernel_rfl) ?_
            obtain ⟨hp_7, h⟩ := h
            refine reg_conv [(17, [], Value.pointer (some ⟨(pblk d), (poff d), none⟩))] (congrArg (fun pp => ([(17, [], Value.pointer pp)] : GEnv)) hp_7) ?_
            refine reg_run [.plain] 2 [(17, [], Value.pointer (some ⟨(pblk d), (poff d), none⟩)), (18, [], Value.pointer (some ⟨(pblk d), (poff d), none⟩))] (by kernel_rfl) (by kernel_rfl) ?_
            refine reg_run [.plain] 3 [(19, [], Value.pointer (some ⟨(pblk d), (poff d) + 3, none⟩))] (by kernel_rfl) (by kernel_rfl) ?_
            obtain ⟨hc, h⟩ := h
            refine reg_store (t := 3) (a := (Go.Operand.tmp 19)) (x := (Go.Operand.const (Go.Value.int Go.IntKind.i64 (-1)))) (b := (pblk d)) (o := ((poff d) + 3)) (ty := 0) (dst := none) [Value.int .i64 (-1)] (by kernel_rfl) (by kernel_rfl) (by kernel_rfl) (k := 1) (by kernel_rfl) (by kernel_rfl) (by kernel_rfl) hc (fun w3 hw => ?_)
            replace h := h w3 hw
            clear hw
            refine reg_end [] (by kernel_rfl) (by kernel_rfl) ?_
            exact ⟨[], Sub.mk (by kernel_rfl), rfl, h⟩
          · replace h := h.2 hb
            refine wpE_skip (by kernel_rfl) ?_
            exact ⟨[], Sub.mk (by kernel_rfl), rfl, h⟩
        · rintro _ w2 ⟨rfl, h⟩
          unfold F_towpathref04_Disk_Cut_k0 at h
          refine wpE_seq (x := c_towpathref04_Disk_Cut_35) (y := c_towpathref04_Disk_Cut_37) (by kernel_rfl) ?_
          refine wpE_region (id := 8) (ops := r_towpathref04_Disk_Cut_35) (by kernel_rfl) ?_
          refine reg_run [.plain] 1 [(4, [], Value.int .i64 0)] (by kernel_rfl) (by kernel_rfl) ?_
          refine reg_end [(4, Value.int .i64 0)] (by kernel_rfl) (by kernel_rfl) ?_
          change WpE _ _ c_towpathref04_Disk_Cut_37 _ _ _
          refine wpE_ret (by kernel_rfl) ?_
          repeat (first | refine seqQ_ret ?_ | refine blockQ_ret ?_ | refine loopQ_ret ?_ | refine cutQ_ret ?_)
          exact retS (rs := [(Go.ResultVar.tmp 4)]) (v := Value.int .i64 0) (by kernel_rfl) (⟨by kernel_rfl, trivial⟩) ⟨0, rfl, h⟩
  · rintro e w' ⟨v, rfl, r0, rfl, h⟩; exact ⟨r0, rfl, h⟩

/-! ### (*towpath/towpathref04.Disk).Mend (function 21) -/
noncomputable def c_towpathref04_Disk_Mend_0 : Code := (Tryz.f21.body).getD Code.skip
noncomputable def c_towpathref04_Disk_Mend_1 : Code := Code.l c_towpathref04_Disk_Mend_0
noncomputable def r_towpathref04_Disk_Mend_1 : Array Oper := Code.ops c_towpathref04_Disk_Mend_1
noncomputable def c_towpathref04_Disk_Mend_3 : Code := Code.r c_towpathref04_Disk_Mend_0
noncomputable def c_towpathref04_Disk_Mend_4 : Code := Code.l c_towpathref04_Disk_Mend_3
noncomputable def c_towpathref04_Disk_Mend_5 : Code := Code.l c_towpathref04_Disk_Mend_4
noncomputable def r_towpathref04_Disk_Mend_5 : Array Oper := Code.ops c_towpathref04_Disk_Mend_5
noncomputable def c_towpathref04_Disk_Mend_7 : Code := Code.r c_towpathref04_Disk_Mend_4
noncomputable def c_towpathref04_Disk_Mend_8 : Code := Code.l c_towpathref04_Disk_Mend_7
noncomputable def c_towpathref04_Disk_Mend_9 : Code := Code.l c_towpathref04_Disk_Mend_8
noncomputable def r_towpathref04_Disk_Mend_9 : Array Oper := Code.ops c_towpathref04_Disk_Mend_9
noncomputable def c_towpathref04_Disk_Mend_11 : Code := Code.r c_towpathref04_Disk_Mend_8
noncomputable def c_towpathref04_Disk_Mend_12 : Code := Code.r c_towpathref04_Disk_Mend_7
noncomputable def c_towpathref04_Disk_Mend_13 : Code := Code.r c_towpathref04_Disk_Mend_3
noncomputable def c_towpathref04_Disk_Mend_14 : Code := Code.l c_towpathref04_Disk_Mend_13
noncomputable def r_towpathref04_Disk_Mend_14 : Array Oper := Code.ops c_towpathref04_Disk_Mend_14
noncomputable def c_towpathref04_Disk_Mend_16 : Code := Code.r c_towpathref04_Disk_Mend_13
noncomputable def c_towpathref04_Disk_Mend_17 : Code := Code.l c_towpathref04_Disk_Mend_16
noncomputable def r_towpathref04_Disk_Mend_17 : Array Oper := Code.ops c_towpathref04_Disk_Mend_17
noncomputable def c_towpathref04_Disk_Mend_19 : Code := Code.r c_towpathref04_Disk_Mend_16
noncomputable def c_towpathref04_Disk_Mend_20 : Code := Code.l c_towpathref04_Disk_Mend_19
noncomputable def r_towpathref04_Disk_Mend_20 : Array Oper := Code.ops c_towpathref04_Disk_Mend_20
noncomputable def c_towpathref04_Disk_Mend_22 : Code := Code.r c_towpathref04_Disk_Mend_19

set_option maxRecDepth 100000 in
set_option maxHeartbeats 4000000 in
theorem S_towpathref04_Disk_Mend {d : Option Addr} {w : World} {R : Int → World → Prop} (h : F_towpathref04_Disk_Mend d R w) : C_towpathref04_Disk_Mend d w R := by
  unfold F_towpathref04_Disk_Mend at h
  unfold C_towpathref04_Disk_Mend
  refine Calls.mono (calls_of_wpE (args := [Value.pointer d]) (R := fun v w' => ∃ (r0 : Int), v = Value.int .i64 r0 ∧ R r0 w') Tryz.func21 (c := c_towpathref04_Disk_Mend_0) (by kernel_rfl) 11 (by kernel_rfl) (by kernel_rfl) [(0, Value.pointer d)] (by kernel_rfl) ?_) ?_
  · refine wpE_seq (x := c_towpathref04_Disk_Mend_1) (y := c_towpathref04_Disk_Mend_3) (by kernel_rfl) ?_
    refine wpE_region (id := 0) (ops := r_towpathref04_Disk_Mend_1) (by kernel_rfl) ?_
    refine reg_run [.plain] 1 [(0, [], Value.pointer d)] (by kernel_rfl) (by kernel_rfl) ?_
    refine reg_end [(0, Value.pointer d)] (by kernel_rfl) (by kernel_rfl) ?_
    change WpE _ _ c_towpathref04_Disk_Mend_3 _ _ _
    refine wpE_seq (x := c_towpathref04_Disk_Mend_4) (y := c_towpathref04_Disk_Mend_13) (by kernel_rfl) ?_
    refine wpE_seq (x := c_towpathref04_Disk_Mend_5) (y := c_towpathref04_Disk_Mend_7) (by kernel_rfl) ?_
    refine wpE_region (id := 1) (ops := r_towpathref04_Disk_Mend_5) (by kernel_rfl) ?_
    refine reg_run [.plain] 1 [(0, [], Value.pointer d), (3, [], Value.pointer d)] (by kernel_rfl) (by kernel_rfl) ?_
    refine reg_val (op := (Go.Op.binOp Go.BinOp.eql 28 (Go.Operand.tmp 3) (Go.Operand.const (Go.Value.pointer none)) 28)) (ty := 4) (dst := some 4) (Value.bool d.isNone) (by kernel_rfl) (fun ww => run_ptr_eql_R (p := d) (by kernel_rfl) (by kernel_rfl) (by kernel_rfl) ww) ?_
    refine reg_end [(0, Value.pointer d), (4, Value.bool d.isNone)] (by kernel_rfl) (by kernel_rfl) ?_
    change WpE _ _ c_towpathref04_Disk_Mend_7 _ _ _
    refine wpE_cond (o := (Operand.tmp 4)) (b := d.isNone) (x := c_towpathref04_Disk_Mend_8) (y := c_towpathref04_Disk_Mend_12) (by kernel_rfl) (by kernel_rfl) (fun hb => ?_) (fun hb => ?_)
    · replace h := h.1 hb
      refine wpE_seq (x := c_towpathref04_Disk_Mend_9) (y := c_towpathref04_Disk_Mend_11) (by kernel_rfl) ?_
      refine wpE_region (id := 2) (ops := r_towpathref04_Disk_Mend_9) (by kernel_rfl) ?_
      refine reg_run [.plain] 1 [(2, [], Value.int .i64 2)] (by kernel_rfl) (by kernel_rfl) ?_
      refine reg_end [(2, Value.int .i64 2)] (by kernel_rfl) (by kernel_rfl) ?_
      change WpE _ _ c_towpathref04_Disk_Mend_11 _ _ _
      refine wpE_ret (by kernel_rfl) ?_
      repeat (first | refine seqQ_ret ?_ | refine blockQ_ret ?_ | refine loopQ_ret ?_ | refine cutQ_ret ?_)
      exact retS (rs := [(Go.ResultVar.tmp 2)]) (v := Value.int .i64 2) (by kernel_rfl) (⟨by kernel_rfl, trivial⟩) ⟨2, rfl, h⟩
    · replace h := h.2 hb
      refine wpE_skip (by kernel_rfl) ?_
      change WpE _ _ c_towpathref04_Disk_Mend_13 _ _ _
      refine wpE_seq (x := c_towpathref04_Disk_Mend_14) (y := c_towpathref04_Disk_Mend_16) (by kernel_rfl) ?_
      refine wpE_region (id := 3) (ops := r_towpathref04_Disk_Mend_14) (by kernel_rfl) ?_
      refine reg_run [.plain] 1 [(0, [], Value.pointer d), (5, [], Value.pointer d)] (by kernel_rfl) (by kernel_rfl) ?_
      obtain ⟨hp_1, h⟩ := h
      refine reg_conv [(0, [], Value.pointer d), (5, [], Value.pointer (some ⟨(pblk d), (poff d), none⟩))] (congrArg (fun pp => ([(0, [], Value.pointer d), (5, [], Value.pointer pp)] : GEnv)) hp_1) ?_
      refine reg_run [.plain] 2 [(0, [], Value.pointer d), (5, [], Value.pointer (some ⟨(pblk d), (poff d), none⟩)), (6, [], Value.pointer (some ⟨(pblk d), (poff d), none⟩))] (by kernel_rfl) (by kernel_rfl) ?_
      refine reg_run [.plain] 3 [(0, [], Value.pointer d), (7, [], Value.pointer (some ⟨(pblk d), (poff d) + 4, none⟩))] (by kernel_rfl) (by kernel_rfl) ?_
      obtain ⟨hc, h⟩ := h
      refine reg_store (t := 4) (a := (Go.Operand.tmp 7)) (x := (Go.Operand.const (Go.Value.bool false))) (b := (pblk d)) (o := ((poff d) + 4)) (ty := 0) (dst := none) [Value.bool false] (by kernel_rfl) (by kernel_rfl) (by kernel_rfl) (k := 1) (by kernel_rfl) (by kernel_rfl) (by kernel_rfl) hc (fun w1 hw => ?_)
      replace h := h w1 hw
      clear hw
      refine reg_end [(0, Value.pointer d)] (by kernel_rfl) (by kernel_rfl) ?_
      change WpE _ _ c_towpathref04_Disk_Mend_16 _ _ _
      refine wpE_seq (x := c_towpathref04_Disk_Mend_17) (y := c_towpathref04_Disk_Mend_19) (by kernel_rfl) ?_
      refine wpE_region (id := 4) (ops := r_towpathref04_Disk_Mend_17) (by kernel_rfl) ?_
      refine reg_run [.plain] 1 [(8, [], Value.pointer d)] (by kernel_rfl) (by kernel_rfl) ?_
      obtain ⟨hp_3, h⟩ := h
      refine reg_conv [(8, [], Value.pointer (some ⟨(pblk d), (poff d), none⟩))] (congrArg (fun pp => ([(8, [], Value.pointer pp)] : GEnv)) hp_3) ?_
      refine reg_run [.plain] 2 [(8, [], Value.pointer (some ⟨(pblk d), (poff d), none⟩)), (9, [], Value.pointer (some ⟨(pblk d), (poff d), none⟩))] (by kernel_rfl) (by kernel_rfl) ?_
      refine reg_run [.plain] 3 [(10, [], Value.pointer (some ⟨(pblk d), (poff d) + 3, none⟩))] (by kernel_rfl) (by kernel_rfl) ?_
      obtain ⟨hc, h⟩ := h
      refine reg_store (t := 3) (a := (Go.Operand.tmp 10)) (x := (Go.Operand.const (Go.Value.int Go.IntKind.i64 (-1)))) (b := (pblk d)) (o := ((poff d) + 3)) (ty := 0) (dst := none) [Value.int .i64 (-1)] (by kernel_rfl) (by kernel_rfl) (by kernel_rfl) (k := 1) (by kernel_rfl) (by kernel_rfl) (by kernel_rfl) hc (fun w2 hw => ?_)
      replace h := h w2 hw
      clear hw
      refine reg_end [] (by kernel_rfl) (by kernel_rfl) ?_
      change WpE _ _ c_towpathref04_Disk_Mend_19 _ _ _
      refine wpE_seq (x := c_towpathref04_Disk_Mend_20) (y := c_towpathref04_Disk_Mend_22) (by kernel_rfl) ?_
      refine wpE_region (id := 5) (ops := r_towpathref04_Disk_Mend_20) (by kernel_rfl) ?_
      refine reg_run [.plain] 1 [(2, [], Value.int .i64 0)] (by kernel_rfl) (by kernel_rfl) ?_
      refine reg_end [(2, Value.int .i64 0)] (by kernel_rfl) (by kernel_rfl) ?_
      change WpE _ _ c_towpathref04_Disk_Mend_22 _ _ _
      refine wpE_ret (by kernel_rfl) ?_
      repeat (first | refine seqQ_ret ?_ | refine blockQ_ret ?_ | refine loopQ_ret ?_ | refine cutQ_ret ?_)
      exact retS (rs := [(Go.ResultVar.tmp 2)]) (v := Value.int .i64 0) (by kernel_rfl) (⟨by kernel_rfl, trivial⟩) ⟨0, rfl, h⟩
  · rintro e w' ⟨v, rfl, r0, rfl, h⟩; exact ⟨r0, rfl, h⟩

/-! ### (*towpath/towpathref04.Disk).Read (function 22) -/
noncomputable def c_towpathref04_Disk_Read_0 : Code := (Tryz.f22.body).getD Code.skip
noncomputable def c_towpathref04_Disk_Read_1 : Code := Code.l c_towpathref04_Disk_Read_0
noncomputable def r_towpathref04_Disk_Read_1 : Array Oper := Code.ops c_towpathref04_Disk_Read_1
noncomputable def c_towpathref04_Disk_Read_3 : Code := Code.r c_towpathref04_Disk_Read_0
noncomputable def c_towpathref04_Disk_Read_4 : Code := Code.l c_towpathref04_Disk_Read_3
noncomputable def c_towpathref04_Disk_Read_5 : Code := Code.l c_towpathref04_Disk_Read_4
noncomputable def r_towpathref04_Disk_Read_5 : Array Oper := Code.ops c_towpathref04_Disk_Read_5
noncomputable def c_towpathref04_Disk_Read_7 : Code := Code.r c_towpathref04_Disk_Read_4
noncomputable def c_towpathref04_Disk_Read_8 : Code := Code.l c_towpathref04_Disk_Read_7
noncomputable def c_towpathref04_Disk_Read_9 : Code := Code.l c_towpathref04_Disk_Read_8
noncomputable def r_towpathref04_Disk_Read_9 : Array Oper := Code.ops c_towpathref04_Disk_Read_9
noncomputable def c_towpathref04_Disk_Read_11 : Code := Code.r c_towpathref04_Disk_Read_8
noncomputable def c_towpathref04_Disk_Read_12 : Code := Code.r c_towpathref04_Disk_Read_7
noncomputable def c_towpathref04_Disk_Read_13 : Code := Code.r c_towpathref04_Disk_Read_3
noncomputable def c_towpathref04_Disk_Read_14 : Code := Code.l c_towpathref04_Disk_Read_13
noncomputable def c_towpathref04_Disk_Read_15 : Code := Code.l c_towpathref04_Disk_Read_14
noncomputable def r_towpathref04_Disk_Read_15 : Array Oper := Code.ops c_towpathref04_Disk_Read_15
noncomputable def c_towpathref04_Disk_Read_17 : Code := Code.r c_towpathref04_Disk_Read_14
noncomputable def c_towpathref04_Disk_Read_18 : Code := Code.l c_towpathref04_Disk_Read_17
noncomputable def c_towpathref04_Disk_Read_19 : Code := Code.l c_towpathref04_Disk_Read_18
noncomputable def r_towpathref04_Disk_Read_19 : Array Oper := Code.ops c_towpathref04_Disk_Read_19
noncomputable def c_towpathref04_Disk_Read_21 : Code := Code.r c_towpathref04_Disk_Read_18
noncomputable def c_towpathref04_Disk_Read_22 : Code := Code.r c_towpathref04_Disk_Read_17
noncomputable def c_towpathref04_Disk_Read_23 : Code := Code.r c_towpathref04_Disk_Read_13
noncomputable def c_towpathref04_Disk_Read_24 : Code := Code.l c_towpathref04_Disk_Read_23
noncomputable def r_towpathref04_Disk_Read_24 : Array Oper := Code.ops c_towpathref04_Disk_Read_24
noncomputable def c_towpathref04_Disk_Read_26 : Code := Code.r c_towpathref04_Disk_Read_23

set_option maxRecDepth 100000 in
set_option maxHeartbeats 4000000 in
theorem S_towpathref04_Disk_Read {d : Option Addr} {slot : Int} {w : World} {R : Slc → Int → World → Prop} (h : F_towpathref04_Disk_Read d slot R w) : C_towpathref04_Disk_Read d slot w R := by
  unfold F_towpathref04_Disk_Read at h
  unfold C_towpathref04_Disk_Read
  refine Calls.mono (calls_of_wpE (args := [Value.pointer d, Value.int .i64 slot]) (R := fun v w' => ∃ (r0 : Slc) (r1 : Int), v = Value.tuple #[Value.slice r0.ptr r0.len r0.cap, Value.int .i64 r1] ∧ R r0 r1 w') Tryz.func22 (c := c_towpathref04_Disk_Read_0) (by kernel_rfl) 20 (by kernel_rfl) (by kernel_rfl) [(0, Value.pointer d), (1, Value.int .i64 slot)] (by kernel_rfl) ?_) ?_
  · refine wpE_seq (x := c_towpathref04_Disk_Read_1) (y := c_towpathref04_Disk_Read_3) (by kernel_rfl) ?_
    refine wpE_region (id := 0) (ops := r_towpathref04_Disk_Read_1) (by kernel_rfl) ?_
    refine reg_run [.plain, .plain] 2 [(0, [], Value.pointer d), (1, [], Value.int .i64 slot)] (by kernel_rfl) (by kernel_rfl) ?_
    refine reg_end [(0, Value.pointer d), (1, Value.int .i64 slot)] (by kernel_rfl) (by kernel_rfl) ?_
    change WpE _ _ c_towpathref04_Disk_Read_3 _ _ _
    refine wpE_seq (x := c_towpathref04_Disk_Read_4) (y := c_towpathref04_Disk_Read_13) (by kernel_rfl) ?_
    refine wpE_seq (x := c_towpathref04_Disk_Read_5) (y := c_towpathref04_Disk_Read_7) (by kernel_rfl) ?_
    refine wpE_region (id := 1) (ops := r_towpathref04_Disk_Read_5) (by kernel_rfl) ?_
    refine reg_run [.plain] 1 [(0, [], Value.pointer d), (1, [], Value.int .i64 slot), (6, [], Value.pointer d)] (by kernel_rfl) (by kernel_rfl) ?_
    refine reg_val (op := (Go.Op.binOp Go.BinOp.eql 28 (Go.Operand.tmp 6) (Go.Operand.const (Go.Value.pointer none)) 28)) (ty := 4) (dst := some 7) (Value.bool d.isNone) (by kernel_rfl) (fun ww => run_ptr_eql_R (p := d) (by kernel_rfl) (by kernel_rfl) (by kernel_rfl) ww) ?_
    refine reg_end [(0, Value.pointer d), (1, Value.int .i64 slot), (7, Value.bool d.isNone)] (by kernel_rfl) (by kernel_rfl) ?_
    change WpE _ _ c_towpathref04_Disk_Read_7 _ _ _
    refine wpE_cond (o := (Operand.tmp 7)) (b := d.isNone) (x := c_towpathref04_Disk_Read_8) (y := c_towpathref04_Disk_Read_12) (by kernel_rfl) (by kernel_rfl) (fun hb => ?_) (fun hb => ?_)
    · replace h := h.1 hb
      refine wpE_seq (x := c_towpathref04_Disk_Read_9) (y := c_towpathref04_Disk_Read_11) (by kernel_rfl) ?_
      refine wpE_region (id := 2) (ops := r_towpathref04_Disk_Read_9) (by kernel_rfl) ?_
      refine reg_run [.plain, .plain] 2 [(4, [], Value.slice none 0 0), (5, [], Value.int .i64 2)] (by kernel_rfl) (by kernel_rfl) ?_
      refine reg_end [(4, Value.slice none 0 0), (5, Value.int .i64 2)] (by kernel_rfl) (by kernel_rfl) ?_
      change WpE _ _ c_towpathref04_Disk_Read_11 _ _ _
      refine wpE_ret (by kernel_rfl) ?_
      repeat (first | refine seqQ_ret ?_ | refine blockQ_ret ?_ | refine loopQ_ret ?_ | refine cutQ_ret ?_)
      exact retT (rs := [(Go.ResultVar.tmp 4), (Go.ResultVar.tmp 5)]) (vs := [Value.slice none 0 0, Value.int .i64 2]) (by kernel_rfl) (⟨by kernel_rfl, ⟨by kernel_rfl, trivial⟩⟩) (by kernel_rfl) ⟨(Slc.mk none 0 0), 2, rfl, h⟩
    · replace h := h.2 hb
      refine wpE_skip (by kernel_rfl) ?_
      change WpE _ _ c_towpathref04_Disk_Read_13 _ _ _
      refine wpE_seq (x := c_towpathref04_Disk_Read_14) (y := c_towpathref04_Disk_Read_23) (by kernel_rfl) ?_
      refine wpE_seq (x := c_towpathref04_Disk_Read_15) (y := c_towpathref04_Disk_Read_17) (by kernel_rfl) ?_
      refine wpE_region (id := 3) (ops := r_towpathref04_Disk_Read_15) (by kernel_rfl) ?_
      refine reg_run [.plain, .plain, .plain, .plain, .plain, .pick] 6 [(0, [], Value.pointer d), (1, [], Value.int .i64 slot), (13, [], Value.bool ((slot != 0) && (slot != 1)))] (by kernel_rfl) (by kernel_rfl) ?_
      refine reg_end [(0, Value.pointer d), (1, Value.int .i64 slot), (13, Value.bool ((slot != 0) && (slot != 1)))] (by kernel_rfl) (by kernel_rfl) ?_
      change WpE _ _ c_towpathref04_Disk_Read_17 _ _ _
      refine wpE_cond (o := (Operand.tmp 13)) (b := ((slot != 0) && (slot != 1))) (x := c_towpathref04_Disk_Read_18) (y := c_towpathref04_Disk_Read_22) (by kernel_rfl) (by kernel_rfl) (fun hb => ?_) (fun hb => ?_)
      · replace h := h.1 hb
        refine wpE_seq (x := c_towpathref04_Disk_Read_19) (y := c_towpathref04_Disk_Read_21) (by kernel_rfl) ?_
        refine wpE_region (id := 4) (ops := r_towpathref04_Disk_Read_19) (by kernel_rfl) ?_
        refine reg_run [.plain, .plain] 2 [(4, [], Value.slice none 0 0), (5, [], Value.int .i64 1)] (by kernel_rfl) (by kernel_rfl) ?_
        refine reg_end [(4, Value.slice none 0 0), (5, Value.int .i64 1)] (by kernel_rfl) (by kernel_rfl) ?_
        change WpE _ _ c_towpathref04_Disk_Read_21 _ _ _
        refine wpE_ret (by kernel_rfl) ?_
        repeat (first | refine seqQ_ret ?_ | refine blockQ_ret ?_ | refine loopQ_ret ?_ | refine cutQ_ret ?_)
        exact retT (rs := [(Go.ResultVar.tmp 4), (Go.ResultVar.tmp 5)]) (vs := [Value.slice none 0 0, Value.int .i64 1]) (by kernel_rfl) (⟨by kernel_rfl, ⟨by kernel_rfl, trivial⟩⟩) (by kernel_rfl) ⟨(Slc.mk none 0 0), 1, rfl, h⟩
      · replace h := h.2 hb
        refine wpE_skip (by kernel_rfl) ?_
        change WpE _ _ c_towpathref04_Disk_Read_23 _ _ _
        refine wpE_seq (x := c_towpathref04_Disk_Read_24) (y := c_towpathref04_Disk_Read_26) (by kernel_rfl) ?_
        refine wpE_region (id := 5) (ops := r_towpathref04_Disk_Read_24) (by kernel_rfl) ?_
        refine reg_run [.plain, .plain] 2 [(14, [], Value.pointer d), (15, [], Value.int .i64 slot)] (by kernel_rfl) (by kernel_rfl) ?_
        obtain ⟨hp_0, h⟩ := h
        refine reg_conv [(14, [], Value.pointer (some ⟨(pblk d), (poff d), none⟩)), (15, [], Value.int .i64 slot)] (congrArg (fun pp => ([(14, [], Value.pointer pp), (15, [], Value.int .i64 slot)] : GEnv)) hp_0) ?_
        refine reg_run [.plain] 3 [(14, [], Value.pointer (some ⟨(pblk d), (poff d), none⟩)), (15, [], Value.int .i64 slot), (16, [], Value.pointer (some ⟨(pblk d), (poff d), none⟩))] (by kernel_rfl) (by kernel_rfl) ?_
        refine reg_run [.plain] 4 [(15, [], Value.int .i64 slot), (17, [], Value.pointer (some ⟨(pblk d), (poff d) + 1, none⟩))] (by kernel_rfl) (by kernel_rfl) ?_
        obtain ⟨h0, h1, h⟩ := h
        refine reg_indexA1 (t := 54) (e := 45) (x := (Go.Operand.tmp 17)) (ix := (Go.Operand.tmp 15)) (b := (pblk d)) (o := ((poff d) + 1)) (len := 2) (k := .i64) (j := slot) (ty := 0) (dst := some 18) (by kernel_rfl) (by kernel_rfl) (by kernel_rfl) (by kernel_rfl) (by kernel_rfl) h0 h1 ?_
        refine reg_run [] 5 [(18, [], Value.pointer (some ⟨(pblk d), ((poff d) + 1) + slot.toNat, none⟩))] (by kernel_rfl) (by kernel_rfl) ?_
        obtain ⟨v19, hc, h⟩ := h
        refine reg_load1 (t := 45) (a := (Go.Operand.tmp 18)) (b := (pblk d)) (o := (((poff d) + 1) + slot.toNat)) (ty := 45) (dst := some 19) (by kernel_rfl) (by kernel_rfl) (by kernel_rfl) hc ?_
        refine reg_run [.plain, .plain] 8 [(4, [], Value.slice v19.ptr v19.len v19.cap), (5, [], Value.int .i64 0)] (by kernel_rfl) (by kernel_rfl) ?_
        refine reg_end [(4, Value.slice v19.ptr v19.len v19.cap), (5, Value.int .i64 0)] (by kernel_rfl) (by kernel_rfl) ?_
        change WpE _ _ c_towpathref04_Disk_Read_26 _ _ _
        refine wpE_ret (by kernel_rfl) ?_
        repeat (first | refine seqQ_ret ?_ | refine blockQ_ret ?_ | refine loopQ_ret ?_ | refine cutQ_ret ?_)
        exact retT (rs := [(Go.ResultVar.tmp 4), (Go.ResultVar.tmp 5)]) (vs := [Value.slice v19.ptr v19.len v19.cap, Value.int .i64 0]) (by kernel_rfl) (⟨by kernel_rfl, ⟨by kernel_rfl, trivial⟩⟩) (by kernel_rfl) ⟨v19, 0, rfl, h⟩
  · rintro e w' ⟨v, rfl, r0, r1, rfl, h⟩; exact ⟨r0, r1, rfl, h⟩

/-! ### (*towpath/towpathref04.Disk).Dead (function 25) -/
noncomputable def c_towpathref04_Disk_Dead_0 : Code := (Tryz.f25.body).getD Code.skip
noncomputable def c_towpathref04_Disk_Dead_1 : Code := Code.l c_towpathref04_Disk_Dead_0
noncomputable def r_towpathref04_Disk_Dead_1 : Array Oper := Code.ops c_towpathref04_Disk_Dead_1
noncomputable def c_towpathref04_Disk_Dead_3 : Code := Code.r c_towpathref04_Disk_Dead_0
noncomputable def c_towpathref04_Disk_Dead_4 : Code := Code.l c_towpathref04_Disk_Dead_3
noncomputable def r_towpathref04_Disk_Dead_4 : Array Oper := Code.ops c_towpathref04_Disk_Dead_4
noncomputable def c_towpathref04_Disk_Dead_6 : Code := Code.r c_towpathref04_Disk_Dead_3

set_option maxRecDepth 100000 in
set_option maxHeartbeats 4000000 in
theorem S_towpathref04_Disk_Dead {d : Option Addr} {w : World} {R : Bool → World → Prop} (h : F_towpathref04_Disk_Dead d R w) : C_towpathref04_Disk_Dead d w R := by
  unfold F_towpathref04_Disk_Dead at h
  unfold C_towpathref04_Disk_Dead
  refine Calls.mono (calls_of_wpE (args := [Value.pointer d]) (R := fun v w' => ∃ (r0 : Bool), v = Value.bool r0 ∧ R r0 w') Tryz.func25 (c := c_towpathref04_Disk_Dead_0) (by kernel_rfl) 11 (by kernel_rfl) (by kernel_rfl) [(0, Value.pointer d)] (by kernel_rfl) ?_) ?_
  · refine wpE_seq (x := c_towpathref04_Disk_Dead_1) (y := c_towpathref04_Disk_Dead_3) (by kernel_rfl) ?_
    refine wpE_region (id := 0) (ops := r_towpathref04_Disk_Dead_1) (by kernel_rfl) ?_
    refine reg_run [.plain] 1 [(0, [], Value.pointer d)] (by kernel_rfl) (by kernel_rfl) ?_
    refine reg_end [(0, Value.pointer d)] (by kernel_rfl) (by kernel_rfl) ?_
    change WpE _ _ c_towpathref04_Disk_Dead_3 _ _ _
    refine wpE_seq (x := c_towpathref04_Disk_Dead_4) (y := c_towpathref04_Disk_Dead_6) (by kernel_rfl) ?_
    refine wpE_region (id := 1) (ops := r_towpathref04_Disk_Dead_4) (by kernel_rfl) ?_
    refine reg_run [.plain] 1 [(0, [], Value.pointer d), (3, [], Value.pointer d)] (by kernel_rfl) (by kernel_rfl) ?_
    refine reg_val (op := (Go.Op.binOp Go.BinOp.neq 28 (Go.Operand.tmp 3) (Go.Operand.const (Go.Value.pointer none)) 28)) (ty := 4) (dst := some 4) (Value.bool (!d.isNone)) (by kernel_rfl) (fun ww => run_ptr_neq_R (p := d) (by kernel_rfl) (by kernel_rfl) (by kernel_rfl) ww) ?_
    refine reg_run [.plain, .plain] 4 [(5, [], Value.bool (!d.isNone)), (6, [(5, true)], Value.pointer d)] (by kernel_rfl) (by kernel_rfl) ?_
    refine reg_split 5 (!d.isNone) (by kernel_rfl) (fun hb => ?_) (fun hb => ?_)
    · replace h := h.1 hb
      refine reg_run [] 4 [(5, [], Value.bool true), (6, [], Value.pointer d)] (by kernel_rfl) (by kernel_rfl) ?_
      refine reg_run [] 4 [(5, [], Value.bool true), (6, [], Value.pointer d)] (by kernel_rfl) (by kernel_rfl) ?_
      obtain ⟨hp_0, h⟩ := h
      refine reg_conv [(5, [], Value.bool true), (6, [], Value.pointer (some ⟨(pblk d), (poff d), none⟩))] (congrArg (fun pp => ([(5, [], Value.bool true), (6, [], Value.pointer pp)] : GEnv)) hp_0) ?_
      refine reg_run [.sure] 5 [(5, [], Value.bool true), (6, [], Value.pointer (some ⟨(pblk d), (poff d), none⟩)), (7, [], Value.pointer (some ⟨(pblk d), (poff d), none⟩))] (by kernel_rfl) (by kernel_rfl) ?_
      refine reg_run [.sure] 6 [(5, [], Value.bool true), (8, [], Value.pointer (some ⟨(pblk d), (poff d) + 4, none⟩))] (by kernel_rfl) (by kernel_rfl) ?_
      obtain ⟨v9, hc, h⟩ := h
      refine reg_load1 (t := 4) (a := (Go.Operand.tmp 8)) (b := (pblk d)) (o := ((poff d) + 4)) (ty := 4) (dst := some 9) (by kernel_rfl) (by kernel_rfl) (by kernel_rfl) hc ?_
      refine reg_run [.plain, .plain] 9 [(2, [], Value.bool v9)] (by kernel_rfl) (by kernel_rfl) ?_
      refine reg_end [(2, Value.bool v9)] (by kernel_rfl) (by kernel_rfl) ?_
      change WpE _ _ c_towpathref04_Disk_Dead_6 _ _ _
      refine wpE_ret (by kernel_rfl) ?_
      repeat (first | refine seqQ_ret ?_ | refine blockQ_ret ?_ | refine loopQ_ret ?_ | refine cutQ_ret ?_)
      exact retS (rs := [(Go.ResultVar.tmp 2)]) (v := Value.bool v9) (by kernel_rfl) (⟨by kernel_rfl, trivial⟩) ⟨v9, rfl, h⟩
    · replace h := h.2 hb
      refine reg_run [] 4 [(5, [], Value.bool false), (6, [], undef)] (by kernel_rfl) (by kernel_rfl) ?_
      refine reg_run [.skip, .skip, .skip, .plain, .plain] 9 [(2, [], Value.bool false)] (by kernel_rfl) (by kernel_rfl) ?_
      refine reg_end [(2, Value.bool false)] (by kernel_rfl) (by kernel_rfl) ?_
      change WpE _ _ c_towpathref04_Disk_Dead_6 _ _ _
      refine wpE_ret (by kernel_rfl) ?_
      repeat (first | refine seqQ_ret ?_ | refine blockQ_ret ?_ | refine loopQ_ret ?_ | refine cutQ_ret ?_)
      exact retS (rs := [(Go.ResultVar.tmp 2)]) (v := Value.bool false) (by kernel_rfl) (⟨by kernel_rfl, trivial⟩) ⟨false, rfl, h⟩
  · rintro e w' ⟨v, rfl, r0, rfl, h⟩; exact ⟨r0, rfl, h⟩

/-! ### (*towpath/towpathref04.Disk).Capacity (function 27) -/
noncomputable def c_towpathref04_Disk_Capacity_0 : Code := (Tryz.f27.body).getD Code.skip
noncomputable def c_towpathref04_Disk_Capacity_1 : Code := Code.l c_towpathref04_Disk_Capacity_0
noncomputable def r_towpathref04_Disk_Capacity_1 : Array Oper := Code.ops c_towpathref04_Disk_Capacity_1
noncomputable def c_towpathref04_Disk_Capacity_3 : Code := Code.r c_towpathref04_Disk_Capacity_0
noncomputable def c_towpathref04_Disk_Capacity_4 : Code := Code.l c_towpathref04_Disk_Capacity_3
noncomputable def c_towpathref04_Disk_Capacity_5 : Code := Code.l c_towpathref04_Disk_Capacity_4
noncomputable def r_towpathref04_Disk_Capacity_5 : Array Oper := Code.ops c_towpathref04_Disk_Capacity_5
noncomputable def c_towpathref04_Disk_Capacity_7 : Code := Code.r c_towpathref04_Disk_Capacity_4
noncomputable def c_towpathref04_Disk_Capacity_8 : Code := Code.l c_towpathref04_Disk_Capacity_7
noncomputable def c_towpathref04_Disk_Capacity_9 : Code := Code.l c_towpathref04_Disk_Capacity_8
noncomputable def r_towpathref04_Disk_Capacity_9 : Array Oper := Code.ops c_towpathref04_Disk_Capacity_9
noncomputable def c_towpathref04_Disk_Capacity_11 : Code := Code.r c_towpathref04_Disk_Capacity_8
noncomputable def c_towpathref04_Disk_Capacity_12 : Code := Code.r c_towpathref04_Disk_Capacity_7
noncomputable def c_towpathref04_Disk_Capacity_13 : Code := Code.r c_towpathref04_Disk_Capacity_3
noncomputable def c_towpathref04_Disk_Capacity_14 : Code := Code.l c_towpathref04_Disk_Capacity_13
noncomputable def r_towpathref04_Disk_Capacity_14 : Array Oper := Code.ops c_towpathref04_Disk_Capacity_14
noncomputable def c_towpathref04_Disk_Capacity_16 : Code := Code.r c_towpathref04_Disk_Capacity_13

set_option maxRecDepth 100000 in
set_option maxHeartbeats 4000000 in
theorem S_towpathref04_Disk_Capacity {d : Option Addr} {w : World} {R : Int → World → Prop} (h : F_towpathref04_Disk_Capacity d R w) : C_towpathref04_Disk_Capacity d w R := by
  unfold F_towpathref04_Disk_Capacity at h
  unfold C_towpathref04_Disk_Capacity
  refine Calls.mono (calls_of_wpE (args := [Value.pointer d]) (R := fun v w' => ∃ (r0 : Int), v = Value.int .i64 r0 ∧ R r0 w') Tryz.func27 (c := c_towpathref04_Disk_Capacity_0) (by kernel_rfl) 9 (by kernel_rfl) (by kernel_rfl) [(0, Value.pointer d)] (by kernel_rfl) ?_) ?_
  · refine wpE_seq (x := c_towpathref04_Disk_Capacity_1) (y := c_towpathref04_Disk_Capacity_3) (by kernel_rfl) ?_
    refine wpE_region (id := 0) (ops := r_towpathref04_Disk_Capacity_1) (by kernel_rfl) ?_
    refine reg_run [.plain] 1 [(0, [], Value.pointer d)] (by kernel_rfl) (by kernel_rfl) ?_
    refine reg_end [(0, Value.pointer d)] (by kernel_rfl) (by kernel_rfl) ?_
    change WpE _ _ c_towpathref04_Disk_Capacity_3 _ _ _
    refine wpE_seq (x := c_towpathref04_Disk_Capacity_4) (y := c_towpathref04_Disk_Capacity_13) (by kernel_rfl) ?_
    refine wpE_seq (x := c_towpathref04_Disk_Capacity_5) (y := c_towpathref04_Disk_Capacity_7) (by kernel_rfl) ?_
    refine wpE_region (id := 1) (ops := r_towpathref04_Disk_Capacity_5) (by kernel_rfl) ?_
    refine reg_run [.plain] 1 [(0, [], Value.pointer d), (3, [], Value.pointer d)] (by kernel_rfl) (by kernel_rfl) ?_
    refine reg_val (op := (Go.Op.binOp Go.BinOp.eql 28 (Go.Operand.tmp 3) (Go.Operand.const (Go.Value.pointer none)) 28)) (ty := 4) (dst := some 4) (Value.bool d.isNone) (by kernel_rfl) (fun ww => run_ptr_eql_R (p := d) (by kernel_rfl) (by kernel_rfl) (by kernel_rfl) ww) ?_
    refine reg_end [(0, Value.pointer d), (4, Value.bool d.isNone)] (by kernel_rfl) (by kernel_rfl) ?_
    change WpE _ _ c_towpathref04_Disk_Capacity_7 _ _ _
    refine wpE_cond (o := (Operand.tmp 4)) (b := d.isNone) (x := c_towpathref04_Disk_Capacity_8) (y := c_towpathref04_Disk_Capacity_12) (by kernel_rfl) (by kernel_rfl) (fun hb => ?_) (fun hb => ?_)
    · replace h := h.1 hb
      refine wpE_seq (x := c_towpathref04_Disk_Capacity_9) (y := c_towpathref04_Disk_Capacity_11) (by kernel_rfl) ?_
      refine wpE_region (id := 2) (ops := r_towpathref04_Disk_Capacity_9) (by kernel_rfl) ?_
      refine reg_run [.plain] 1 [(2, [], Value.int .i64 0)] (by kernel_rfl) (by kernel_rfl) ?_
      refine reg_end [(2, Value.int .i64 0)] (by kernel_rfl) (by kernel_rfl) ?_
      change WpE _ _ c_towpathref04_Disk_Capacity_11 _ _ _
      refine wpE_ret (by kernel_rfl) ?_
      repeat (first | refine seqQ_ret ?_ | refine blockQ_ret ?_ | refine loopQ_ret ?_ | refine cutQ_ret ?_)
      exact retS (rs := [(Go.ResultVar.tmp 2)]) (v := Value.int .i64 0) (by kernel_rfl) (⟨by kernel_rfl, trivial⟩) ⟨0, rfl, h⟩
    · replace h := h.2 hb
      refine wpE_skip (by kernel_rfl) ?_
      change WpE _ _ c_towpathref04_Disk_Capacity_13 _ _ _
      refine wpE_seq (x := c_towpathref04_Disk_Capacity_14) (y := c_towpathref04_Disk_Capacity_16) (by kernel_rfl) ?_
      refine wpE_region (id := 3) (ops := r_towpathref04_Disk_Capacity_14) (by kernel_rfl) ?_
      refine reg_run [.plain] 1 [(5, [], Value.pointer d)] (by kernel_rfl) (by kernel_rfl) ?_
      obtain ⟨hp_0, h⟩ := h
      refine reg_conv [(5, [], Value.pointer (some ⟨(pblk d), (poff d), none⟩))] (congrArg (fun pp => ([(5, [], Value.pointer pp)] : GEnv)) hp_0) ?_
      refine reg_run [.plain] 2 [(5, [], Value.pointer (some ⟨(pblk d), (poff d), none⟩)), (6, [], Value.pointer (some ⟨(pblk d), (poff d), none⟩))] (by kernel_rfl) (by kernel_rfl) ?_
      refine reg_run [.plain] 3 [(7, [], Value.pointer (some ⟨(pblk d), (poff d), none⟩))] (by kernel_rfl) (by kernel_rfl) ?_
      obtain ⟨v8, hc, h⟩ := h
      refine reg_load1 (t := 3) (a := (Go.Operand.tmp 7)) (b := (pblk d)) (o := (poff d)) (ty := 3) (dst := some 8) (by kernel_rfl) (by kernel_rfl) (by kernel_rfl) hc ?_
      refine reg_run [.plain] 5 [(2, [], Value.int .i64 v8)] (by kernel_rfl) (by kernel_rfl) ?_
      refine reg_end [(2, Value.int .i64 v8)] (by kernel_rfl) (by kernel_rfl) ?_
      change WpE _ _ c_towpathref04_Disk_Capacity_16 _ _ _
      refine wpE_ret (by kernel_rfl) ?_
      repeat (first | refine seqQ_ret ?_ | refine blockQ_ret ?_ | refine loopQ_ret ?_ | refine cutQ_ret ?_)
      exact retS (rs := [(Go.ResultVar.tmp 2)]) (v := Value.int .i64 v8) (by kernel_rfl) (⟨by kernel_rfl, trivial⟩) ⟨v8, rfl, h⟩
  · rintro e w' ⟨v, rfl, r0, rfl, h⟩; exact ⟨r0, rfl, h⟩

/-! ### (*towpath/towpathref04.Disk).Writes (function 29) -/
noncomputable def c_towpathref04_Disk_Writes_0 : Code := (Tryz.f29.body).getD Code.skip
noncomputable def c_towpathref04_Disk_Writes_1 : Code := Code.l c_towpathref04_Disk_Writes_0
noncomputable def r_towpathref04_Disk_Writes_1 : Array Oper := Code.ops c_towpathref04_Disk_Writes_1
noncomputable def c_towpathref04_Disk_Writes_3 : Code := Code.r c_towpathref04_Disk_Writes_0
noncomputable def c_towpathref04_Disk_Writes_4 : Code := Code.l c_towpathref04_Disk_Writes_3
noncomputable def c_towpathref04_Disk_Writes_5 : Code := Code.l c_towpathref04_Disk_Writes_4
noncomputable def r_towpathref04_Disk_Writes_5 : Array Oper := Code.ops c_towpathref04_Disk_Writes_5
noncomputable def c_towpathref04_Disk_Writes_7 : Code := Code.r c_towpathref04_Disk_Writes_4
noncomputable def c_towpathref04_Disk_Writes_8 : Code := Code.l c_towpathref04_Disk_Writes_7
noncomputable def c_towpathref04_Disk_Writes_9 : Code := Code.l c_towpathref04_Disk_Writes_8
noncomputable def r_towpathref04_Disk_Writes_9 : Array Oper := Code.ops c_towpathref04_Disk_Writes_9
noncomputable def c_towpathref04_Disk_Writes_11 : Code := Code.r c_towpathref04_Disk_Writes_8
noncomputable def c_towpathref04_Disk_Writes_12 : Code := Code.r c_towpathref04_Disk_Writes_7
noncomputable def c_towpathref04_Disk_Writes_13 : Code := Code.r c_towpathref04_Disk_Writes_3
noncomputable def c_towpathref04_Disk_Writes_14 : Code := Code.l c_towpathref04_Disk_Writes_13
noncomputable def r_towpathref04_Disk_Writes_14 : Array Oper := Code.ops c_towpathref04_Disk_Writes_14
noncomputable def c_towpathref04_Disk_Writes_16 : Code := Code.r c_towpathref04_Disk_Writes_13

set_option maxRecDepth 100000 in
set_option maxHeartbeats 4000000 in
theorem S_towpathref04_Disk_Writes {d : Option Addr} {w : World} {R : Int → World → Prop} (h : F_towpathref04_Disk_Writes d R w) : C_towpathref04_Disk_Writes d w R := by
  unfold F_towpathref04_Disk_Writes at h
  unfold C_towpathref04_Disk_Writes
  refine Calls.mono (calls_of_wpE (args := [Value.pointer d]) (R := fun v w' => ∃ (r0 : Int), v = Value.int .i64 r0 ∧ R r0 w') Tryz.func29 (c := c_towpathref04_Disk_Writes_0) (by kernel_rfl) 9 (by kernel_rfl) (by kernel_rfl) [(0, Value.pointer d)] (by kernel_rfl) ?_) ?_
  · refine wpE_seq (x := c_towpathref04_Disk_Writes_1) (y := c_towpathref04_Disk_Writes_3) (by kernel_rfl) ?_
    refine wpE_region (id := 0) (ops := r_towpathref04_Disk_Writes_1) (by kernel_rfl) ?_
    refine reg_run [.plain] 1 [(0, [], Value.pointer d)] (by kernel_rfl) (by kernel_rfl) ?_
    refine reg_end [(0, Value.pointer d)] (by kernel_rfl) (by kernel_rfl) ?_
    change WpE _ _ c_towpathref04_Disk_Writes_3 _ _ _
    refine wpE_seq (x := c_towpathref04_Disk_Writes_4) (y := c_towpathref04_Disk_Writes_13) (by kernel_rfl) ?_
    refine wpE_seq (x := c_towpathref04_Disk_Writes_5) (y := c_towpathref04_Disk_Writes_7) (by kernel_rfl) ?_
    refine wpE_region (id := 1) (ops := r_towpathref04_Disk_Writes_5) (by kernel_rfl) ?_
    refine reg_run [.plain] 1 [(0, [], Value.pointer d), (3, [], Value.pointer d)] (by kernel_rfl) (by kernel_rfl) ?_
    refine reg_val (op := (Go.Op.binOp Go.BinOp.eql 28 (Go.Operand.tmp 3) (Go.Operand.const (Go.Value.pointer none)) 28)) (ty := 4) (dst := some 4) (Value.bool d.isNone) (by kernel_rfl) (fun ww => run_ptr_eql_R (p := d) (by kernel_rfl) (by kernel_rfl) (by kernel_rfl) ww) ?_
    refine reg_end [(0, Value.pointer d), (4, Value.bool d.isNone)] (by kernel_rfl) (by kernel_rfl) ?_
    change WpE _ _ c_towpathref04_Disk_Writes_7 _ _ _
    refine wpE_cond (o := (Operand.tmp 4)) (b := d.isNone) (x := c_towpathref04_Disk_Writes_8) (y := c_towpathref04_Disk_Writes_12) (by kernel_rfl) (by kernel_rfl) (fun hb => ?_) (fun hb => ?_)
    · replace h := h.1 hb
      refine wpE_seq (x := c_towpathref04_Disk_Writes_9) (y := c_towpathref04_Disk_Writes_11) (by kernel_rfl) ?_
      refine wpE_region (id := 2) (ops := r_towpathref04_Disk_Writes_9) (by kernel_rfl) ?_
      refine reg_run [.plain] 1 [(2, [], Value.int .i64 0)] (by kernel_rfl) (by kernel_rfl) ?_
      refine reg_end [(2, Value.int .i64 0)] (by kernel_rfl) (by kernel_rfl) ?_
      change WpE _ _ c_towpathref04_Disk_Writes_11 _ _ _
      refine wpE_ret (by kernel_rfl) ?_
      repeat (first | refine seqQ_ret ?_ | refine blockQ_ret ?_ | refine loopQ_ret ?_ | refine cutQ_ret ?_)
      exact retS (rs := [(Go.ResultVar.tmp 2)]) (v := Value.int .i64 0) (by kernel_rfl) (⟨by kernel_rfl, trivial⟩) ⟨0, rfl, h⟩
    · replace h := h.2 hb
      refine wpE_skip (by kernel_rfl) ?_
      change WpE _ _ c_towpathref04_Disk_Writes_13 _ _ _
      refine wpE_seq (x := c_towpathref04_Disk_Writes_14) (y := c_towpathref04_Disk_Writes_16) (by kernel_rfl) ?_
      refine wpE_region (id := 3) (ops := r_towpathref04_Disk_Writes_14) (by kernel_rfl) ?_
      refine reg_run [.plain] 1 [(5, [], Value.pointer d)] (by kernel_rfl) (by kernel_rfl) ?_
      obtain ⟨hp_0, h⟩ := h
      refine reg_conv [(5, [], Value.pointer (some ⟨(pblk d), (poff d), none⟩))] (congrArg (fun pp => ([(5, [], Value.pointer pp)] : GEnv)) hp_0) ?_
      refine reg_run [.plain] 2 [(5, [], Value.pointer (some ⟨(pblk d), (poff d), none⟩)), (6, [], Value.pointer (some ⟨(pblk d), (poff d), none⟩))] (by kernel_rfl) (by kernel_rfl) ?_
      refine reg_run [.plain] 3 [(7, [], Value.pointer (some ⟨(pblk d), (poff d) + 5, none⟩))] (by kernel_rfl) (by kernel_rfl) ?_
      obtain ⟨v8, hc, h⟩ := h
      refine reg_load1 (t := 3) (a := (Go.Operand.tmp 7)) (b := (pblk d)) (o := ((poff d) + 5)) (ty := 3) (dst := some 8) (by kernel_rfl) (by kernel_rfl) (by kernel_rfl) hc ?_
      refine reg_run [.plain] 5 [(2, [], Value.int .i64 v8)] (by kernel_rfl) (by kernel_rfl) ?_
      refine reg_end [(2, Value.int .i64 v8)] (by kernel_rfl) (by kernel_rfl) ?_
      change WpE _ _ c_towpathref04_Disk_Writes_16 _ _ _
      refine wpE_ret (by kernel_rfl) ?_
      repeat (first | refine seqQ_ret ?_ | refine blockQ_ret ?_ | refine loopQ_ret ?_ | refine cutQ_ret ?_)
      exact retS (rs := [(Go.ResultVar.tmp 2)]) (v := Value.int .i64 v8) (by kernel_rfl) (⟨by kernel_rfl, trivial⟩) ⟨v8, rfl, h⟩
  · rintro e w' ⟨v, rfl, r0, rfl, h⟩; exact ⟨r0, rfl, h⟩

/-! ### (*towpath/towpathref04.Disk).raw (function 66) -/
noncomputable def c_towpathref04_Disk_raw_0 : Code := (Tryz.f66.body).getD Code.skip
noncomputable def c_towpathref04_Disk_raw_1 : Code := Code.l c_towpathref04_Disk_raw_0
noncomputable def r_towpathref04_Disk_raw_1 : Array Oper := Code.ops c_towpathref04_Disk_raw_1
noncomputable def c_towpathref04_Disk_raw_3 : Code := Code.r c_towpathref04_Disk_raw_0
noncomputable def c_towpathref04_Disk_raw_4 : Code := Code.l c_towpathref04_Disk_raw_3
noncomputable def c_towpathref04_Disk_raw_5 : Code := Code.l c_towpathref04_Disk_raw_4
noncomputable def r_towpathref04_Disk_raw_5 : Array Oper := Code.ops c_towpathref04_Disk_raw_5
noncomputable def c_towpathref04_Disk_raw_7 : Code := Code.r c_towpathref04_Disk_raw_4
noncomputable def c_towpathref04_Disk_raw_8 : Code := Code.l c_towpathref04_Disk_raw_7
noncomputable def c_towpathref04_Disk_raw_9 : Code := Code.l c_towpathref04_Disk_raw_8
noncomputable def r_towpathref04_Disk_raw_9 : Array Oper := Code.ops c_towpathref04_Disk_raw_9
noncomputable def c_towpathref04_Disk_raw_11 : Code := Code.r c_towpathref04_Disk_raw_8
noncomputable def c_towpathref04_Disk_raw_12 : Code := Code.l c_towpathref04_Disk_raw_11
noncomputable def r_towpathref04_Disk_raw_12 : Array Oper := Code.ops c_towpathref04_Disk_raw_12
noncomputable def c_towpathref04_Disk_raw_14 : Code := Code.r c_towpathref04_Disk_raw_11
noncomputable def c_towpathref04_Disk_raw_15 : Code := Code.r c_towpathref04_Disk_raw_7
noncomputable def c_towpathref04_Disk_raw_16 : Code := Code.r c_towpathref04_Disk_raw_3
noncomputable def c_towpathref04_Disk_raw_17 : Code := Code.l c_towpathref04_Disk_raw_16
noncomputable def c_towpathref04_Disk_raw_18 : Code := Code.l c_towpathref04_Disk_raw_17
noncomputable def r_towpathref04_Disk_raw_18 : Array Oper := Code.ops c_towpathref04_Disk_raw_18
noncomputable def c_towpathref04_Disk_raw_20 : Code := Code.r c_towpathref04_Disk_raw_17
noncomputable def c_towpathref04_Disk_raw_21 : Code := Code.l c_towpathref04_Disk_raw_20
noncomputable def r_towpathref04_Disk_raw_21 : Array Oper := Code.ops c_towpathref04_Disk_raw_21
noncomputable def c_towpathref04_Disk_raw_23 : Code := Code.r c_towpathref04_Disk_raw_20
noncomputable def c_towpathref04_Disk_raw_24 : Code := Code.r c_towpathref04_Disk_raw_16
noncomputable def c_towpathref04_Disk_raw_25 : Code := Code.l c_towpathref04_Disk_raw_24
noncomputable def r_towpathref04_Disk_raw_25 : Array Oper := Code.ops c_towpathref04_Disk_raw_25
noncomputable def c_towpathref04_Disk_raw_27 : Code := Code.r c_towpathref04_Disk_raw_24
noncomputable def c_towpathref04_Disk_raw_28 : Code := Code.l c_towpathref04_Disk_raw_27
noncomputable def r_towpathref04_Disk_raw_28 : Array Oper := Code.ops c_towpathref04_Disk_raw_28
noncomputable def c_towpathref04_Disk_raw_30 : Code := Code.r c_towpathref04_Disk_raw_27

set_option maxRecDepth 100000 in
set_option maxHeartbeats 4000000 in
theorem S_towpathref04_Disk_raw {d : Option Addr} {w : World} {R : Int → World → Prop} (h : F_towpathref04_Disk_raw d R w) : C_towpathref04_Disk_raw d w R := by
  unfold F_towpathref04_Disk_raw at h
  unfold C_towpathref04_Disk_raw
  refine Calls.mono (calls_of_wpE (args := [Value.pointer d]) (R := fun v w' => ∃ (r0 : Int), v = Value.int .i64 r0 ∧ R r0 w') Tryz.func66 (c := c_towpathref04_Disk_raw_0) (by kernel_rfl) 38 (by kernel_rfl) (by kernel_rfl) [(0, Value.pointer d)] (by kernel_rfl) ?_) ?_
  · refine wpE_seq (x := c_towpathref04_Disk_raw_1) (y := c_towpathref04_Disk_raw_3) (by kernel_rfl) ?_
    refine wpE_region (id := 0) (ops := r_towpathref04_Disk_raw_1) (by kernel_rfl) ?_
    refine reg_run [.plain] 1 [(0, [], Value.pointer d)] (by kernel_rfl) (by kernel_rfl) ?_
    refine reg_end [(0, Value.pointer d)] (by kernel_rfl) (by kernel_rfl) ?_
    change WpE _ _ c_towpathref04_Disk_raw_3 _ _ _
    refine wpE_seq (x := c_towpathref04_Disk_raw_4) (y := c_towpathref04_Disk_raw_16) (by kernel_rfl) ?_
    refine wpE_seq_cut (x := c_towpathref04_Disk_raw_5) (y := c_towpathref04_Disk_raw_7) (by kernel_rfl) (fun l w => ∃ (t13 : Bool), l = [(0, Value.pointer d), (13, Value.bool t13)] ∧ F_towpathref04_Disk_raw_k0 d R t13 w) ?_ ?_
    · refine wpE_region (id := 1) (ops := r_towpathref04_Disk_raw_5) (by kernel_rfl) ?_
      refine reg_run [.plain] 1 [(0, [], Value.pointer d), (3, [], Value.pointer d)] (by kernel_rfl) (by kernel_rfl) ?_
      obtain ⟨hp_22, h⟩ := h
      refine reg_conv [(0, [], Value.pointer d), (3, [], Value.pointer (some ⟨(pblk d), (poff d), none⟩))] (congrArg (fun pp => ([(0, [], Value.pointer d), (3, [], Value.pointer pp)] : GEnv)) hp_22) ?_
      refine reg_run [.plain] 2 [(0, [], Value.pointer d), (3, [], Value.pointer (some ⟨(pblk d), (poff d), none⟩)), (4, [], Value.pointer (some ⟨(pblk d), (poff d), none⟩))] (by kernel_rfl) (by kernel_rfl) ?_
      refine reg_run [.plain] 3 [(0, [], Value.pointer d), (5, [], Value.pointer (some ⟨(pblk d), (poff d) + 4, none⟩))] (by kernel_rfl) (by kernel_rfl) ?_
      obtain ⟨v6, hc, h⟩ := h
      refine reg_load1 (t := 4) (a := (Go.Operand.tmp 5)) (b := (pblk d)) (o := ((poff d) + 4)) (ty := 4) (dst := some 6) (by kernel_rfl) (by kernel_rfl) (by kernel_rfl) hc ?_
      refine reg_run [.plain, .plain] 6 [(0, [], Value.pointer d), (7, [], Value.bool v6), (8, [(7, false)], Value.pointer d)] (by kernel_rfl) (by kernel_rfl) ?_
      refine reg_split 7 v6 (by kernel_rfl) (fun hb => ?_) (fun hb => ?_)
      · replace h := h.1 hb
        refine reg_run [] 6 [(0, [], Value.pointer d), (7, [], Value.bool true), (8, [], undef)] (by kernel_rfl) (by kernel_rfl) ?_
        refine reg_run [.skip, .skip, .skip, .skip, .plain] 11 [(0, [], Value.pointer d), (13, [], Value.bool true)] (by kernel_rfl) (by kernel_rfl) ?_
        refine reg_end [(0, Value.pointer d), (13, Value.bool true)] (by kernel_rfl) (by kernel_rfl) ?_
        exact ⟨[(0, Value.pointer d), (13, Value.bool true)], Sub.mk (by kernel_rfl), true, rfl, h⟩
      · replace h := h.2 hb
        refine reg_run [] 6 [(0, [], Value.pointer d), (7, [], Value.bool false), (8, [], Value.pointer d)] (by kernel_rfl) (by kernel_rfl) ?_
        refine reg_run [] 6 [(0, [], Value.pointer d), (7, [], Value.bool false), (8, [], Value.pointer d)] (by kernel_rfl) (by kernel_rfl) ?_
        obtain ⟨hp_23, h⟩ := h
        refine reg_conv [(0, [], Value.pointer d), (7, [], Value.bool false), (8, [], Value.pointer (some ⟨(pblk d), (poff d), none⟩))] (congrArg (fun pp => ([(0, [], Value.pointer d), (7, [], Value.bool false), (8, [], Value.pointer pp)] : GEnv)) hp_23) ?_
        refine reg_run [.sure] 7 [(0, [], Value.pointer d), (7, [], Value.bool false), (8, [], Value.pointer (some ⟨(pblk d), (poff d), none⟩)), (9, [], Value.pointer (some ⟨(pblk d), (poff d), none⟩))] (by kernel_rfl) (by kernel_rfl) ?_
        refine reg_run [.sure] 8 [(0, [], Value.pointer d), (7, [], Value.bool false), (10, [], Value.pointer (some ⟨(pblk d), (poff d) + 3, none⟩))] (by kernel_rfl) (by kernel_rfl) ?_
        obtain ⟨v11, hc, h⟩ := h
        refine reg_load1 (t := 3) (a := (Go.Operand.tmp 10)) (b := (pblk d)) (o := ((poff d) + 3)) (ty := 3) (dst := some 11) (by kernel_rfl) (by kernel_rfl) (by kernel_rfl) hc ?_
        refine reg_run [.sure, .plain] 11 [(0, [], Value.pointer d), (13, [], Value.bool (v11 == 0))] (by kernel_rfl) (by kernel_rfl) ?_
        refine reg_end [(0, Value.pointer d), (13, Value.bool (v11 == 0))] (by kernel_rfl) (by kernel_rfl) ?_
        exact ⟨[(0, Value.pointer d), (13, Value.bool (v11 == 0))], Sub.mk (by kernel_rfl), (v11 == 0), rfl, h⟩
    · rintro _ w1 ⟨t13, rfl, h⟩
      unfold F_towpathref04_Disk_raw_k0 at h
      refine wpE_cond (o := (Operand.tmp 13)) (b := t13) (x := c_towpathref04_Disk_raw_8) (y := c_towpathref04_Disk_raw_15) (by kernel_rfl) (by kernel_rfl) (fun hb => ?_) (fun hb => ?_)
      · replace h := h.1 hb
        refine wpE_seq (x := c_towpathref04_Disk_raw_9) (y := c_towpathref04_Disk_raw_11) (by kernel_rfl) ?_
        refine wpE_region (id := 2) (ops := r_towpathref04_Disk_raw_9) (by kernel_rfl) ?_
        refine reg_run [.plain] 1 [(14, [], Value.pointer d)] (by kernel_rfl) (by kernel_rfl) ?_
        obtain ⟨hp_9, h⟩ := h
        refine reg_conv [(14, [], Value.pointer (some ⟨(pblk d), (poff d), none⟩))] (congrArg (fun pp => ([(14, [], Value.pointer pp)] : GEnv)) hp_9) ?_
        refine reg_run [.plain] 2 [(14, [], Value.pointer (some ⟨(pblk d), (poff d), none⟩)), (15, [], Value.pointer (some ⟨(pblk d), (poff d), none⟩))] (by kernel_rfl) (by kernel_rfl) ?_
        refine reg_run [.plain] 3 [(16, [], Value.pointer (some ⟨(pblk d), (poff d) + 4, none⟩))] (by kernel_rfl) (by kernel_rfl) ?_
        obtain ⟨hc, h⟩ := h
        refine reg_store (t := 4) (a := (Go.Operand.tmp 16)) (x := (Go.Operand.const (Go.Value.bool true))) (b := (pblk d)) (o := ((poff d) + 4)) (ty := 0) (dst := none) [Value.bool true] (by kernel_rfl) (by kernel_rfl) (by kernel_rfl) (k := 1) (by kernel_rfl) (by kernel_rfl) (by kernel_rfl) hc (fun w2 hw => ?_)
        replace h := h w2 hw
        clear hw
        refine reg_end [] (by kernel_rfl) (by kernel_rfl) ?_
        change WpE _ _ c_towpathref04_Disk_raw_11 _ _ _
        refine wpE_seq (x := c_towpathref04_Disk_raw_12) (y := c_towpathref04_Disk_raw_14) (by kernel_rfl) ?_
        refine wpE_region (id := 3) (ops := r_towpathref04_Disk_raw_12) (by kernel_rfl) ?_
        refine reg_run [.plain] 1 [(2, [], Value.int .i64 11)] (by kernel_rfl) (by kernel_rfl) ?_
        refine reg_end [(2, Value.int .i64 11)] (by kernel_rfl) (by kernel_rfl) ?_
        change WpE _ _ c_towpathref04_Disk_raw_14 _ _ _
        refine wpE_ret (by kernel_rfl) ?_
        repeat (first | refine seqQ_ret ?_ | refine blockQ_ret ?_ | refine loopQ_ret ?_ | refine cutQ_ret ?_)
        exact retS (rs := [(Go.ResultVar.tmp 2)]) (v := Value.int .i64 11) (by kernel_rfl) (⟨by kernel_rfl, trivial⟩) ⟨11, rfl, h⟩
      · replace h := h.2 hb
        refine wpE_skip (by kernel_rfl) ?_
        change WpE _ _ c_towpathref04_Disk_raw_16 _ _ _
        refine wpE_seq_cut (x := c_towpathref04_Disk_raw_17) (y := c_towpathref04_Disk_raw_24) (by kernel_rfl) (fun l w => l = [(0, Value.pointer d)] ∧ F_towpathref04_Disk_raw_k1 d R w) ?_ ?_
        · refine wpE_seq (x := c_towpathref04_Disk_raw_18) (y := c_towpathref04_Disk_raw_20) (by kernel_rfl) ?_
          refine wpE_region (id := 4) (ops := r_towpathref04_Disk_raw_18) (by kernel_rfl) ?_
          refine reg_run [.plain] 1 [(0, [], Value.pointer d), (17, [], Value.pointer d)] (by kernel_rfl) (by kernel_rfl) ?_
          obtain ⟨hp_19, h⟩ := h
          refine reg_conv [(0, [], Value.pointer d), (17, [], Value.pointer (some ⟨(pblk d), (poff d), none⟩))] (congrArg (fun pp => ([(0, [], Value.pointer d), (17, [], Value.pointer pp)] : GEnv)) hp_19) ?_
          refine reg_run [.plain] 2 [(0, [], Value.pointer d), (17, [], Value.pointer (some ⟨(pblk d), (poff d), none⟩)), (18, [], Value.pointer (some ⟨(pblk d), (poff d), none⟩))] (by kernel_rfl) (by kernel_rfl) ?_
          refine reg_run [.plain] 3 [(0, [], Value.pointer d), (19, [], Value.pointer (some ⟨(pblk d), (poff d) + 3, none⟩))] (by kernel_rfl) (by kernel_rfl) ?_
          obtain ⟨v20, hc, h⟩ := h
          refine reg_load1 (t := 3) (a := (Go.Operand.tmp 19)) (b := (pblk d)) (o := ((poff d) + 3)) (ty := 3) (dst := some 20) (by kernel_rfl) (by kernel_rfl) (by kernel_rfl) hc ?_
          refine reg_run [.plain] 5 [(0, [], Value.pointer d), (21, [], Value.bool (decide (v20 > 0)))] (by kernel_rfl) (by kernel_rfl) ?_
          refine reg_end [(0, Value.pointer d), (21, Value.bool (decide (v20 > 0)))] (by kernel_rfl) (by kernel_rfl) ?_
          change WpE _ _ c_towpathref04_Disk_raw_20 _ _ _
          refine wpE_cond (o := (Operand.tmp 21)) (b := (decide (v20 > 0))) (x := c_towpathref04_Disk_raw_21) (y := c_towpathref04_Disk_raw_23) (by kernel_rfl) (by kernel_rfl) (fun hb => ?_) (fun hb => ?_)
          · replace h := h.1 hb
            refine wpE_region (id := 5) (ops := r_towpathref04_Disk_raw_21) (by kernel_rfl) ?_
            refine reg_run [.plain, .plain] 2 [(0, [], Value.pointer d), (22, [], Value.pointer d), (23, [], Value.pointer d)] (by kernel_rfl) (by kernel_rfl) ?_
            obtain ⟨hp_20, h⟩ := h
            refine reg_conv [(0, [], Value.pointer d), (22, [], Value.pointer d), (23, [], Value.pointer (some ⟨(pblk d), (poff d), none⟩))] (congrArg (fun pp => ([(0, [], Value.pointer d), (22, [], Value.pointer d), (23, [], Value.pointer pp)] : GEnv)) hp_20) ?_
            refine reg_run [.plain] 3 [(0, [], Value.pointer d), (22, [], Value.pointer d), (23, [], Value.pointer (some ⟨(pblk d), (poff d), none⟩)), (24, [], Value.pointer (some ⟨(pblk d), (poff d), none⟩))] (by kernel_rfl) (by kernel_rfl) ?_
            refine reg_run [.plain] 4 [(0, [], Value.pointer d), (22, [], Value.pointer d), (25, [], Value.pointer (some ⟨(pblk d), (poff d) + 3, none⟩))] (by kernel_rfl) (by kernel_rfl) ?_
            obtain ⟨v26, hc, h⟩ := h
            refine reg_load1 (t := 3) (a := (Go.Operand.tmp 25)) (b := (pblk d)) (o := ((poff d) + 3)) (ty := 3) (dst := some 26) (by kernel_rfl) (by kernel_rfl) (by kernel_rfl) hc ?_
            refine reg_run [.plain] 6 [(0, [], Value.pointer d), (22, [], Value.pointer d), (27, [], Value.int .i64 (IntKind.i64.wrap (v26 - 1)))] (by kernel_rfl) (by kernel_rfl) ?_
            obtain ⟨hp_21, h⟩ := h
            refine reg_conv [(0, [], Value.pointer d), (22, [], Value.pointer (some ⟨(pblk d), (poff d), none⟩)), (27, [], Value.int .i64 (IntKind.i64.wrap (v26 - 1)))] (congrArg (fun pp => ([(0, [], Value.pointer d), (22, [], Value.pointer pp), (27, [], Value.int .i64 (IntKind.i64.wrap (v26 - 1)))] : GEnv)) hp_21) ?_
            refine reg_run [.plain] 7 [(0, [], Value.pointer d), (22, [], Value.pointer (some ⟨(pblk d), (poff d), none⟩)), (27, [], Value.int .i64 (IntKind.i64.wrap (v26 - 1))), (28, [], Value.pointer (some ⟨(pblk d), (poff d), none⟩))] (by kernel_rfl) (by kernel_rfl) ?_
            refine reg_run [.plain] 8 [(0, [], Value.pointer d), (27, [], Value.int .i64 (IntKind.i64.wrap (v26 - 1))), (29, [], Value.pointer (some ⟨(pblk d), (poff d) + 3, none⟩))] (by kernel_rfl) (by kernel_rfl) ?_
            obtain ⟨hc, h⟩ := h
            refine reg_store (t := 3) (a := (Go.Operand.tmp 29)) (x := (Go.Operand.tmp 27)) (b := (pblk d)) (o := ((poff d) + 3)) (ty := 0) (dst := none) [Value.int .i64 (IntKind.i64.wrap (v26 - 1))] (by kernel_rfl) (by kernel_rfl) (by kernel_rfl) (k := 1) (by kernel_rfl) (by kernel_rfl) (by kernel_rfl) hc (fun w5 hw => ?_)
            replace h := h w5 hw
            clear hw
            refine reg_end [(0, Value.pointer d)] (by kernel_rfl) (by kernel_rfl) ?_
            exact ⟨[(0, Value.pointer d)], Sub.mk (by kernel_rfl), rfl, h⟩
          · replace h := h.2 hb
            refine wpE_skip (by kernel_rfl) ?_
            exact ⟨[(0, Value.pointer d)], Sub.mk (by kernel_rfl), rfl, h⟩
        · rintro _ w3 ⟨rfl, h⟩
          unfold F_towpathref04_Disk_raw_k1 at h
          refine wpE_seq (x := c_towpathref04_Disk_raw_25) (y := c_towpathref04_Disk_raw_27) (by kernel_rfl) ?_
          refine wpE_region (id := 6) (ops := r_towpathref04_Disk_raw_25) (by kernel_rfl) ?_
          refine reg_run [.plain, .plain] 2 [(30, [], Value.pointer d), (31, [], Value.pointer d)] (by kernel_rfl) (by kernel_rfl) ?_
          obtain ⟨hp_16, h⟩ := h
          refine reg_conv [(30, [], Value.pointer d), (31, [], Value.pointer (some ⟨(pblk d), (poff d), none⟩))] (congrArg (fun pp => ([(30, [], Value.pointer d), (31, [], Value.pointer pp)] : GEnv)) hp_16) ?_
          refine reg_run [.plain] 3 [(30, [], Value.pointer d), (31, [], Value.pointer (some ⟨(pblk d), (poff d), none⟩)), (32, [], Value.pointer (some ⟨(pblk d), (poff d), none⟩))] (by kernel_rfl) (by kernel_rfl) ?_
          refine reg_run [.plain] 4 [(30, [], Value.pointer d), (33, [], Value.pointer (some ⟨(pblk d), (poff d) + 5, none⟩))] (by kernel_rfl) (by kernel_rfl) ?_
          obtain ⟨v34, hc, h⟩ := h
          refine reg_load1 (t := 3) (a := (Go.Operand.tmp 33)) (b := (pblk d)) (o := ((poff d) + 5)) (ty := 3) (dst := some 34) (by kernel_rfl) (by kernel_rfl) (by kernel_rfl) hc ?_
          refine reg_run [.plain] 6 [(30, [], Value.pointer d), (35, [], Value.int .i64 (IntKind.i64.wrap (v34 + 1)))] (by kernel_rfl) (by kernel_rfl) ?_
          obtain ⟨hp_17, h⟩ := h
          refine reg_conv [(30, [], Value.pointer (some ⟨(pblk d), (poff d), none⟩)), (35, [], Value.int .i64 (IntKind.i64.wrap (v34 + 1)))] (congrArg (fun pp => ([(30, [], Value.pointer pp), (35, [], Value.int .i64 (IntKind.i64.wrap (v34 + 1)))] : GEnv)) hp_17) ?_
          refine reg_run [.plain] 7 [(30, [], Value.pointer (some ⟨(pblk d), (poff d), none⟩)), (35, [], Value.int .i64 (IntKind.i64.wrap (v34 + 1))), (36, [], Value.pointer (some ⟨(pblk d), (poff d), none⟩))] (by kernel_rfl) (by kernel_rfl) ?_
          refine reg_run [.plain] 8 [(35, [], Value.int .i64 (IntKind.i64.wrap (v34 + 1))), (37, [], Value.pointer (some ⟨(pblk d), (poff d) + 5, none⟩))] (by kernel_rfl) (by kernel_rfl) ?_
          obtain ⟨hc, h⟩ := h
          refine reg_store (t := 3) (a := (Go.Operand.tmp 37)) (x := (Go.Operand.tmp 35)) (b := (pblk d)) (o := ((poff d) + 5)) (ty := 0) (dst := none) [Value.int .i64 (IntKind.i64.wrap (v34 + 1))] (by kernel_rfl) (by kernel_rfl) (by kernel_rfl) (k := 1) (by kernel_rfl) (by kernel_rfl) (by kernel_rfl) hc (fun w4 hw => ?_)
          replace h := h w4 hw
          clear hw
          refine reg_end [] (by kernel_rfl) (by kernel_rfl) ?_
          change WpE _ _ c_towpathref04_Disk_raw_27 _ _ _
          refine wpE_seq (x := c_towpathref04_Disk_raw_28) (y := c_towpathref04_Disk_raw_30) (by kernel_rfl) ?_
          refine wpE_region (id := 7) (ops := r_towpathref04_Disk_raw_28) (by kernel_rfl) ?_
          refine reg_run [.plain] 1 [(2, [], Value.int .i64 0)] (by kernel_rfl) (by kernel_rfl) ?_
          refine reg_end [(2, Value.int .i64 0)] (by kernel_rfl) (by kernel_rfl) ?_
          change WpE _ _ c_towpathref04_Disk_raw_30 _ _ _
          refine wpE_ret (by kernel_rfl) ?_
          repeat (first | refine seqQ_ret ?_ | refine blockQ_ret ?_ | refine loopQ_ret ?_ | refine cutQ_ret ?_)
          exact retS (rs := [(Go.ResultVar.tmp 2)]) (v := Value.int .i64 0) (by kernel_rfl) (⟨by kernel_rfl, trivial⟩) ⟨0, rfl, h⟩
  · rintro e w' ⟨v, rfl, r0, rfl, h⟩; exact ⟨r0, rfl, h⟩
end Go.Proofs.YtckmganidgbpgaaGreatDoor
