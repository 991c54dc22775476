/- WRITTEN BY PROGRAM (dec.py): for each Go function the clean formula F, the call's contract C, and the proof S that F gives C. -/
import Derived.Test.YtckmganidgbpgaaGreatDoorRows
import Derived.Test.YtckmganidgbpgaaGreatDoorGF
namespace Go.Proofs.YtckmganidgbpgaaGreatDoor
open Go
set_option linter.unusedVariables false

/-! ### towpath/disk.New (function 5) -/
noncomputable def c_disk_New_0 : Code := (Tryz.f5.body).getD Code.skip
noncomputable def c_disk_New_1 : Code := Code.l c_disk_New_0
noncomputable def r_disk_New_1 : Array Oper := Code.ops c_disk_New_1
noncomputable def c_disk_New_3 : Code := Code.r c_disk_New_0
noncomputable def c_disk_New_4 : Code := Code.l c_disk_New_3
noncomputable def c_disk_New_5 : Code := Code.l c_disk_New_4
noncomputable def r_disk_New_5 : Array Oper := Code.ops c_disk_New_5
noncomputable def c_disk_New_7 : Code := Code.r c_disk_New_4
noncomputable def c_disk_New_8 : Code := Code.l c_disk_New_7
noncomputable def c_disk_New_9 : Code := Code.l c_disk_New_8
noncomputable def r_disk_New_9 : Array Oper := Code.ops c_disk_New_9
noncomputable def c_disk_New_11 : Code := Code.r c_disk_New_8
noncomputable def c_disk_New_12 : Code := Code.r c_disk_New_7
noncomputable def c_disk_New_13 : Code := Code.r c_disk_New_3
noncomputable def c_disk_New_14 : Code := Code.l c_disk_New_13
noncomputable def r_disk_New_14 : Array Oper := Code.ops c_disk_New_14
noncomputable def c_disk_New_16 : Code := Code.r c_disk_New_13

set_option maxRecDepth 100000 in
set_option maxHeartbeats 4000000 in
theorem S_disk_New {capacity : Int} {w : World} {R : Option Addr → Int → World → Prop} (h : F_disk_New capacity R w) : C_disk_New capacity w R := by
  unfold F_disk_New at h
  unfold C_disk_New
  refine Calls.mono (calls_of_wpE (args := [Value.int .i64 capacity]) (R := fun v w' => ∃ (r0 : Option Addr) (r1 : Int), v = Value.tuple #[Value.pointer r0, Value.int .i64 r1] ∧ R r0 r1 w') Tryz.func5 (c := c_disk_New_0) (by kernel_rfl) 13 (by kernel_rfl) (by kernel_rfl) [(0, Value.int .i64 capacity)] (by kernel_rfl) ?_) ?_
  · refine wpE_seq (x := c_disk_New_1) (y := c_disk_New_3) (by kernel_rfl) ?_
    refine wpE_region (id := 0) (ops := r_disk_New_1) (by kernel_rfl) ?_
    refine reg_run [.plain, .plain] 2 [(0, [], Value.int .i64 capacity)] (by kernel_rfl) (by kernel_rfl) ?_
    refine reg_end [(0, Value.int .i64 capacity)] (by kernel_rfl) (by kernel_rfl) ?_
    change WpE _ _ c_disk_New_3 _ _ _
    refine wpE_seq (x := c_disk_New_4) (y := c_disk_New_13) (by kernel_rfl) ?_
    refine wpE_seq (x := c_disk_New_5) (y := c_disk_New_7) (by kernel_rfl) ?_
    refine wpE_region (id := 1) (ops := r_disk_New_5) (by kernel_rfl) ?_
    refine reg_run [.plain, .plain, .plain, .plain, .plain, .pick] 6 [(0, [], Value.int .i64 capacity), (9, [], Value.bool ((decide (capacity < 0)) || (decide (capacity > 16777216))))] (by kernel_rfl) (by kernel_rfl) ?_
    refine reg_end [(0, Value.int .i64 capacity), (9, Value.bool ((decide (capacity < 0)) || (decide (capacity > 16777216))))] (by kernel_rfl) (by kernel_rfl) ?_
    change WpE _ _ c_disk_New_7 _ _ _
    refine wpE_cond (o := (Operand.tmp 9)) (b := ((decide (capacity < 0)) || (decide (capacity > 16777216)))) (x := c_disk_New_8) (y := c_disk_New_12) (by kernel_rfl) (by kernel_rfl) (fun hb => ?_) (fun hb => ?_)
    · replace h := h.1 hb
      refine wpE_seq (x := c_disk_New_9) (y := c_disk_New_11) (by kernel_rfl) ?_
      refine wpE_region (id := 2) (ops := r_disk_New_9) (by kernel_rfl) ?_
      refine reg_run [.plain, .plain] 2 [(2, [], Value.pointer none), (3, [], Value.int .i64 1)] (by kernel_rfl) (by kernel_rfl) ?_
      refine reg_end [(2, Value.pointer none), (3, Value.int .i64 1)] (by kernel_rfl) (by kernel_rfl) ?_
      change WpE _ _ c_disk_New_11 _ _ _
      refine wpE_ret (by kernel_rfl) ?_
      repeat (first | refine seqQ_ret ?_ | refine blockQ_ret ?_ | refine loopQ_ret ?_ | refine cutQ_ret ?_)
      exact retT (rs := [(Go.ResultVar.tmp 2), (Go.ResultVar.tmp 3)]) (vs := [Value.pointer none, Value.int .i64 1]) (by kernel_rfl) (⟨by kernel_rfl, ⟨by kernel_rfl, trivial⟩⟩) (by kernel_rfl) ⟨none, 1, rfl, h⟩
    · replace h := h.2 hb
      refine wpE_skip (by kernel_rfl) ?_
      change WpE _ _ c_disk_New_13 _ _ _
      refine wpE_seq (x := c_disk_New_14) (y := c_disk_New_16) (by kernel_rfl) ?_
      refine wpE_region (id := 3) (ops := r_disk_New_14) (by kernel_rfl) ?_
      refine reg_run [.plain, .plain] 2 [(11, [], Value.agg #[Value.bool true, Value.int .i64 capacity, Value.slice none 0 0, Value.slice none 0 0, Value.int .i64 (-1), Value.bool false, Value.int .i64 0])] (by kernel_rfl) (by kernel_rfl) ?_
      refine reg_new (op := (Go.Op.box 56 (Go.Operand.tmp 11))) (ty := 24) (dst := some 12) (fun bb => Value.pointer (some ⟨bb, 0, none⟩)) (Obj.cells ([Value.bool true, Value.int .i64 capacity, Value.slice none 0 0, Value.slice none 0 0, Value.int .i64 (-1), Value.bool false, Value.int .i64 0]).toArray ty_disk_Disk (0, 0)) (by kernel_rfl) (by kernel_rfl) (fun b_ w1 hb hw => ?_)
      replace h := h b_ w1 hb hw
      clear hb hw
      refine reg_run [.plain, .plain] 5 [(2, [], Value.pointer (some ⟨b_, 0, none⟩)), (3, [], Value.int .i64 0)] (by kernel_rfl) (by kernel_rfl) ?_
      refine reg_end [(2, Value.pointer (some ⟨b_, 0, none⟩)), (3, Value.int .i64 0)] (by kernel_rfl) (by kernel_rfl) ?_
      change WpE _ _ c_disk_New_16 _ _ _
      refine wpE_ret (by kernel_rfl) ?_
      repeat (first | refine seqQ_ret ?_ | refine blockQ_ret ?_ | refine loopQ_ret ?_ | refine cutQ_ret ?_)
      exact retT (rs := [(Go.ResultVar.tmp 2), (Go.ResultVar.tmp 3)]) (vs := [Value.pointer (some ⟨b_, 0, none⟩), Value.int .i64 0]) (by kernel_rfl) (⟨by kernel_rfl, ⟨by kernel_rfl, trivial⟩⟩) (by kernel_rfl) ⟨(some ⟨b_, 0, none⟩), 0, rfl, h⟩
  · rintro e w' ⟨v, rfl, r0, r1, rfl, h⟩; exact ⟨r0, r1, rfl, h⟩

/-! ### (*towpath/disk.Disk).Read (function 9) -/
noncomputable def c_disk_Disk_Read_0 : Code := (Tryz.f9.body).getD Code.skip
noncomputable def c_disk_Disk_Read_1 : Code := Code.l c_disk_Disk_Read_0
noncomputable def r_disk_Disk_Read_1 : Array Oper := Code.ops c_disk_Disk_Read_1
noncomputable def c_disk_Disk_Read_3 : Code := Code.r c_disk_Disk_Read_0
noncomputable def c_disk_Disk_Read_4 : Code := Code.l c_disk_Disk_Read_3
noncomputable def c_disk_Disk_Read_5 : Code := Code.l c_disk_Disk_Read_4
noncomputable def r_disk_Disk_Read_5 : Array Oper := Code.ops c_disk_Disk_Read_5
noncomputable def c_disk_Disk_Read_7 : Code := Code.r c_disk_Disk_Read_4
noncomputable def c_disk_Disk_Read_8 : Code := Code.l c_disk_Disk_Read_7
noncomputable def r_disk_Disk_Read_8 : Array Oper := Code.ops c_disk_Disk_Read_8
noncomputable def c_disk_Disk_Read_10 : Code := Code.r c_disk_Disk_Read_7
noncomputable def c_disk_Disk_Read_11 : Code := Code.l c_disk_Disk_Read_10
noncomputable def c_disk_Disk_Read_12 : Code := Code.l c_disk_Disk_Read_11
noncomputable def r_disk_Disk_Read_12 : Array Oper := Code.ops c_disk_Disk_Read_12
noncomputable def c_disk_Disk_Read_14 : Code := Code.r c_disk_Disk_Read_11
noncomputable def c_disk_Disk_Read_15 : Code := Code.r c_disk_Disk_Read_10
noncomputable def c_disk_Disk_Read_16 : Code := Code.r c_disk_Disk_Read_3
noncomputable def c_disk_Disk_Read_17 : Code := Code.l c_disk_Disk_Read_16
noncomputable def r_disk_Disk_Read_17 : Array Oper := Code.ops c_disk_Disk_Read_17
noncomputable def c_disk_Disk_Read_19 : Code := Code.r c_disk_Disk_Read_16

set_option maxRecDepth 100000 in
set_option maxHeartbeats 4000000 in
theorem S_disk_Disk_Read {d : Option Addr} {slot : Int} {w : World} {R : Slc → Int → World → Prop} (h : F_disk_Disk_Read d slot R w) : C_disk_Disk_Read d slot w R := by
  unfold F_disk_Disk_Read at h
  unfold C_disk_Disk_Read
  refine Calls.mono (calls_of_wpE (args := [Value.pointer d, Value.int .i64 slot]) (R := fun v w' => ∃ (r0 : Slc) (r1 : Int), v = Value.tuple #[Value.slice r0.ptr r0.len r0.cap, Value.int .i64 r1] ∧ R r0 r1 w') Tryz.func9 (c := c_disk_Disk_Read_0) (by kernel_rfl) 20 (by kernel_rfl) (by kernel_rfl) [(0, Value.pointer d), (1, Value.int .i64 slot)] (by kernel_rfl) ?_) ?_
  · refine wpE_seq (x := c_disk_Disk_Read_1) (y := c_disk_Disk_Read_3) (by kernel_rfl) ?_
    refine wpE_region (id := 0) (ops := r_disk_Disk_Read_1) (by kernel_rfl) ?_
    refine reg_run [.plain, .plain] 2 [(0, [], Value.pointer d), (1, [], Value.int .i64 slot)] (by kernel_rfl) (by kernel_rfl) ?_
    refine reg_end [(0, Value.pointer d), (1, Value.int .i64 slot)] (by kernel_rfl) (by kernel_rfl) ?_
    change WpE _ _ c_disk_Disk_Read_3 _ _ _
    refine wpE_seq (x := c_disk_Disk_Read_4) (y := c_disk_Disk_Read_16) (by kernel_rfl) ?_
    refine wpE_seq (x := c_disk_Disk_Read_5) (y := c_disk_Disk_Read_7) (by kernel_rfl) ?_
    refine wpE_region (id := 1) (ops := r_disk_Disk_Read_5) (by kernel_rfl) ?_
    refine reg_run [.plain, .plain] 2 [(0, [], Value.pointer d), (1, [], Value.int .i64 slot), (7, [], Value.pointer d), (8, [], Value.int .i64 slot)] (by kernel_rfl) (by kernel_rfl) ?_
    refine reg_enter (op := (Go.Op.call (Go.Call.mk (Go.Callee.value (Go.Operand.func 30)) #[(Go.Operand.tmp 7), (Go.Operand.tmp 8)] #[24, 3]))) (ty := 25) (dst := some 9) 30 #[Value.pointer d, Value.int .i64 slot] (by kernel_rfl) (fun ww => by kernel_rfl) (Calls.mono h ?_)
    rintro _ w1 ⟨v9, rfl, h⟩
    refine ⟨_, rfl, ?_⟩
    refine reg_run [.plain] 4 [(0, [], Value.pointer d), (1, [], Value.int .i64 slot), (6, [], Value.int .i64 v9)] (by kernel_rfl) (by kernel_rfl) ?_
    refine reg_end [(0, Value.pointer d), (1, Value.int .i64 slot), (6, Value.int .i64 v9)] (by kernel_rfl) (by kernel_rfl) ?_
    change WpE _ _ c_disk_Disk_Read_7 _ _ _
    refine wpE_seq (x := c_disk_Disk_Read_8) (y := c_disk_Disk_Read_10) (by kernel_rfl) ?_
    refine wpE_region (id := 2) (ops := r_disk_Disk_Read_8) (by kernel_rfl) ?_
    refine reg_run [.plain, .plain] 2 [(0, [], Value.pointer d), (1, [], Value.int .i64 slot), (6, [], Value.int .i64 v9), (11, [], Value.bool (v9 != 0))] (by kernel_rfl) (by kernel_rfl) ?_
    refine reg_end [(0, Value.pointer d), (1, Value.int .i64 slot), (6, Value.int .i64 v9), (11, Value.bool (v9 != 0))] (by kernel_rfl) (by kernel_rfl) ?_
    change WpE _ _ c_disk_Disk_Read_10 _ _ _
    refine wpE_cond (o := (Operand.tmp 11)) (b := (v9 != 0)) (x := c_disk_Disk_Read_11) (y := c_disk_Disk_Read_15) (by kernel_rfl) (by kernel_rfl) (fun hb => ?_) (fun hb => ?_)
    · replace h := h.1 hb
      refine wpE_seq (x := c_disk_Disk_Read_12) (y := c_disk_Disk_Read_14) (by kernel_rfl) ?_
      refine wpE_region (id := 3) (ops := r_disk_Disk_Read_12) (by kernel_rfl) ?_
      refine reg_run [.plain, .plain, .plain] 3 [(4, [], Value.slice none 0 0), (5, [], Value.int .i64 v9)] (by kernel_rfl) (by kernel_rfl) ?_
      refine reg_end [(4, Value.slice none 0 0), (5, Value.int .i64 v9)] (by kernel_rfl) (by kernel_rfl) ?_
      change WpE _ _ c_disk_Disk_Read_14 _ _ _
      refine wpE_ret (by kernel_rfl) ?_
      repeat (first | refine seqQ_ret ?_ | refine blockQ_ret ?_ | refine loopQ_ret ?_ | refine cutQ_ret ?_)
      exact retT (rs := [(Go.ResultVar.tmp 4), (Go.ResultVar.tmp 5)]) (vs := [Value.slice none 0 0, Value.int .i64 v9]) (by kernel_rfl) (⟨by kernel_rfl, ⟨by kernel_rfl, trivial⟩⟩) (by kernel_rfl) ⟨(Slc.mk none 0 0), v9, rfl, h⟩
    · replace h := h.2 hb
      refine wpE_skip (by kernel_rfl) ?_
      change WpE _ _ c_disk_Disk_Read_16 _ _ _
      refine wpE_seq (x := c_disk_Disk_Read_17) (y := c_disk_Disk_Read_19) (by kernel_rfl) ?_
      refine wpE_region (id := 4) (ops := r_disk_Disk_Read_17) (by kernel_rfl) ?_
      refine reg_run [.plain, .plain] 2 [(13, [], Value.pointer d), (14, [], Value.int .i64 slot)] (by kernel_rfl) (by kernel_rfl) ?_
      obtain ⟨hp_0, h⟩ := h
      refine reg_conv [(13, [], Value.pointer (some ⟨(pblk d), (poff d), none⟩)), (14, [], Value.int .i64 slot)] (congrArg (fun pp => ([(13, [], Value.pointer pp), (14, [], Value.int .i64 slot)] : GEnv)) hp_0) ?_
      refine reg_run [.plain] 3 [(13, [], Value.pointer (some ⟨(pblk d), (poff d), none⟩)), (14, [], Value.int .i64 slot), (15, [], Value.pointer (some ⟨(pblk d), (poff d), none⟩))] (by kernel_rfl) (by kernel_rfl) ?_
      refine reg_run [.plain] 4 [(14, [], Value.int .i64 slot), (16, [], Value.pointer (some ⟨(pblk d), (poff d) + 2, none⟩))] (by kernel_rfl) (by kernel_rfl) ?_
      obtain ⟨h0, h1, h⟩ := h
      refine reg_indexA1 (t := 54) (e := 45) (x := (Go.Operand.tmp 16)) (ix := (Go.Operand.tmp 14)) (b := (pblk d)) (o := ((poff d) + 2)) (len := 2) (k := .i64) (j := slot) (ty := 0) (dst := some 17) (by kernel_rfl) (by kernel_rfl) (by kernel_rfl) (by kernel_rfl) (by kernel_rfl) h0 h1 ?_
      refine reg_run [] 5 [(17, [], Value.pointer (some ⟨(pblk d), ((poff d) + 2) + slot.toNat, none⟩))] (by kernel_rfl) (by kernel_rfl) ?_
      obtain ⟨v18, hc, h⟩ := h
      refine reg_load1 (t := 45) (a := (Go.Operand.tmp 17)) (b := (pblk d)) (o := (((poff d) + 2) + slot.toNat)) (ty := 45) (dst := some 18) (by kernel_rfl) (by kernel_rfl) (by kernel_rfl) hc ?_
      refine reg_run [] 6 [(18, [], Value.slice v18.ptr v18.len v18.cap)] (by kernel_rfl) (by kernel_rfl) ?_
      refine reg_enter (op := (Go.Op.call (Go.Call.mk (Go.Callee.value (Go.Operand.func 31)) #[(Go.Operand.tmp 18)] #[45]))) (ty := 45) (dst := some 19) 31 #[Value.slice v18.ptr v18.len v18.cap] (by kernel_rfl) (fun ww => by kernel_rfl) (Calls.mono h ?_)
      rintro _ w2 ⟨v19, rfl, h⟩
      refine ⟨_, rfl, ?_⟩
      refine reg_run [.plain, .plain] 9 [(4, [], Value.slice v19.ptr v19.len v19.cap), (5, [], Value.int .i64 0)] (by kernel_rfl) (by kernel_rfl) ?_
      refine reg_end [(4, Value.slice v19.ptr v19.len v19.cap), (5, Value.int .i64 0)] (by kernel_rfl) (by kernel_rfl) ?_
      change WpE _ _ c_disk_Disk_Read_19 _ _ _
      refine wpE_ret (by kernel_rfl) ?_
      repeat (first | refine seqQ_ret ?_ | refine blockQ_ret ?_ | refine loopQ_ret ?_ | refine cutQ_ret ?_)
      exact retT (rs := [(Go.ResultVar.tmp 4), (Go.ResultVar.tmp 5)]) (vs := [Value.slice v19.ptr v19.len v19.cap, Value.int .i64 0]) (by kernel_rfl) (⟨by kernel_rfl, ⟨by kernel_rfl, trivial⟩⟩) (by kernel_rfl) ⟨v19, 0, rfl, h⟩
  · rintro e w' ⟨v, rfl, r0, r1, rfl, h⟩; exact ⟨r0, r1, rfl, h⟩

/-! ### (*towpath/disk.Disk).Write (function 14) -/
noncomputable def c_disk_Disk_Write_0 : Code := (Tryz.f14.body).getD Code.skip
noncomputable def c_disk_Disk_Write_1 : Code := Code.l c_disk_Disk_Write_0
noncomputable def r_disk_Disk_Write_1 : Array Oper := Code.ops c_disk_Disk_Write_1
noncomputable def c_disk_Disk_Write_3 : Code := Code.r c_disk_Disk_Write_0
noncomputable def c_disk_Disk_Write_4 : Code := Code.l c_disk_Disk_Write_3
noncomputable def c_disk_Disk_Write_5 : Code := Code.l c_disk_Disk_Write_4
noncomputable def r_disk_Disk_Write_5 : Array Oper := Code.ops c_disk_Disk_Write_5
noncomputable def c_disk_Disk_Write_7 : Code := Code.r c_disk_Disk_Write_4
noncomputable def c_disk_Disk_Write_8 : Code := Code.l c_disk_Disk_Write_7
noncomputable def r_disk_Disk_Write_8 : Array Oper := Code.ops c_disk_Disk_Write_8
noncomputable def c_disk_Disk_Write_10 : Code := Code.r c_disk_Disk_Write_7
noncomputable def c_disk_Disk_Write_11 : Code := Code.l c_disk_Disk_Write_10
noncomputable def c_disk_Disk_Write_12 : Code := Code.l c_disk_Disk_Write_11
noncomputable def r_disk_Disk_Write_12 : Array Oper := Code.ops c_disk_Disk_Write_12
noncomputable def c_disk_Disk_Write_14 : Code := Code.r c_disk_Disk_Write_11
noncomputable def c_disk_Disk_Write_15 : Code := Code.r c_disk_Disk_Write_10
noncomputable def c_disk_Disk_Write_16 : Code := Code.r c_disk_Disk_Write_3
noncomputable def c_disk_Disk_Write_17 : Code := Code.l c_disk_Disk_Write_16
noncomputable def c_disk_Disk_Write_18 : Code := Code.l c_disk_Disk_Write_17
noncomputable def c_disk_Disk_Write_19 : Code := Code.l c_disk_Disk_Write_18
noncomputable def r_disk_Disk_Write_19 : Array Oper := Code.ops c_disk_Disk_Write_19
noncomputable def c_disk_Disk_Write_21 : Code := Code.r c_disk_Disk_Write_18
noncomputable def c_disk_Disk_Write_22 : Code := Code.l c_disk_Disk_Write_21
noncomputable def c_disk_Disk_Write_23 : Code := Code.l c_disk_Disk_Write_22
noncomputable def r_disk_Disk_Write_23 : Array Oper := Code.ops c_disk_Disk_Write_23
noncomputable def c_disk_Disk_Write_25 : Code := Code.r c_disk_Disk_Write_22
noncomputable def c_disk_Disk_Write_26 : Code := Code.r c_disk_Disk_Write_21
noncomputable def c_disk_Disk_Write_27 : Code := Code.l c_disk_Disk_Write_26
noncomputable def r_disk_Disk_Write_27 : Array Oper := Code.ops c_disk_Disk_Write_27
noncomputable def c_disk_Disk_Write_29 : Code := Code.r c_disk_Disk_Write_26
noncomputable def c_disk_Disk_Write_30 : Code := Code.l c_disk_Disk_Write_29
noncomputable def c_disk_Disk_Write_31 : Code := Code.l c_disk_Disk_Write_30
noncomputable def r_disk_Disk_Write_31 : Array Oper := Code.ops c_disk_Disk_Write_31
noncomputable def c_disk_Disk_Write_33 : Code := Code.r c_disk_Disk_Write_30
noncomputable def c_disk_Disk_Write_34 : Code := Code.r c_disk_Disk_Write_29
noncomputable def c_disk_Disk_Write_35 : Code := Code.l c_disk_Disk_Write_34
noncomputable def r_disk_Disk_Write_35 : Array Oper := Code.ops c_disk_Disk_Write_35
noncomputable def c_disk_Disk_Write_37 : Code := Code.r c_disk_Disk_Write_34
noncomputable def c_disk_Disk_Write_38 : Code := Code.l c_disk_Disk_Write_37
noncomputable def c_disk_Disk_Write_39 : Code := Code.l c_disk_Disk_Write_38
noncomputable def r_disk_Disk_Write_39 : Array Oper := Code.ops c_disk_Disk_Write_39
noncomputable def c_disk_Disk_Write_41 : Code := Code.r c_disk_Disk_Write_38
noncomputable def c_disk_Disk_Write_42 : Code := Code.r c_disk_Disk_Write_37
noncomputable def c_disk_Disk_Write_43 : Code := Code.r c_disk_Disk_Write_16
noncomputable def c_disk_Disk_Write_44 : Code := Code.l c_disk_Disk_Write_43
noncomputable def c_disk_Disk_Write_45 : Code := Code.l c_disk_Disk_Write_44
noncomputable def r_disk_Disk_Write_45 : Array Oper := Code.ops c_disk_Disk_Write_45
noncomputable def c_disk_Disk_Write_47 : Code := Code.r c_disk_Disk_Write_44
noncomputable def c_disk_Disk_Write_48 : Code := Code.l c_disk_Disk_Write_47
noncomputable def r_disk_Disk_Write_48 : Array Oper := Code.ops c_disk_Disk_Write_48
noncomputable def c_disk_Disk_Write_50 : Code := Code.r c_disk_Disk_Write_47
noncomputable def c_disk_Disk_Write_51 : Code := Code.l c_disk_Disk_Write_50
noncomputable def c_disk_Disk_Write_52 : Code := Code.l c_disk_Disk_Write_51
noncomputable def r_disk_Disk_Write_52 : Array Oper := Code.ops c_disk_Disk_Write_52
noncomputable def c_disk_Disk_Write_54 : Code := Code.r c_disk_Disk_Write_51
noncomputable def c_disk_Disk_Write_55 : Code := Code.r c_disk_Disk_Write_50
noncomputable def c_disk_Disk_Write_56 : Code := Code.r c_disk_Disk_Write_43
noncomputable def c_disk_Disk_Write_57 : Code := Code.l c_disk_Disk_Write_56
noncomputable def c_disk_Disk_Write_58 : Code := Code.l c_disk_Disk_Write_57
noncomputable def r_disk_Disk_Write_58 : Array Oper := Code.ops c_disk_Disk_Write_58
noncomputable def c_disk_Disk_Write_60 : Code := Code.r c_disk_Disk_Write_57
noncomputable def c_disk_Disk_Write_61 : Code := Code.l c_disk_Disk_Write_60
noncomputable def r_disk_Disk_Write_61 : Array Oper := Code.ops c_disk_Disk_Write_61
noncomputable def c_disk_Disk_Write_63 : Code := Code.r c_disk_Disk_Write_60
noncomputable def c_disk_Disk_Write_64 : Code := Code.l c_disk_Disk_Write_63
noncomputable def r_disk_Disk_Write_64 : Array Oper := Code.ops c_disk_Disk_Write_64
noncomputable def c_disk_Disk_Write_66 : Code := Code.r c_disk_Disk_Write_63
noncomputable def c_disk_Disk_Write_67 : Code := Code.r c_disk_Disk_Write_56
noncomputable def c_disk_Disk_Write_68 : Code := Code.l c_disk_Disk_Write_67
noncomputable def r_disk_Disk_Write_68 : Array Oper := Code.ops c_disk_Disk_Write_68
noncomputable def c_disk_Disk_Write_70 : Code := Code.r c_disk_Disk_Write_67
noncomputable def c_disk_Disk_Write_71 : Code := Code.l c_disk_Disk_Write_70
noncomputable def r_disk_Disk_Write_71 : Array Oper := Code.ops c_disk_Disk_Write_71
noncomputable def c_disk_Disk_Write_73 : Code := Code.r c_disk_Disk_Write_70
def o_disk_Disk_Write_64 : List Nat := [0, 1, 2, 3, 4, 5, 6, 7, 8, 9, 10, 11, 12, 13, 14, 15, 16, 18, 19, 17, 20, 21]

set_option maxRecDepth 100000 in
set_option maxHeartbeats 4000000 in
theorem S_disk_Disk_Write {d : Option Addr} {slot : Int} {at_ : Int} {b_ : Slc} {w : World} {R : Int → World → Prop} (h : F_disk_Disk_Write d slot at_ b_ R w) : C_disk_Disk_Write d slot at_ b_ w R := by
  unfold F_disk_Disk_Write at h
  unfold C_disk_Disk_Write
  refine Calls.mono (calls_of_wpE (args := [Value.pointer d, Value.int .i64 slot, Value.int .i64 at_, Value.slice b_.ptr b_.len b_.cap]) (R := fun v w' => ∃ (r0 : Int), v = Value.int .i64 r0 ∧ R r0 w') Tryz.func14 (c := c_disk_Disk_Write_0) (by kernel_rfl) 95 (by kernel_rfl) (by kernel_rfl) [(0, Value.pointer d), (1, Value.int .i64 slot), (2, Value.int .i64 at_), (3, Value.slice b_.ptr b_.len b_.cap)] (by kernel_rfl) ?_) ?_
  · refine wpE_seq (x := c_disk_Disk_Write_1) (y := c_disk_Disk_Write_3) (by kernel_rfl) ?_
    refine wpE_region (id := 0) (ops := r_disk_Disk_Write_1) (by kernel_rfl) ?_
    refine reg_run [.plain] 1 [(0, [], Value.pointer d), (1, [], Value.int .i64 slot), (2, [], Value.int .i64 at_), (3, [], Value.slice b_.ptr b_.len b_.cap)] (by kernel_rfl) (by kernel_rfl) ?_
    refine reg_end [(0, Value.pointer d), (1, Value.int .i64 slot), (2, Value.int .i64 at_), (3, Value.slice b_.ptr b_.len b_.cap)] (by kernel_rfl) (by kernel_rfl) ?_
    change WpE _ _ c_disk_Disk_Write_3 _ _ _
    refine wpE_seq (x := c_disk_Disk_Write_4) (y := c_disk_Disk_Write_16) (by kernel_rfl) ?_
    refine wpE_seq (x := c_disk_Disk_Write_5) (y := c_disk_Disk_Write_7) (by kernel_rfl) ?_
    refine wpE_region (id := 1) (ops := r_disk_Disk_Write_5) (by kernel_rfl) ?_
    refine reg_run [.plain, .plain] 2 [(0, [], Value.pointer d), (1, [], Value.int .i64 slot), (2, [], Value.int .i64 at_), (3, [], Value.slice b_.ptr b_.len b_.cap), (12, [], Value.pointer d), (13, [], Value.int .i64 slot)] (by kernel_rfl) (by kernel_rfl) ?_
    refine reg_enter (op := (Go.Op.call (Go.Call.mk (Go.Callee.value (Go.Operand.func 30)) #[(Go.Operand.tmp 12), (Go.Operand.tmp 13)] #[24, 3]))) (ty := 25) (dst := some 14) 30 #[Value.pointer d, Value.int .i64 slot] (by kernel_rfl) (fun ww => by kernel_rfl) (Calls.mono h ?_)
    rintro _ w1 ⟨v14, rfl, h⟩
    refine ⟨_, rfl, ?_⟩
    refine reg_run [.plain] 4 [(0, [], Value.pointer d), (1, [], Value.int .i64 slot), (2, [], Value.int .i64 at_), (3, [], Value.slice b_.ptr b_.len b_.cap), (9, [], Value.int .i64 v14)] (by kernel_rfl) (by kernel_rfl) ?_
    refine reg_end [(0, Value.pointer d), (1, Value.int .i64 slot), (2, Value.int .i64 at_), (3, Value.slice b_.ptr b_.len b_.cap), (9, Value.int .i64 v14)] (by kernel_rfl) (by kernel_rfl) ?_
    change WpE _ _ c_disk_Disk_Write_7 _ _ _
    refine wpE_seq (x := c_disk_Disk_Write_8) (y := c_disk_Disk_Write_10) (by kernel_rfl) ?_
    refine wpE_region (id := 2) (ops := r_disk_Disk_Write_8) (by kernel_rfl) ?_
    refine reg_run [.plain, .plain] 2 [(0, [], Value.pointer d), (1, [], Value.int .i64 slot), (2, [], Value.int .i64 at_), (3, [], Value.slice b_.ptr b_.len b_.cap), (9, [], Value.int .i64 v14), (16, [], Value.bool (v14 != 0))] (by kernel_rfl) (by kernel_rfl) ?_
    refine reg_end [(0, Value.pointer d), (1, Value.int .i64 slot), (2, Value.int .i64 at_), (3, Value.slice b_.ptr b_.len b_.cap), (9, Value.int .i64 v14), (16, Value.bool (v14 != 0))] (by kernel_rfl) (by kernel_rfl) ?_
    change WpE _ _ c_disk_Disk_Write_10 _ _ _
    refine wpE_cond (o := (Operand.tmp 16)) (b := (v14 != 0)) (x := c_disk_Disk_Write_11) (y := c_disk_Disk_Write_15) (by kernel_rfl) (by kernel_rfl) (fun hb => ?_) (fun hb => ?_)
    · replace h := h.1 hb
      refine wpE_seq (x := c_disk_Disk_Write_12) (y := c_disk_Disk_Write_14) (by kernel_rfl) ?_
      refine wpE_region (id := 3) (ops := r_disk_Disk_Write_12) (by kernel_rfl) ?_
      refine reg_run [.plain, .plain] 2 [(8, [], Value.int .i64 v14)] (by kernel_rfl) (by kernel_rfl) ?_
      refine reg_end [(8, Value.int .i64 v14)] (by kernel_rfl) (by kernel_rfl) ?_
      change WpE _ _ c_disk_Disk_Write_14 _ _ _
      refine wpE_ret (by kernel_rfl) ?_
      repeat (first | refine seqQ_ret ?_ | refine blockQ_ret ?_ | refine loopQ_ret ?_ | refine cutQ_ret ?_)
      exact retS (rs := [(Go.ResultVar.tmp 8)]) (v := Value.int .i64 v14) (by kernel_rfl) (⟨by kernel_rfl, trivial⟩) ⟨v14, rfl, h⟩
    · replace h := h.2 hb
      refine wpE_skip (by kernel_rfl) ?_
      change WpE _ _ c_disk_Disk_Write_16 _ _ _
      refine wpE_seq (x := c_disk_Disk_Write_17) (y := c_disk_Disk_Write_43) (by kernel_rfl) ?_
      refine wpE_block (id := 0) (x := c_disk_Disk_Write_18) (by kernel_rfl) ?_
      refine wpE_seq (x := c_disk_Disk_Write_19) (y := c_disk_Disk_Write_21) (by kernel_rfl) ?_
      refine wpE_region (id := 4) (ops := r_disk_Disk_Write_19) (by kernel_rfl) ?_
      refine reg_run [.plain, .plain, .plain, .plain, .plain, .plain, .pick, .plain] 8 [(0, [], Value.pointer d), (1, [], Value.int .i64 slot), (2, [], Value.int .i64 at_), (3, [], Value.slice b_.ptr b_.len b_.cap), (18, [], Value.bool ((decide (at_ < 0)) || (decide (((b_.len : Nat) : Int) > 64))))] (by kernel_rfl) (by kernel_rfl) ?_
      refine reg_end [(0, Value.pointer d), (1, Value.int .i64 slot), (2, Value.int .i64 at_), (3, Value.slice b_.ptr b_.len b_.cap), (18, Value.bool ((decide (at_ < 0)) || (decide (((b_.len : Nat) : Int) > 64))))] (by kernel_rfl) (by kernel_rfl) ?_
      change WpE _ _ c_disk_Disk_Write_21 _ _ _
      refine wpE_cond (o := (Operand.tmp 18)) (b := ((decide (at_ < 0)) || (decide (((b_.len : Nat) : Int) > 64)))) (x := c_disk_Disk_Write_22) (y := c_disk_Disk_Write_26) (by kernel_rfl) (by kernel_rfl) (fun hb => ?_) (fun hb => ?_)
      · replace h := h.1 hb
        refine wpE_seq (x := c_disk_Disk_Write_23) (y := c_disk_Disk_Write_25) (by kernel_rfl) ?_
        refine wpE_region (id := 5) (ops := r_disk_Disk_Write_23) (by kernel_rfl) ?_
        refine reg_run [.plain] 1 [(8, [], Value.int .i64 1)] (by kernel_rfl) (by kernel_rfl) ?_
        refine reg_end [(8, Value.int .i64 1)] (by kernel_rfl) (by kernel_rfl) ?_
        change WpE _ _ c_disk_Disk_Write_25 _ _ _
        refine wpE_ret (by kernel_rfl) ?_
        repeat (first | refine seqQ_ret ?_ | refine blockQ_ret ?_ | refine loopQ_ret ?_ | refine cutQ_ret ?_)
        exact retS (rs := [(Go.ResultVar.tmp 8)]) (v := Value.int .i64 1) (by kernel_rfl) (⟨by kernel_rfl, trivial⟩) ⟨1, rfl, h⟩
      · replace h := h.2 hb
        refine wpE_seq (x := c_disk_Disk_Write_27) (y := c_disk_Disk_Write_29) (by kernel_rfl) ?_
        refine wpE_region (id := 6) (ops := r_disk_Disk_Write_27) (by kernel_rfl) ?_
        refine reg_run [.plain, .plain, .plain] 3 [(0, [], Value.pointer d), (1, [], Value.int .i64 slot), (2, [], Value.int .i64 at_), (3, [], Value.slice b_.ptr b_.len b_.cap), (27, [], Value.int .i64 at_), (28, [], Value.pointer d), (29, [], Value.int .i64 slot)] (by kernel_rfl) (by kernel_rfl) ?_
        obtain ⟨hp_5, h⟩ := h
        refine reg_conv [(0, [], Value.pointer d), (1, [], Value.int .i64 slot), (2, [], Value.int .i64 at_), (3, [], Value.slice b_.ptr b_.len b_.cap), (27, [], Value.int .i64 at_), (28, [], Value.pointer (some ⟨(pblk d), (poff d), none⟩)), (29, [], Value.int .i64 slot)] (congrArg (fun pp => ([(0, [], Value.pointer d), (1, [], Value.int .i64 slot), (2, [], Value.int .i64 at_), (3, [], Value.slice b_.ptr b_.len b_.cap), (27, [], Value.int .i64 at_), (28, [], Value.pointer pp), (29, [], Value.int .i64 slot)] : GEnv)) hp_5) ?_
        refine reg_run [.plain] 4 [(0, [], Value.pointer d), (1, [], Value.int .i64 slot), (2, [], Value.int .i64 at_), (3, [], Value.slice b_.ptr b_.len b_.cap), (27, [], Value.int .i64 at_), (28, [], Value.pointer (some ⟨(pblk d), (poff d), none⟩)), (29, [], Value.int .i64 slot), (30, [], Value.pointer (some ⟨(pblk d), (poff d), none⟩))] (by kernel_rfl) (by kernel_rfl) ?_
        refine reg_run [.plain] 5 [(0, [], Value.pointer d), (1, [], Value.int .i64 slot), (2, [], Value.int .i64 at_), (3, [], Value.slice b_.ptr b_.len b_.cap), (27, [], Value.int .i64 at_), (29, [], Value.int .i64 slot), (31, [], Value.pointer (some ⟨(pblk d), (poff d) + 2, none⟩))] (by kernel_rfl) (by kernel_rfl) ?_
        obtain ⟨h0, h1, h⟩ := h
        refine reg_indexA1 (t := 54) (e := 45) (x := (Go.Operand.tmp 31)) (ix := (Go.Operand.tmp 29)) (b := (pblk d)) (o := ((poff d) + 2)) (len := 2) (k := .i64) (j := slot) (ty := 0) (dst := some 32) (by kernel_rfl) (by kernel_rfl) (by kernel_rfl) (by kernel_rfl) (by kernel_rfl) h0 h1 ?_
        refine reg_run [] 6 [(0, [], Value.pointer d), (1, [], Value.int .i64 slot), (2, [], Value.int .i64 at_), (3, [], Value.slice b_.ptr b_.len b_.cap), (27, [], Value.int .i64 at_), (32, [], Value.pointer (some ⟨(pblk d), ((poff d) + 2) + slot.toNat, none⟩))] (by kernel_rfl) (by kernel_rfl) ?_
        obtain ⟨v33, hc, h⟩ := h
        refine reg_load1 (t := 45) (a := (Go.Operand.tmp 32)) (b := (pblk d)) (o := (((poff d) + 2) + slot.toNat)) (ty := 45) (dst := some 33) (by kernel_rfl) (by kernel_rfl) (by kernel_rfl) hc ?_
        refine reg_run [.plain, .plain, .plain] 10 [(0, [], Value.pointer d), (1, [], Value.int .i64 slot), (2, [], Value.int .i64 at_), (3, [], Value.slice b_.ptr b_.len b_.cap), (26, [], Value.bool (decide (at_ > ((v33.len : Nat) : Int))))] (by kernel_rfl) (by kernel_rfl) ?_
        refine reg_end [(0, Value.pointer d), (1, Value.int .i64 slot), (2, Value.int .i64 at_), (3, Value.slice b_.ptr b_.len b_.cap), (26, Value.bool (decide (at_ > ((v33.len : Nat) : Int))))] (by kernel_rfl) (by kernel_rfl) ?_
        change WpE _ _ c_disk_Disk_Write_29 _ _ _
        refine wpE_cond (o := (Operand.tmp 26)) (b := (decide (at_ > ((v33.len : Nat) : Int)))) (x := c_disk_Disk_Write_30) (y := c_disk_Disk_Write_34) (by kernel_rfl) (by kernel_rfl) (fun hb => ?_) (fun hb => ?_)
        · replace h := h.1 hb
          refine wpE_seq (x := c_disk_Disk_Write_31) (y := c_disk_Disk_Write_33) (by kernel_rfl) ?_
          refine wpE_region (id := 7) (ops := r_disk_Disk_Write_31) (by kernel_rfl) ?_
          refine reg_run [.plain] 1 [(8, [], Value.int .i64 6)] (by kernel_rfl) (by kernel_rfl) ?_
          refine reg_end [(8, Value.int .i64 6)] (by kernel_rfl) (by kernel_rfl) ?_
          change WpE _ _ c_disk_Disk_Write_33 _ _ _
          refine wpE_ret (by kernel_rfl) ?_
          repeat (first | refine seqQ_ret ?_ | refine blockQ_ret ?_ | refine loopQ_ret ?_ | refine cutQ_ret ?_)
          exact retS (rs := [(Go.ResultVar.tmp 8)]) (v := Value.int .i64 6) (by kernel_rfl) (⟨by kernel_rfl, trivial⟩) ⟨6, rfl, h⟩
        · replace h := h.2 hb
          refine wpE_seq (x := c_disk_Disk_Write_35) (y := c_disk_Disk_Write_37) (by kernel_rfl) ?_
          refine wpE_region (id := 8) (ops := r_disk_Disk_Write_35) (by kernel_rfl) ?_
          refine reg_run [.plain, .plain] 2 [(0, [], Value.pointer d), (1, [], Value.int .i64 slot), (2, [], Value.int .i64 at_), (3, [], Value.slice b_.ptr b_.len b_.cap), (37, [], Value.int .i64 at_), (38, [], Value.pointer d)] (by kernel_rfl) (by kernel_rfl) ?_
          obtain ⟨hp_7, h⟩ := h
          refine reg_conv [(0, [], Value.pointer d), (1, [], Value.int .i64 slot), (2, [], Value.int .i64 at_), (3, [], Value.slice b_.ptr b_.len b_.cap), (37, [], Value.int .i64 at_), (38, [], Value.pointer (some ⟨(pblk d), (poff d), none⟩))] (congrArg (fun pp => ([(0, [], Value.pointer d), (1, [], Value.int .i64 slot), (2, [], Value.int .i64 at_), (3, [], Value.slice b_.ptr b_.len b_.cap), (37, [], Value.int .i64 at_), (38, [], Value.pointer pp)] : GEnv)) hp_7) ?_
          refine reg_run [.plain] 3 [(0, [], Value.pointer d), (1, [], Value.int .i64 slot), (2, [], Value.int .i64 at_), (3, [], Value.slice b_.ptr b_.len b_.cap), (37, [], Value.int .i64 at_), (38, [], Value.pointer (some ⟨(pblk d), (poff d), none⟩)), (39, [], Value.pointer (some ⟨(pblk d), (poff d), none⟩))] (by kernel_rfl) (by kernel_rfl) ?_
          refine reg_run [.plain] 4 [(0, [], Value.pointer d), (1, [], Value.int .i64 slot), (2, [], Value.int .i64 at_), (3, [], Value.slice b_.ptr b_.len b_.cap), (37, [], Value.int .i64 at_), (40, [], Value.pointer (some ⟨(pblk d), (poff d) + 1, none⟩))] (by kernel_rfl) (by kernel_rfl) ?_
          obtain ⟨v41, hc, h⟩ := h
          refine reg_load1 (t := 3) (a := (Go.Operand.tmp 40)) (b := (pblk d)) (o := ((poff d) + 1)) (ty := 3) (dst := some 41) (by kernel_rfl) (by kernel_rfl) (by kernel_rfl) hc ?_
          refine reg_run [.plain, .plain, .plain, .plain, .plain] 10 [(0, [], Value.pointer d), (1, [], Value.int .i64 slot), (2, [], Value.int .i64 at_), (3, [], Value.slice b_.ptr b_.len b_.cap), (36, [], Value.bool (decide (at_ > (IntKind.i64.wrap (v41 - ((b_.len : Nat) : Int))))))] (by kernel_rfl) (by kernel_rfl) ?_
          refine reg_end [(0, Value.pointer d), (1, Value.int .i64 slot), (2, Value.int .i64 at_), (3, Value.slice b_.ptr b_.len b_.cap), (36, Value.bool (decide (at_ > (IntKind.i64.wrap (v41 - ((b_.len : Nat) : Int))))))] (by kernel_rfl) (by kernel_rfl) ?_
          change WpE _ _ c_disk_Disk_Write_37 _ _ _
          refine wpE_cond (o := (Operand.tmp 36)) (b := (decide (at_ > (IntKind.i64.wrap (v41 - ((b_.len : Nat) : Int)))))) (x := c_disk_Disk_Write_38) (y := c_disk_Disk_Write_42) (by kernel_rfl) (by kernel_rfl) (fun hb => ?_) (fun hb => ?_)
          · replace h := h.1 hb
            refine wpE_seq (x := c_disk_Disk_Write_39) (y := c_disk_Disk_Write_41) (by kernel_rfl) ?_
            refine wpE_region (id := 9) (ops := r_disk_Disk_Write_39) (by kernel_rfl) ?_
            refine reg_run [.plain] 1 [(8, [], Value.int .i64 13)] (by kernel_rfl) (by kernel_rfl) ?_
            refine reg_end [(8, Value.int .i64 13)] (by kernel_rfl) (by kernel_rfl) ?_
            change WpE _ _ c_disk_Disk_Write_41 _ _ _
            refine wpE_ret (by kernel_rfl) ?_
            repeat (first | refine seqQ_ret ?_ | refine blockQ_ret ?_ | refine loopQ_ret ?_ | refine cutQ_ret ?_)
            exact retS (rs := [(Go.ResultVar.tmp 8)]) (v := Value.int .i64 13) (by kernel_rfl) (⟨by kernel_rfl, trivial⟩) ⟨13, rfl, h⟩
          · replace h := h.2 hb
            refine wpE_skip (by kernel_rfl) ?_
            change WpE _ _ c_disk_Disk_Write_43 _ _ _
            refine wpE_seq (x := c_disk_Disk_Write_44) (y := c_disk_Disk_Write_56) (by kernel_rfl) ?_
            refine wpE_seq (x := c_disk_Disk_Write_45) (y := c_disk_Disk_Write_47) (by kernel_rfl) ?_
            refine wpE_region (id := 10) (ops := r_disk_Disk_Write_45) (by kernel_rfl) ?_
            refine reg_run [.plain] 1 [(0, [], Value.pointer d), (1, [], Value.int .i64 slot), (2, [], Value.int .i64 at_), (3, [], Value.slice b_.ptr b_.len b_.cap), (46, [], Value.pointer d)] (by kernel_rfl) (by kernel_rfl) ?_
            refine reg_enter (op := (Go.Op.call (Go.Call.mk (Go.Callee.value (Go.Operand.func 67)) #[(Go.Operand.tmp 46)] #[24]))) (ty := 25) (dst := some 47) 67 #[Value.pointer d] (by kernel_rfl) (fun ww => by kernel_rfl) (Calls.mono h ?_)
            rintro _ w2 ⟨v47, rfl, h⟩
            refine ⟨_, rfl, ?_⟩
            refine reg_run [.plain] 3 [(0, [], Value.pointer d), (1, [], Value.int .i64 slot), (2, [], Value.int .i64 at_), (3, [], Value.slice b_.ptr b_.len b_.cap), (10, [], Value.int .i64 v47)] (by kernel_rfl) (by kernel_rfl) ?_
            refine reg_end [(0, Value.pointer d), (1, Value.int .i64 slot), (2, Value.int .i64 at_), (3, Value.slice b_.ptr b_.len b_.cap), (10, Value.int .i64 v47)] (by kernel_rfl) (by kernel_rfl) ?_
            change WpE _ _ c_disk_Disk_Write_47 _ _ _
            refine wpE_seq (x := c_disk_Disk_Write_48) (y := c_disk_Disk_Write_50) (by kernel_rfl) ?_
            refine wpE_region (id := 11) (ops := r_disk_Disk_Write_48) (by kernel_rfl) ?_
            refine reg_run [.plain, .plain] 2 [(0, [], Value.pointer d), (1, [], Value.int .i64 slot), (2, [], Value.int .i64 at_), (3, [], Value.slice b_.ptr b_.len b_.cap), (10, [], Value.int .i64 v47), (49, [], Value.bool (v47 != 0))] (by kernel_rfl) (by kernel_rfl) ?_
            refine reg_end [(0, Value.pointer d), (1, Value.int .i64 slot), (2, Value.int .i64 at_), (3, Value.slice b_.ptr b_.len b_.cap), (10, Value.int .i64 v47), (49, Value.bool (v47 != 0))] (by kernel_rfl) (by kernel_rfl) ?_
            change WpE _ _ c_disk_Disk_Write_50 _ _ _
            refine wpE_cond (o := (Operand.tmp 49)) (b := (v47 != 0)) (x := c_disk_Disk_Write_51) (y := c_disk_Disk_Write_55) (by kernel_rfl) (by kernel_rfl) (fun hb => ?_) (fun hb => ?_)
            · replace h := h.1 hb
              refine wpE_seq (x := c_disk_Disk_Write_52) (y := c_disk_Disk_Write_54) (by kernel_rfl) ?_
              refine wpE_region (id := 12) (ops := r_disk_Disk_Write_52) (by kernel_rfl) ?_
              refine reg_run [.plain, .plain] 2 [(8, [], Value.int .i64 v47)] (by kernel_rfl) (by kernel_rfl) ?_
              refine reg_end [(8, Value.int .i64 v47)] (by kernel_rfl) (by kernel_rfl) ?_
              change WpE _ _ c_disk_Disk_Write_54 _ _ _
              refine wpE_ret (by kernel_rfl) ?_
              repeat (first | refine seqQ_ret ?_ | refine blockQ_ret ?_ | refine loopQ_ret ?_ | refine cutQ_ret ?_)
              exact retS (rs := [(Go.ResultVar.tmp 8)]) (v := Value.int .i64 v47) (by kernel_rfl) (⟨by kernel_rfl, trivial⟩) ⟨v47, rfl, h⟩
            · replace h := h.2 hb
              refine wpE_skip (by kernel_rfl) ?_
              change WpE _ _ c_disk_Disk_Write_56 _ _ _
              refine wpE_seq_cut (x := c_disk_Disk_Write_57) (y := c_disk_Disk_Write_67) (by kernel_rfl) (fun l w => l = [(0, Value.pointer d), (1, Value.int .i64 slot), (2, Value.int .i64 at_), (3, Value.slice b_.ptr b_.len b_.cap)] ∧ F_disk_Disk_Write_k0 d slot at_ b_ R w) ?_ ?_
              · refine wpE_seq (x := c_disk_Disk_Write_58) (y := c_disk_Disk_Write_60) (by kernel_rfl) ?_
                refine wpE_region (id := 13) (ops := r_disk_Disk_Write_58) (by kernel_rfl) ?_
                refine reg_run [.plain, .plain, .plain, .plain, .plain] 5 [(0, [], Value.pointer d), (1, [], Value.int .i64 slot), (2, [], Value.int .i64 at_), (3, [], Value.slice b_.ptr b_.len b_.cap), (11, [], Value.int .i64 (IntKind.i64.wrap (at_ + ((b_.len : Nat) : Int))))] (by kernel_rfl) (by kernel_rfl) ?_
                refine reg_end [(0, Value.pointer d), (1, Value.int .i64 slot), (2, Value.int .i64 at_), (3, Value.slice b_.ptr b_.len b_.cap), (11, Value.int .i64 (IntKind.i64.wrap (at_ + ((b_.len : Nat) : Int))))] (by kernel_rfl) (by kernel_rfl) ?_
                change WpE _ _ c_disk_Disk_Write_60 _ _ _
                refine wpE_seq (x := c_disk_Disk_Write_61) (y := c_disk_Disk_Write_63) (by kernel_rfl) ?_
                refine wpE_region (id := 14) (ops := r_disk_Disk_Write_61) (by kernel_rfl) ?_
                refine reg_run [.plain, .plain, .plain] 3 [(0, [], Value.pointer d), (1, [], Value.int .i64 slot), (2, [], Value.int .i64 at_), (3, [], Value.slice b_.ptr b_.len b_.cap), (11, [], Value.int .i64 (IntKind.i64.wrap (at_ + ((b_.len : Nat) : Int)))), (55, [], Value.int .i64 (IntKind.i64.wrap (at_ + ((b_.len : Nat) : Int)))), (56, [], Value.pointer d), (57, [], Value.int .i64 slot)] (by kernel_rfl) (by kernel_rfl) ?_
                obtain ⟨hp_16, h⟩ := h
                refine reg_conv [(0, [], Value.pointer d), (1, [], Value.int .i64 slot), (2, [], Value.int .i64 at_), (3, [], Value.slice b_.ptr b_.len b_.cap), (11, [], Value.int .i64 (IntKind.i64.wrap (at_ + ((b_.len : Nat) : Int)))), (55, [], Value.int .i64 (IntKind.i64.wrap (at_ + ((b_.len : Nat) : Int)))), (56, [], Value.pointer (some ⟨(pblk d), (poff d), none⟩)), (57, [], Value.int .i64 slot)] (congrArg (fun pp => ([(0, [], Value.pointer d), (1, [], Value.int .i64 slot), (2, [], Value.int .i64 at_), (3, [], Value.slice b_.ptr b_.len b_.cap), (11, [], Value.int .i64 (IntKind.i64.wrap (at_ + ((b_.len : Nat) : Int)))), (55, [], Value.int .i64 (IntKind.i64.wrap (at_ + ((b_.len : Nat) : Int)))), (56, [], Value.pointer pp), (57, [], Value.int .i64 slot)] : GEnv)) hp_16) ?_
                refine reg_run [.plain] 4 [(0, [], Value.pointer d), (1, [], Value.int .i64 slot), (2, [], Value.int .i64 at_), (3, [], Value.slice b_.ptr b_.len b_.cap), (11, [], Value.int .i64 (IntKind.i64.wrap (at_ + ((b_.len : Nat) : Int)))), (55, [], Value.int .i64 (IntKind.i64.wrap (at_ + ((b_.len : Nat) : Int)))), (56, [], Value.pointer (some ⟨(pblk d), (poff d), none⟩)), (57, [], Value.int .i64 slot), (58, [], Value.pointer (some ⟨(pblk d), (poff d), none⟩))] (by kernel_rfl) (by kernel_rfl) ?_
                refine reg_run [.plain] 5 [(0, [], Value.pointer d), (1, [], Value.int .i64 slot), (2, [], Value.int .i64 at_), (3, [], Value.slice b_.ptr b_.len b_.cap), (11, [], Value.int .i64 (IntKind.i64.wrap (at_ + ((b_.len : Nat) : Int)))), (55, [], Value.int .i64 (IntKind.i64.wrap (at_ + ((b_.len : Nat) : Int)))), (57, [], Value.int .i64 slot), (59, [], Value.pointer (some ⟨(pblk d), (poff d) + 2, none⟩))] (by kernel_rfl) (by kernel_rfl) ?_
                obtain ⟨h0, h1, h⟩ := h
                refine reg_indexA1 (t := 54) (e := 45) (x := (Go.Operand.tmp 59)) (ix := (Go.Operand.tmp 57)) (b := (pblk d)) (o := ((poff d) + 2)) (len := 2) (k := .i64) (j := slot) (ty := 0) (dst := some 60) (by kernel_rfl) (by kernel_rfl) (by kernel_rfl) (by kernel_rfl) (by kernel_rfl) h0 h1 ?_
                refine reg_run [] 6 [(0, [], Value.pointer d), (1, [], Value.int .i64 slot), (2, [], Value.int .i64 at_), (3, [], Value.slice b_.ptr b_.len b_.cap), (11, [], Value.int .i64 (IntKind.i64.wrap (at_ + ((b_.len : Nat) : Int)))), (55, [], Value.int .i64 (IntKind.i64.wrap (at_ + ((b_.len : Nat) : Int)))), (60, [], Value.pointer (some ⟨(pblk d), ((poff d) + 2) + slot.toNat, none⟩))] (by kernel_rfl) (by kernel_rfl) ?_
                obtain ⟨v61, hc, h⟩ := h
                refine reg_load1 (t := 45) (a := (Go.Operand.tmp 60)) (b := (pblk d)) (o := (((poff d) + 2) + slot.toNat)) (ty := 45) (dst := some 61) (by kernel_rfl) (by kernel_rfl) (by kernel_rfl) hc ?_
                refine reg_run [.plain, .plain] 9 [(0, [], Value.pointer d), (1, [], Value.int .i64 slot), (2, [], Value.int .i64 at_), (3, [], Value.slice b_.ptr b_.len b_.cap), (11, [], Value.int .i64 (IntKind.i64.wrap (at_ + ((b_.len : Nat) : Int)))), (63, [], Value.bool (decide ((IntKind.i64.wrap (at_ + ((b_.len : Nat) : Int))) > ((v61.len : Nat) : Int))))] (by kernel_rfl) (by kernel_rfl) ?_
                refine reg_end [(0, Value.pointer d), (1, Value.int .i64 slot), (2, Value.int .i64 at_), (3, Value.slice b_.ptr b_.len b_.cap), (11, Value.int .i64 (IntKind.i64.wrap (at_ + ((b_.len : Nat) : Int)))), (63, Value.bool (decide ((IntKind.i64.wrap (at_ + ((b_.len : Nat) : Int))) > ((v61.len : Nat) : Int))))] (by kernel_rfl) (by kernel_rfl) ?_
                change WpE _ _ c_disk_Disk_Write_63 _ _ _
                refine wpE_cond (o := (Operand.tmp 63)) (b := (decide ((IntKind.i64.wrap (at_ + ((b_.len : Nat) : Int))) > ((v61.len : Nat) : Int)))) (x := c_disk_Disk_Write_64) (y := c_disk_Disk_Write_66) (by kernel_rfl) (by kernel_rfl) (fun hb => ?_) (fun hb => ?_)
                · replace h := h.1 hb
                  refine wpE_mixregion (id := 15) (ops := r_disk_Disk_Write_64) o_disk_Disk_Write_64 (by kernel_rfl) (by kernel_rfl) (by kernel_rfl) (by kernel_rfl) (fun w5 hw => ?_)
                  replace h := h w5 hw
                  clear hw
                  refine mreg_run [.plain, .plain, .plain, .plain] 4 [(0, [], Value.pointer d), (1, [], Value.int .i64 slot), (2, [], Value.int .i64 at_), (3, [], Value.slice b_.ptr b_.len b_.cap), (11, [], Value.int .i64 (IntKind.i64.wrap (at_ + ((b_.len : Nat) : Int)))), (64, [], Value.pointer d), (65, [], Value.int .i64 slot), (66, [], Value.pointer d), (67, [], Value.int .i64 slot)] (by kernel_rfl) (by kernel_rfl) ?_
                  obtain ⟨hp_17, h⟩ := h
                  refine mreg_conv [(0, [], Value.pointer d), (1, [], Value.int .i64 slot), (2, [], Value.int .i64 at_), (3, [], Value.slice b_.ptr b_.len b_.cap), (11, [], Value.int .i64 (IntKind.i64.wrap (at_ + ((b_.len : Nat) : Int)))), (64, [], Value.pointer d), (65, [], Value.int .i64 slot), (66, [], Value.pointer (some ⟨(pblk d), (poff d), none⟩)), (67, [], Value.int .i64 slot)] (congrArg (fun pp => ([(0, [], Value.pointer d), (1, [], Value.int .i64 slot), (2, [], Value.int .i64 at_), (3, [], Value.slice b_.ptr b_.len b_.cap), (11, [], Value.int .i64 (IntKind.i64.wrap (at_ + ((b_.len : Nat) : Int)))), (64, [], Value.pointer d), (65, [], Value.int .i64 slot), (66, [], Value.pointer pp), (67, [], Value.int .i64 slot)] : GEnv)) hp_17) ?_
                  refine mreg_run [.plain] 5 [(0, [], Value.pointer d), (1, [], Value.int .i64 slot), (2, [], Value.int .i64 at_), (3, [], Value.slice b_.ptr b_.len b_.cap), (11, [], Value.int .i64 (IntKind.i64.wrap (at_ + ((b_.len : Nat) : Int)))), (64, [], Value.pointer d), (65, [], Value.int .i64 slot), (66, [], Value.pointer (some ⟨(pblk d), (poff d), none⟩)), (67, [], Value.int .i64 slot), (68, [], Value.pointer (some ⟨(pblk d), (poff d), none⟩))] (by kernel_rfl) (by kernel_rfl) ?_
                  refine mreg_run [.plain] 6 [(0, [], Value.pointer d), (1, [], Value.int .i64 slot), (2, [], Value.int .i64 at_), (3, [], Value.slice b_.ptr b_.len b_.cap), (11, [], Value.int .i64 (IntKind.i64.wrap (at_ + ((b_.len : Nat) : Int)))), (64, [], Value.pointer d), (65, [], Value.int .i64 slot), (67, [], Value.int .i64 slot), (69, [], Value.pointer (some ⟨(pblk d), (poff d) + 2, none⟩))] (by kernel_rfl) (by kernel_rfl) ?_
                  obtain ⟨h0, h1, h⟩ := h
                  refine mreg_indexA1 (i := 6) (by kernel_rfl) (t := 54) (e := 45) (x := (Go.Operand.tmp 69)) (ix := (Go.Operand.tmp 67)) (b := (pblk d)) (o := ((poff d) + 2)) (len := 2) (k := .i64) (j := slot) (ty := 0) (dst := some 70) (by kernel_rfl) (by kernel_rfl) (by kernel_rfl) (by kernel_rfl) (by kernel_rfl) h0 h1 ?_
                  refine mreg_run [] 7 [(0, [], Value.pointer d), (1, [], Value.int .i64 slot), (2, [], Value.int .i64 at_), (3, [], Value.slice b_.ptr b_.len b_.cap), (11, [], Value.int .i64 (IntKind.i64.wrap (at_ + ((b_.len : Nat) : Int)))), (64, [], Value.pointer d), (65, [], Value.int .i64 slot), (70, [], Value.pointer (some ⟨(pblk d), ((poff d) + 2) + slot.toNat, none⟩))] (by kernel_rfl) (by kernel_rfl) ?_
                  obtain ⟨v71, hc, h⟩ := h
                  refine mreg_load1 (i := 7) (by kernel_rfl) (t := 45) (a := (Go.Operand.tmp 70)) (b := (pblk d)) (o := (((poff d) + 2) + slot.toNat)) (ty := 45) (dst := some 71) (by kernel_rfl) (by kernel_rfl) (by kernel_rfl) hc ?_
                  refine mreg_run [.plain, .plain, .plain] 11 [(0, [], Value.pointer d), (1, [], Value.int .i64 slot), (2, [], Value.int .i64 at_), (3, [], Value.slice b_.ptr b_.len b_.cap), (64, [], Value.pointer d), (65, [], Value.int .i64 slot), (71, [], Value.slice v71.ptr v71.len v71.cap), (72, [], Value.int .i64 (IntKind.i64.wrap (at_ + ((b_.len : Nat) : Int)))), (73, [], Value.pointer d), (74, [], Value.int .i64 slot)] (by kernel_rfl) (by kernel_rfl) ?_
                  obtain ⟨hp_18, h⟩ := h
                  refine mreg_conv [(0, [], Value.pointer d), (1, [], Value.int .i64 slot), (2, [], Value.int .i64 at_), (3, [], Value.slice b_.ptr b_.len b_.cap), (64, [], Value.pointer d), (65, [], Value.int .i64 slot), (71, [], Value.slice v71.ptr v71.len v71.cap), (72, [], Value.int .i64 (IntKind.i64.wrap (at_ + ((b_.len : Nat) : Int)))), (73, [], Value.pointer (some ⟨(pblk d), (poff d), none⟩)), (74, [], Value.int .i64 slot)] (congrArg (fun pp => ([(0, [], Value.pointer d), (1, [], Value.int .i64 slot), (2, [], Value.int .i64 at_), (3, [], Value.slice b_.ptr b_.len b_.cap), (64, [], Value.pointer d), (65, [], Value.int .i64 slot), (71, [], Value.slice v71.ptr v71.len v71.cap), (72, [], Value.int .i64 (IntKind.i64.wrap (at_ + ((b_.len : Nat) : Int)))), (73, [], Value.pointer pp), (74, [], Value.int .i64 slot)] : GEnv)) hp_18) ?_
                  refine mreg_run [.plain] 12 [(0, [], Value.pointer d), (1, [], Value.int .i64 slot), (2, [], Value.int .i64 at_), (3, [], Value.slice b_.ptr b_.len b_.cap), (64, [], Value.pointer d), (65, [], Value.int .i64 slot), (71, [], Value.slice v71.ptr v71.len v71.cap), (72, [], Value.int .i64 (IntKind.i64.wrap (at_ + ((b_.len : Nat) : Int)))), (73, [], Value.pointer (some ⟨(pblk d), (poff d), none⟩)), (74, [], Value.int .i64 slot), (75, [], Value.pointer (some ⟨(pblk d), (poff d), none⟩))] (by kernel_rfl) (by kernel_rfl) ?_
                  refine mreg_run [.plain] 13 [(0, [], Value.pointer d), (1, [], Value.int .i64 slot), (2, [], Value.int .i64 at_), (3, [], Value.slice b_.ptr b_.len b_.cap), (64, [], Value.pointer d), (65, [], Value.int .i64 slot), (71, [], Value.slice v71.ptr v71.len v71.cap), (72, [], Value.int .i64 (IntKind.i64.wrap (at_ + ((b_.len : Nat) : Int)))), (74, [], Value.int .i64 slot), (76, [], Value.pointer (some ⟨(pblk d), (poff d) + 2, none⟩))] (by kernel_rfl) (by kernel_rfl) ?_
                  obtain ⟨h0, h1, h⟩ := h
                  refine mreg_indexA1 (i := 13) (by kernel_rfl) (t := 54) (e := 45) (x := (Go.Operand.tmp 76)) (ix := (Go.Operand.tmp 74)) (b := (pblk d)) (o := ((poff d) + 2)) (len := 2) (k := .i64) (j := slot) (ty := 0) (dst := some 77) (by kernel_rfl) (by kernel_rfl) (by kernel_rfl) (by kernel_rfl) (by kernel_rfl) h0 h1 ?_
                  refine mreg_run [] 14 [(0, [], Value.pointer d), (1, [], Value.int .i64 slot), (2, [], Value.int .i64 at_), (3, [], Value.slice b_.ptr b_.len b_.cap), (64, [], Value.pointer d), (65, [], Value.int .i64 slot), (71, [], Value.slice v71.ptr v71.len v71.cap), (72, [], Value.int .i64 (IntKind.i64.wrap (at_ + ((b_.len : Nat) : Int)))), (77, [], Value.pointer (some ⟨(pblk d), ((poff d) + 2) + slot.toNat, none⟩))] (by kernel_rfl) (by kernel_rfl) ?_
                  obtain ⟨v78, hc, h⟩ := h
                  refine mreg_load1 (i := 14) (by kernel_rfl) (t := 45) (a := (Go.Operand.tmp 77)) (b := (pblk d)) (o := (((poff d) + 2) + slot.toNat)) (ty := 45) (dst := some 78) (by kernel_rfl) (by kernel_rfl) (by kernel_rfl) hc ?_
                  refine mreg_run [.plain, .plain] 17 [(0, [], Value.pointer d), (1, [], Value.int .i64 slot), (2, [], Value.int .i64 at_), (3, [], Value.slice b_.ptr b_.len b_.cap), (64, [], Value.pointer d), (65, [], Value.int .i64 slot), (71, [], Value.slice v71.ptr v71.len v71.cap), (80, [], Value.int .i64 (IntKind.i64.wrap ((IntKind.i64.wrap (at_ + ((b_.len : Nat) : Int))) - ((v78.len : Nat) : Int))))] (by kernel_rfl) (by kernel_rfl) ?_
                  obtain ⟨hp_19, h⟩ := h
                  refine mreg_conv [(0, [], Value.pointer d), (1, [], Value.int .i64 slot), (2, [], Value.int .i64 at_), (3, [], Value.slice b_.ptr b_.len b_.cap), (64, [], Value.pointer (some ⟨(pblk d), (poff d), none⟩)), (65, [], Value.int .i64 slot), (71, [], Value.slice v71.ptr v71.len v71.cap), (80, [], Value.int .i64 (IntKind.i64.wrap ((IntKind.i64.wrap (at_ + ((b_.len : Nat) : Int))) - ((v78.len : Nat) : Int))))] (congrArg (fun pp => ([(0, [], Value.pointer d), (1, [], Value.int .i64 slot), (2, [], Value.int .i64 at_), (3, [], Value.slice b_.ptr b_.len b_.cap), (64, [], Value.pointer pp), (65, [], Value.int .i64 slot), (71, [], Value.slice v71.ptr v71.len v71.cap), (80, [], Value.int .i64 (IntKind.i64.wrap ((IntKind.i64.wrap (at_ + ((b_.len : Nat) : Int))) - ((v78.len : Nat) : Int))))] : GEnv)) hp_19) ?_
                  refine mreg_run [.plain] 18 [(0, [], Value.pointer d), (1, [], Value.int .i64 slot), (2, [], Value.int .i64 at_), (3, [], Value.slice b_.ptr b_.len b_.cap), (64, [], Value.pointer (some ⟨(pblk d), (poff d), none⟩)), (65, [], Value.int .i64 slot), (71, [], Value.slice v71.ptr v71.len v71.cap), (80, [], Value.int .i64 (IntKind.i64.wrap ((IntKind.i64.wrap (at_ + ((b_.len : Nat) : Int))) - ((v78.len : Nat) : Int)))), (82, [], Value.pointer (some ⟨(pblk d), (poff d), none⟩))] (by kernel_rfl) (by kernel_rfl) ?_
                  refine mreg_run [.plain] 19 [(0, [], Value.pointer d), (1, [], Value.int .i64 slot), (2, [], Value.int .i64 at_), (3, [], Value.slice b_.ptr b_.len b_.cap), (65, [], Value.int .i64 slot), (71, [], Value.slice v71.ptr v71.len v71.cap), (80, [], Value.int .i64 (IntKind.i64.wrap ((IntKind.i64.wrap (at_ + ((b_.len : Nat) : Int))) - ((v78.len : Nat) : Int)))), (83, [], Value.pointer (some ⟨(pblk d), (poff d) + 2, none⟩))] (by kernel_rfl) (by kernel_rfl) ?_
                  obtain ⟨h0, h1, h⟩ := h
                  refine mreg_appendZ (t := 45) (tx := 3) (e := 5) (a := (Go.Operand.tmp 71)) (xo := (Go.Operand.tmp 80)) (s := v71) (l := (IntKind.i64.wrap ((IntKind.i64.wrap (at_ + ((b_.len : Nat) : Int))) - ((v78.len : Nat) : Int)))) (sz := 1) (by_ := 1) (zs := [Value.int .u8 0]) (ty := 45) (dst := some 81) 17 [7, 16, 6, 8, 15, 3, 5, 14, 4, 13, 2, 10, 12, 11, 9] [] (by kernel_rfl) (by kernel_rfl) (by kernel_rfl) (by kernel_rfl) (by kernel_rfl) (by kernel_rfl) (by kernel_rfl) (by kernel_rfl) (by kernel_rfl) (by kernel_rfl) (by kernel_rfl) (by kernel_rfl) (by kernel_rfl) (by kernel_rfl) h0 h1 (AppendW.mono h (fun v81 w6 h => ?_))
                  refine ⟨trivial, ?_⟩
                  refine mreg_run [] 20 [(0, [], Value.pointer d), (1, [], Value.int .i64 slot), (2, [], Value.int .i64 at_), (3, [], Value.slice b_.ptr b_.len b_.cap), (65, [], Value.int .i64 slot), (81, [], Value.slice v81.ptr v81.len v81.cap), (83, [], Value.pointer (some ⟨(pblk d), (poff d) + 2, none⟩))] (by kernel_rfl) (by kernel_rfl) ?_
                  obtain ⟨h0, h1, h⟩ := h
                  refine mreg_indexA1 (i := 20) (by kernel_rfl) (t := 54) (e := 45) (x := (Go.Operand.tmp 83)) (ix := (Go.Operand.tmp 65)) (b := (pblk d)) (o := ((poff d) + 2)) (len := 2) (k := .i64) (j := slot) (ty := 0) (dst := some 84) (by kernel_rfl) (by kernel_rfl) (by kernel_rfl) (by kernel_rfl) (by kernel_rfl) h0 h1 ?_
                  refine mreg_run [] 21 [(0, [], Value.pointer d), (1, [], Value.int .i64 slot), (2, [], Value.int .i64 at_), (3, [], Value.slice b_.ptr b_.len b_.cap), (81, [], Value.slice v81.ptr v81.len v81.cap), (84, [], Value.pointer (some ⟨(pblk d), ((poff d) + 2) + slot.toNat, none⟩))] (by kernel_rfl) (by kernel_rfl) ?_
                  obtain ⟨hc, h⟩ := h
                  refine mreg_store (t := 45) (a := (Go.Operand.tmp 84)) (x := (Go.Operand.tmp 81)) (b := (pblk d)) (o := (((poff d) + 2) + slot.toNat)) (k := 1) (ty := 0) (dst := none) 21 [0, 1, 2, 3, 4, 5, 6, 7, 8, 9, 10, 11, 12, 13, 14, 15, 16, 17, 20, 19, 18] [] [Value.slice v81.ptr v81.len v81.cap] (by kernel_rfl) (by kernel_rfl) (by kernel_rfl) (by kernel_rfl) (by kernel_rfl) (by kernel_rfl) (by kernel_rfl) (by kernel_rfl) (by kernel_rfl) (by kernel_rfl) hc (fun w7 hw => ?_)
                  replace h := h w7 hw
                  clear hw
                  refine ⟨trivial, ?_⟩
                  refine mreg_end [(0, Value.pointer d), (1, Value.int .i64 slot), (2, Value.int .i64 at_), (3, Value.slice b_.ptr b_.len b_.cap)] (by kernel_rfl) (by kernel_rfl) (by kernel_rfl) ?_
                  exact ⟨[(0, Value.pointer d), (1, Value.int .i64 slot), (2, Value.int .i64 at_), (3, Value.slice b_.ptr b_.len b_.cap)], Sub.mk (by kernel_rfl), rfl, h⟩
                · replace h := h.2 hb
                  refine wpE_skip (by kernel_rfl) ?_
                  exact ⟨[(0, Value.pointer d), (1, Value.int .i64 slot), (2, Value.int .i64 at_), (3, Value.slice b_.ptr b_.len b_.cap)], Sub.mk (by kernel_rfl), rfl, h⟩
              · rintro _ w3 ⟨rfl, h⟩
                unfold F_disk_Disk_Write_k0 at h
                refine wpE_seq (x := c_disk_Disk_Write_68) (y := c_disk_Disk_Write_70) (by kernel_rfl) ?_
                refine wpE_region (id := 16) (ops := r_disk_Disk_Write_68) (by kernel_rfl) ?_
                refine reg_run [.plain, .plain] 2 [(2, [], Value.int .i64 at_), (3, [], Value.slice b_.ptr b_.len b_.cap), (85, [], Value.pointer d), (86, [], Value.int .i64 slot)] (by kernel_rfl) (by kernel_rfl) ?_
                obtain ⟨hp_14, h⟩ := h
                refine reg_conv [(2, [], Value.int .i64 at_), (3, [], Value.slice b_.ptr b_.len b_.cap), (85, [], Value.pointer (some ⟨(pblk d), (poff d), none⟩)), (86, [], Value.int .i64 slot)] (congrArg (fun pp => ([(2, [], Value.int .i64 at_), (3, [], Value.slice b_.ptr b_.len b_.cap), (85, [], Value.pointer pp), (86, [], Value.int .i64 slot)] : GEnv)) hp_14) ?_
                refine reg_run [.plain] 3 [(2, [], Value.int .i64 at_), (3, [], Value.slice b_.ptr b_.len b_.cap), (85, [], Value.pointer (some ⟨(pblk d), (poff d), none⟩)), (86, [], Value.int .i64 slot), (87, [], Value.pointer (some ⟨(pblk d), (poff d), none⟩))] (by kernel_rfl) (by kernel_rfl) ?_
                refine reg_run [.plain] 4 [(2, [], Value.int .i64 at_), (3, [], Value.slice b_.ptr b_.len b_.cap), (86, [], Value.int .i64 slot), (88, [], Value.pointer (some ⟨(pblk d), (poff d) + 2, none⟩))] (by kernel_rfl) (by kernel_rfl) ?_
                obtain ⟨h0, h1, h⟩ := h
                refine reg_indexA1 (t := 54) (e := 45) (x := (Go.Operand.tmp 88)) (ix := (Go.Operand.tmp 86)) (b := (pblk d)) (o := ((poff d) + 2)) (len := 2) (k := .i64) (j := slot) (ty := 0) (dst := some 89) (by kernel_rfl) (by kernel_rfl) (by kernel_rfl) (by kernel_rfl) (by kernel_rfl) h0 h1 ?_
                refine reg_run [] 5 [(2, [], Value.int .i64 at_), (3, [], Value.slice b_.ptr b_.len b_.cap), (89, [], Value.pointer (some ⟨(pblk d), ((poff d) + 2) + slot.toNat, none⟩))] (by kernel_rfl) (by kernel_rfl) ?_
                obtain ⟨v90, hc, h⟩ := h
                refine reg_load1 (t := 45) (a := (Go.Operand.tmp 89)) (b := (pblk d)) (o := (((poff d) + 2) + slot.toNat)) (ty := 45) (dst := some 90) (by kernel_rfl) (by kernel_rfl) (by kernel_rfl) hc ?_
                refine reg_run [.plain] 7 [(3, [], Value.slice b_.ptr b_.len b_.cap), (90, [], Value.slice v90.ptr v90.len v90.cap), (91, [], Value.int .i64 at_)] (by kernel_rfl) (by kernel_rfl) ?_
                obtain ⟨hc, h⟩ := h
                refine reg_slice (t := 45) (e := 5) (x := (Go.Operand.tmp 90)) (lo := (Go.Operand.tmp 91)) (s := v90) (sz := 1) (k := .i64) (a := at_) (ty := 45) (dst := some 92) (by kernel_rfl) (by kernel_rfl) (by kernel_rfl) (by kernel_rfl) (by kernel_rfl) hc (fun s hs => ?_)
                replace h := h s hs
                clear hs
                refine reg_run [.plain] 9 [(92, [], Value.slice s.ptr s.len s.cap), (93, [], Value.slice b_.ptr b_.len b_.cap)] (by kernel_rfl) (by kernel_rfl) ?_
                obtain ⟨src, hs, h⟩ := h
                refine reg_copy (t := 45) (tx := 45) (e := 5) (a := (Go.Operand.tmp 92)) (xo := (Go.Operand.tmp 93)) (d := s) (x := b_) (sz := 1) (ty := 3) (dst := some 94)  src (by kernel_rfl) (by kernel_rfl) (by kernel_rfl) (by kernel_rfl) (by kernel_rfl) hs (CopyW.mono h (fun w4 h => ?_))
                refine reg_end [] (by kernel_rfl) (by kernel_rfl) ?_
                change WpE _ _ c_disk_Disk_Write_70 _ _ _
                refine wpE_seq (x := c_disk_Disk_Write_71) (y := c_disk_Disk_Write_73) (by kernel_rfl) ?_
                refine wpE_region (id := 17) (ops := r_disk_Disk_Write_71) (by kernel_rfl) ?_
                refine reg_run [.plain] 1 [(8, [], Value.int .i64 0)] (by kernel_rfl) (by kernel_rfl) ?_
                refine reg_end [(8, Value.int .i64 0)] (by kernel_rfl) (by kernel_rfl) ?_
                change WpE _ _ c_disk_Disk_Write_73 _ _ _
                refine wpE_ret (by kernel_rfl) ?_
                repeat (first | refine seqQ_ret ?_ | refine blockQ_ret ?_ | refine loopQ_ret ?_ | refine cutQ_ret ?_)
                exact retS (rs := [(Go.ResultVar.tmp 8)]) (v := Value.int .i64 0) (by kernel_rfl) (⟨by kernel_rfl, trivial⟩) ⟨0, rfl, h⟩
  · rintro e w' ⟨v, rfl, r0, rfl, h⟩; exact ⟨r0, rfl, h⟩

/-! ### (*towpath/disk.Disk).Clear (function 16) -/
noncomputable def c_disk_Disk_Clear_0 : Code := (Tryz.f16.body).getD Code.skip
noncomputable def c_disk_Disk_Clear_1 : Code := Code.l c_disk_Disk_Clear_0
noncomputable def r_disk_Disk_Clear_1 : Array Oper := Code.ops c_disk_Disk_Clear_1
noncomputable def c_disk_Disk_Clear_3 : Code := Code.r c_disk_Disk_Clear_0
noncomputable def c_disk_Disk_Clear_4 : Code := Code.l c_disk_Disk_Clear_3
noncomputable def c_disk_Disk_Clear_5 : Code := Code.l c_disk_Disk_Clear_4
noncomputable def r_disk_Disk_Clear_5 : Array Oper := Code.ops c_disk_Disk_Clear_5
noncomputable def c_disk_Disk_Clear_7 : Code := Code.r c_disk_Disk_Clear_4
noncomputable def c_disk_Disk_Clear_8 : Code := Code.l c_disk_Disk_Clear_7
noncomputable def r_disk_Disk_Clear_8 : Array Oper := Code.ops c_disk_Disk_Clear_8
noncomputable def c_disk_Disk_Clear_10 : Code := Code.r c_disk_Disk_Clear_7
noncomputable def c_disk_Disk_Clear_11 : Code := Code.l c_disk_Disk_Clear_10
noncomputable def c_disk_Disk_Clear_12 : Code := Code.l c_disk_Disk_Clear_11
noncomputable def r_disk_Disk_Clear_12 : Array Oper := Code.ops c_disk_Disk_Clear_12
noncomputable def c_disk_Disk_Clear_14 : Code := Code.r c_disk_Disk_Clear_11
noncomputable def c_disk_Disk_Clear_15 : Code := Code.r c_disk_Disk_Clear_10
noncomputable def c_disk_Disk_Clear_16 : Code := Code.r c_disk_Disk_Clear_3
noncomputable def c_disk_Disk_Clear_17 : Code := Code.l c_disk_Disk_Clear_16
noncomputable def c_disk_Disk_Clear_18 : Code := Code.l c_disk_Disk_Clear_17
noncomputable def r_disk_Disk_Clear_18 : Array Oper := Code.ops c_disk_Disk_Clear_18
noncomputable def c_disk_Disk_Clear_20 : Code := Code.r c_disk_Disk_Clear_17
noncomputable def c_disk_Disk_Clear_21 : Code := Code.l c_disk_Disk_Clear_20
noncomputable def r_disk_Disk_Clear_21 : Array Oper := Code.ops c_disk_Disk_Clear_21
noncomputable def c_disk_Disk_Clear_23 : Code := Code.r c_disk_Disk_Clear_20
noncomputable def c_disk_Disk_Clear_24 : Code := Code.l c_disk_Disk_Clear_23
noncomputable def c_disk_Disk_Clear_25 : Code := Code.l c_disk_Disk_Clear_24
noncomputable def r_disk_Disk_Clear_25 : Array Oper := Code.ops c_disk_Disk_Clear_25
noncomputable def c_disk_Disk_Clear_27 : Code := Code.r c_disk_Disk_Clear_24
noncomputable def c_disk_Disk_Clear_28 : Code := Code.r c_disk_Disk_Clear_23
noncomputable def c_disk_Disk_Clear_29 : Code := Code.r c_disk_Disk_Clear_16
noncomputable def c_disk_Disk_Clear_30 : Code := Code.l c_disk_Disk_Clear_29
noncomputable def r_disk_Disk_Clear_30 : Array Oper := Code.ops c_disk_Disk_Clear_30
noncomputable def c_disk_Disk_Clear_32 : Code := Code.r c_disk_Disk_Clear_29
noncomputable def c_disk_Disk_Clear_33 : Code := Code.l c_disk_Disk_Clear_32
noncomputable def r_disk_Disk_Clear_33 : Array Oper := Code.ops c_disk_Disk_Clear_33
noncomputable def c_disk_Disk_Clear_35 : Code := Code.r c_disk_Disk_Clear_32

set_option maxRecDepth 100000 in
set_option maxHeartbeats 4000000 in
theorem S_disk_Disk_Clear {d : Option Addr} {slot : Int} {w : World} {R : Int → World → Prop} (h : F_disk_Disk_Clear d slot R w) : C_disk_Disk_Clear d slot w R := by
  unfold F_disk_Disk_Clear at h
  unfold C_disk_Disk_Clear
  refine Calls.mono (calls_of_wpE (args := [Value.pointer d, Value.int .i64 slot]) (R := fun v w' => ∃ (r0 : Int), v = Value.int .i64 r0 ∧ R r0 w') Tryz.func16 (c := c_disk_Disk_Clear_0) (by kernel_rfl) 23 (by kernel_rfl) (by kernel_rfl) [(0, Value.pointer d), (1, Value.int .i64 slot)] (by kernel_rfl) ?_) ?_
  · refine wpE_seq (x := c_disk_Disk_Clear_1) (y := c_disk_Disk_Clear_3) (by kernel_rfl) ?_
    refine wpE_region (id := 0) (ops := r_disk_Disk_Clear_1) (by kernel_rfl) ?_
    refine reg_run [.plain] 1 [(0, [], Value.pointer d), (1, [], Value.int .i64 slot)] (by kernel_rfl) (by kernel_rfl) ?_
    refine reg_end [(0, Value.pointer d), (1, Value.int .i64 slot)] (by kernel_rfl) (by kernel_rfl) ?_
    change WpE _ _ c_disk_Disk_Clear_3 _ _ _
    refine wpE_seq (x := c_disk_Disk_Clear_4) (y := c_disk_Disk_Clear_16) (by kernel_rfl) ?_
    refine wpE_seq (x := c_disk_Disk_Clear_5) (y := c_disk_Disk_Clear_7) (by kernel_rfl) ?_
    refine wpE_region (id := 1) (ops := r_disk_Disk_Clear_5) (by kernel_rfl) ?_
    refine reg_run [.plain, .plain] 2 [(0, [], Value.pointer d), (1, [], Value.int .i64 slot), (7, [], Value.pointer d), (8, [], Value.int .i64 slot)] (by kernel_rfl) (by kernel_rfl) ?_
    refine reg_enter (op := (Go.Op.call (Go.Call.mk (Go.Callee.value (Go.Operand.func 30)) #[(Go.Operand.tmp 7), (Go.Operand.tmp 8)] #[24, 3]))) (ty := 25) (dst := some 9) 30 #[Value.pointer d, Value.int .i64 slot] (by kernel_rfl) (fun ww => by kernel_rfl) (Calls.mono h ?_)
    rintro _ w1 ⟨v9, rfl, h⟩
    refine ⟨_, rfl, ?_⟩
    refine reg_run [.plain] 4 [(0, [], Value.pointer d), (1, [], Value.int .i64 slot), (5, [], Value.int .i64 v9)] (by kernel_rfl) (by kernel_rfl) ?_
    refine reg_end [(0, Value.pointer d), (1, Value.int .i64 slot), (5, Value.int .i64 v9)] (by kernel_rfl) (by kernel_rfl) ?_
    change WpE _ _ c_disk_Disk_Clear_7 _ _ _
    refine wpE_seq (x := c_disk_Disk_Clear_8) (y := c_disk_Disk_Clear_10) (by kernel_rfl) ?_
    refine wpE_region (id := 2) (ops := r_disk_Disk_Clear_8) (by kernel_rfl) ?_
    refine reg_run [.plain, .plain] 2 [(0, [], Value.pointer d), (1, [], Value.int .i64 slot), (5, [], Value.int .i64 v9), (11, [], Value.bool (v9 != 0))] (by kernel_rfl) (by kernel_rfl) ?_
    refine reg_end [(0, Value.pointer d), (1, Value.int .i64 slot), (5, Value.int .i64 v9), (11, Value.bool (v9 != 0))] (by kernel_rfl) (by kernel_rfl) ?_
    change WpE _ _ c_disk_Disk_Clear_10 _ _ _
    refine wpE_cond (o := (Operand.tmp 11)) (b := (v9 != 0)) (x := c_disk_Disk_Clear_11) (y := c_disk_Disk_Clear_15) (by kernel_rfl) (by kernel_rfl) (fun hb => ?_) (fun hb => ?_)
    · replace h := h.1 hb
      refine wpE_seq (x := c_disk_Disk_Clear_12) (y := c_disk_Disk_Clear_14) (by kernel_rfl) ?_
      refine wpE_region (id := 3) (ops := r_disk_Disk_Clear_12) (by kernel_rfl) ?_
      refine reg_run [.plain, .plain] 2 [(4, [], Value.int .i64 v9)] (by kernel_rfl) (by kernel_rfl) ?_
      refine reg_end [(4, Value.int .i64 v9)] (by kernel_rfl) (by kernel_rfl) ?_
      change WpE _ _ c_disk_Disk_Clear_14 _ _ _
      refine wpE_ret (by kernel_rfl) ?_
      repeat (first | refine seqQ_ret ?_ | refine blockQ_ret ?_ | refine loopQ_ret ?_ | refine cutQ_ret ?_)
      exact retS (rs := [(Go.ResultVar.tmp 4)]) (v := Value.int .i64 v9) (by kernel_rfl) (⟨by kernel_rfl, trivial⟩) ⟨v9, rfl, h⟩
    · replace h := h.2 hb
      refine wpE_skip (by kernel_rfl) ?_
      change WpE _ _ c_disk_Disk_Clear_16 _ _ _
      refine wpE_seq (x := c_disk_Disk_Clear_17) (y := c_disk_Disk_Clear_29) (by kernel_rfl) ?_
      refine wpE_seq (x := c_disk_Disk_Clear_18) (y := c_disk_Disk_Clear_20) (by kernel_rfl) ?_
      refine wpE_region (id := 4) (ops := r_disk_Disk_Clear_18) (by kernel_rfl) ?_
      refine reg_run [.plain] 1 [(0, [], Value.pointer d), (1, [], Value.int .i64 slot), (13, [], Value.pointer d)] (by kernel_rfl) (by kernel_rfl) ?_
      refine reg_enter (op := (Go.Op.call (Go.Call.mk (Go.Callee.value (Go.Operand.func 67)) #[(Go.Operand.tmp 13)] #[24]))) (ty := 25) (dst := some 14) 67 #[Value.pointer d] (by kernel_rfl) (fun ww => by kernel_rfl) (Calls.mono h ?_)
      rintro _ w2 ⟨v14, rfl, h⟩
      refine ⟨_, rfl, ?_⟩
      refine reg_run [.plain] 3 [(0, [], Value.pointer d), (1, [], Value.int .i64 slot), (6, [], Value.int .i64 v14)] (by kernel_rfl) (by kernel_rfl) ?_
      refine reg_end [(0, Value.pointer d), (1, Value.int .i64 slot), (6, Value.int .i64 v14)] (by kernel_rfl) (by kernel_rfl) ?_
      change WpE _ _ c_disk_Disk_Clear_20 _ _ _
      refine wpE_seq (x := c_disk_Disk_Clear_21) (y := c_disk_Disk_Clear_23) (by kernel_rfl) ?_
      refine wpE_region (id := 5) (ops := r_disk_Disk_Clear_21) (by kernel_rfl) ?_
      refine reg_run [.plain, .plain] 2 [(0, [], Value.pointer d), (1, [], Value.int .i64 slot), (6, [], Value.int .i64 v14), (16, [], Value.bool (v14 != 0))] (by kernel_rfl) (by kernel_rfl) ?_
      refine reg_end [(0, Value.pointer d), (1, Value.int .i64 slot), (6, Value.int .i64 v14), (16, Value.bool (v14 != 0))] (by kernel_rfl) (by kernel_rfl) ?_
      change WpE _ _ c_disk_Disk_Clear_23 _ _ _
      refine wpE_cond (o := (Operand.tmp 16)) (b := (v14 != 0)) (x := c_disk_Disk_Clear_24) (y := c_disk_Disk_Clear_28) (by kernel_rfl) (by kernel_rfl) (fun hb => ?_) (fun hb => ?_)
      · replace h := h.1 hb
        refine wpE_seq (x := c_disk_Disk_Clear_25) (y := c_disk_Disk_Clear_27) (by kernel_rfl) ?_
        refine wpE_region (id := 6) (ops := r_disk_Disk_Clear_25) (by kernel_rfl) ?_
        refine reg_run [.plain, .plain] 2 [(4, [], Value.int .i64 v14)] (by kernel_rfl) (by kernel_rfl) ?_
        refine reg_end [(4, Value.int .i64 v14)] (by kernel_rfl) (by kernel_rfl) ?_
        change WpE _ _ c_disk_Disk_Clear_27 _ _ _
        refine wpE_ret (by kernel_rfl) ?_
        repeat (first | refine seqQ_ret ?_ | refine blockQ_ret ?_ | refine loopQ_ret ?_ | refine cutQ_ret ?_)
        exact retS (rs := [(Go.ResultVar.tmp 4)]) (v := Value.int .i64 v14) (by kernel_rfl) (⟨by kernel_rfl, trivial⟩) ⟨v14, rfl, h⟩
      · replace h := h.2 hb
        refine wpE_skip (by kernel_rfl) ?_
        change WpE _ _ c_disk_Disk_Clear_29 _ _ _
        refine wpE_seq (x := c_disk_Disk_Clear_30) (y := c_disk_Disk_Clear_32) (by kernel_rfl) ?_
        refine wpE_region (id := 7) (ops := r_disk_Disk_Clear_30) (by kernel_rfl) ?_
        refine reg_run [.plain, .plain] 2 [(18, [], Value.pointer d), (19, [], Value.int .i64 slot)] (by kernel_rfl) (by kernel_rfl) ?_
        obtain ⟨hp_1, h⟩ := h
        refine reg_conv [(18, [], Value.pointer (some ⟨(pblk d), (poff d), none⟩)), (19, [], Value.int .i64 slot)] (congrArg (fun pp => ([(18, [], Value.pointer pp), (19, [], Value.int .i64 slot)] : GEnv)) hp_1) ?_
        refine reg_run [.plain] 3 [(18, [], Value.pointer (some ⟨(pblk d), (poff d), none⟩)), (19, [], Value.int .i64 slot), (20, [], Value.pointer (some ⟨(pblk d), (poff d), none⟩))] (by kernel_rfl) (by kernel_rfl) ?_
        refine reg_run [.plain] 4 [(19, [], Value.int .i64 slot), (21, [], Value.pointer (some ⟨(pblk d), (poff d) + 2, none⟩))] (by kernel_rfl) (by kernel_rfl) ?_
        obtain ⟨h0, h1, h⟩ := h
        refine reg_indexA1 (t := 54) (e := 45) (x := (Go.Operand.tmp 21)) (ix := (Go.Operand.tmp 19)) (b := (pblk d)) (o := ((poff d) + 2)) (len := 2) (k := .i64) (j := slot) (ty := 0) (dst := some 22) (by kernel_rfl) (by kernel_rfl) (by kernel_rfl) (by kernel_rfl) (by kernel_rfl) h0 h1 ?_
        refine reg_run [] 5 [(22, [], Value.pointer (some ⟨(pblk d), ((poff d) + 2) + slot.toNat, none⟩))] (by kernel_rfl) (by kernel_rfl) ?_
        obtain ⟨hc, h⟩ := h
        refine reg_store (t := 45) (a := (Go.Operand.tmp 22)) (x := (Go.Operand.const (Go.Value.slice none 0 0))) (b := (pblk d)) (o := (((poff d) + 2) + slot.toNat)) (ty := 0) (dst := none) [Value.slice none 0 0] (by kernel_rfl) (by kernel_rfl) (by kernel_rfl) (k := 1) (by kernel_rfl) (by kernel_rfl) (by kernel_rfl) hc (fun w3 hw => ?_)
        replace h := h w3 hw
        clear hw
        refine reg_end [] (by kernel_rfl) (by kernel_rfl) ?_
        change WpE _ _ c_disk_Disk_Clear_32 _ _ _
        refine wpE_seq (x := c_disk_Disk_Clear_33) (y := c_disk_Disk_Clear_35) (by kernel_rfl) ?_
        refine wpE_region (id := 8) (ops := r_disk_Disk_Clear_33) (by kernel_rfl) ?_
        refine reg_run [.plain] 1 [(4, [], Value.int .i64 0)] (by kernel_rfl) (by kernel_rfl) ?_
        refine reg_end [(4, Value.int .i64 0)] (by kernel_rfl) (by kernel_rfl) ?_
        change WpE _ _ c_disk_Disk_Clear_35 _ _ _
        refine wpE_ret (by kernel_rfl) ?_
        repeat (first | refine seqQ_ret ?_ | refine blockQ_ret ?_ | refine loopQ_ret ?_ | refine cutQ_ret ?_)
        exact retS (rs := [(Go.ResultVar.tmp 4)]) (v := Value.int .i64 0) (by kernel_rfl) (⟨by kernel_rfl, trivial⟩) ⟨0, rfl, h⟩
  · rintro e w' ⟨v, rfl, r0, rfl, h⟩; exact ⟨r0, rfl, h⟩

/-! ### (*towpath/disk.Disk).Cut (function 18) -/
noncomputable def c_disk_Disk_Cut_0 : Code := (Tryz.f18.body).getD Code.skip
noncomputable def c_disk_Disk_Cut_1 : Code := Code.l c_disk_Disk_Cut_0
noncomputable def r_disk_Disk_Cut_1 : Array Oper := Code.ops c_disk_Disk_Cut_1
noncomputable def c_disk_Disk_Cut_3 : Code := Code.r c_disk_Disk_Cut_0
noncomputable def c_disk_Disk_Cut_4 : Code := Code.l c_disk_Disk_Cut_3
noncomputable def c_disk_Disk_Cut_5 : Code := Code.l c_disk_Disk_Cut_4
noncomputable def r_disk_Disk_Cut_5 : Array Oper := Code.ops c_disk_Disk_Cut_5
noncomputable def c_disk_Disk_Cut_7 : Code := Code.r c_disk_Disk_Cut_4
noncomputable def c_disk_Disk_Cut_8 : Code := Code.l c_disk_Disk_Cut_7
noncomputable def r_disk_Disk_Cut_8 : Array Oper := Code.ops c_disk_Disk_Cut_8
noncomputable def c_disk_Disk_Cut_10 : Code := Code.r c_disk_Disk_Cut_7
noncomputable def c_disk_Disk_Cut_11 : Code := Code.l c_disk_Disk_Cut_10
noncomputable def c_disk_Disk_Cut_12 : Code := Code.l c_disk_Disk_Cut_11
noncomputable def r_disk_Disk_Cut_12 : Array Oper := Code.ops c_disk_Disk_Cut_12
noncomputable def c_disk_Disk_Cut_14 : Code := Code.r c_disk_Disk_Cut_11
noncomputable def c_disk_Disk_Cut_15 : Code := Code.r c_disk_Disk_Cut_10
noncomputable def c_disk_Disk_Cut_16 : Code := Code.r c_disk_Disk_Cut_3
noncomputable def c_disk_Disk_Cut_17 : Code := Code.l c_disk_Disk_Cut_16
noncomputable def c_disk_Disk_Cut_18 : Code := Code.l c_disk_Disk_Cut_17
noncomputable def r_disk_Disk_Cut_18 : Array Oper := Code.ops c_disk_Disk_Cut_18
noncomputable def c_disk_Disk_Cut_20 : Code := Code.r c_disk_Disk_Cut_17
noncomputable def c_disk_Disk_Cut_21 : Code := Code.l c_disk_Disk_Cut_20
noncomputable def c_disk_Disk_Cut_22 : Code := Code.l c_disk_Disk_Cut_21
noncomputable def r_disk_Disk_Cut_22 : Array Oper := Code.ops c_disk_Disk_Cut_22
noncomputable def c_disk_Disk_Cut_24 : Code := Code.r c_disk_Disk_Cut_21
noncomputable def c_disk_Disk_Cut_25 : Code := Code.r c_disk_Disk_Cut_20
noncomputable def c_disk_Disk_Cut_26 : Code := Code.r c_disk_Disk_Cut_16
noncomputable def c_disk_Disk_Cut_27 : Code := Code.l c_disk_Disk_Cut_26
noncomputable def r_disk_Disk_Cut_27 : Array Oper := Code.ops c_disk_Disk_Cut_27
noncomputable def c_disk_Disk_Cut_29 : Code := Code.r c_disk_Disk_Cut_26
noncomputable def c_disk_Disk_Cut_30 : Code := Code.l c_disk_Disk_Cut_29
noncomputable def r_disk_Disk_Cut_30 : Array Oper := Code.ops c_disk_Disk_Cut_30
noncomputable def c_disk_Disk_Cut_32 : Code := Code.r c_disk_Disk_Cut_29

set_option maxRecDepth 100000 in
set_option maxHeartbeats 4000000 in
theorem S_disk_Disk_Cut {d : Option Addr} {n_ : Int} {w : World} {R : Int → World → Prop} (h : F_disk_Disk_Cut d n_ R w) : C_disk_Disk_Cut d n_ w R := by
  unfold F_disk_Disk_Cut at h
  unfold C_disk_Disk_Cut
  refine Calls.mono (calls_of_wpE (args := [Value.pointer d, Value.int .i64 n_]) (R := fun v w' => ∃ (r0 : Int), v = Value.int .i64 r0 ∧ R r0 w') Tryz.func18 (c := c_disk_Disk_Cut_0) (by kernel_rfl) 20 (by kernel_rfl) (by kernel_rfl) [(0, Value.pointer d), (1, Value.int .i64 n_)] (by kernel_rfl) ?_) ?_
  · refine wpE_seq (x := c_disk_Disk_Cut_1) (y := c_disk_Disk_Cut_3) (by kernel_rfl) ?_
    refine wpE_region (id := 0) (ops := r_disk_Disk_Cut_1) (by kernel_rfl) ?_
    refine reg_run [.plain] 1 [(0, [], Value.pointer d), (1, [], Value.int .i64 n_)] (by kernel_rfl) (by kernel_rfl) ?_
    refine reg_end [(0, Value.pointer d), (1, Value.int .i64 n_)] (by kernel_rfl) (by kernel_rfl) ?_
    change WpE _ _ c_disk_Disk_Cut_3 _ _ _
    refine wpE_seq (x := c_disk_Disk_Cut_4) (y := c_disk_Disk_Cut_16) (by kernel_rfl) ?_
    refine wpE_seq (x := c_disk_Disk_Cut_5) (y := c_disk_Disk_Cut_7) (by kernel_rfl) ?_
    refine wpE_region (id := 1) (ops := r_disk_Disk_Cut_5) (by kernel_rfl) ?_
    refine reg_run [.plain] 1 [(0, [], Value.pointer d), (1, [], Value.int .i64 n_), (6, [], Value.pointer d)] (by kernel_rfl) (by kernel_rfl) ?_
    refine reg_enter (op := (Go.Op.call (Go.Call.mk (Go.Callee.value (Go.Operand.func 30)) #[(Go.Operand.tmp 6), (Go.Operand.const (Go.Value.int Go.IntKind.i64 0))] #[24, 3]))) (ty := 25) (dst := some 7) 30 #[Value.pointer d, Value.int .i64 0] (by kernel_rfl) (fun ww => by kernel_rfl) (Calls.mono h ?_)
    rintro _ w1 ⟨v7, rfl, h⟩
    refine ⟨_, rfl, ?_⟩
    refine reg_run [.plain] 3 [(0, [], Value.pointer d), (1, [], Value.int .i64 n_), (5, [], Value.int .i64 v7)] (by kernel_rfl) (by kernel_rfl) ?_
    refine reg_end [(0, Value.pointer d), (1, Value.int .i64 n_), (5, Value.int .i64 v7)] (by kernel_rfl) (by kernel_rfl) ?_
    change WpE _ _ c_disk_Disk_Cut_7 _ _ _
    refine wpE_seq (x := c_disk_Disk_Cut_8) (y := c_disk_Disk_Cut_10) (by kernel_rfl) ?_
    refine wpE_region (id := 2) (ops := r_disk_Disk_Cut_8) (by kernel_rfl) ?_
    refine reg_run [.plain, .plain] 2 [(0, [], Value.pointer d), (1, [], Value.int .i64 n_), (5, [], Value.int .i64 v7), (9, [], Value.bool (v7 != 0))] (by kernel_rfl) (by kernel_rfl) ?_
    refine reg_end [(0, Value.pointer d), (1, Value.int .i64 n_), (5, Value.int .i64 v7), (9, Value.bool (v7 != 0))] (by kernel_rfl) (by kernel_rfl) ?_
    change WpE _ _ c_disk_Disk_Cut_10 _ _ _
    refine wpE_cond (o := (Operand.tmp 9)) (b := (v7 != 0)) (x := c_disk_Disk_Cut_11) (y := c_disk_Disk_Cut_15) (by kernel_rfl) (by kernel_rfl) (fun hb => ?_) (fun hb => ?_)
    · replace h := h.1 hb
      refine wpE_seq (x := c_disk_Disk_Cut_12) (y := c_disk_Disk_Cut_14) (by kernel_rfl) ?_
      refine wpE_region (id := 3) (ops := r_disk_Disk_Cut_12) (by kernel_rfl) ?_
      refine reg_run [.plain, .plain] 2 [(4, [], Value.int .i64 v7)] (by kernel_rfl) (by kernel_rfl) ?_
      refine reg_end [(4, Value.int .i64 v7)] (by kernel_rfl) (by kernel_rfl) ?_
      change WpE _ _ c_disk_Disk_Cut_14 _ _ _
      refine wpE_ret (by kernel_rfl) ?_
      repeat (first | refine seqQ_ret ?_ | refine blockQ_ret ?_ | refine loopQ_ret ?_ | refine cutQ_ret ?_)
      exact retS (rs := [(Go.ResultVar.tmp 4)]) (v := Value.int .i64 v7) (by kernel_rfl) (⟨by kernel_rfl, trivial⟩) ⟨v7, rfl, h⟩
    · replace h := h.2 hb
      refine wpE_skip (by kernel_rfl) ?_
      change WpE _ _ c_disk_Disk_Cut_16 _ _ _
      refine wpE_seq (x := c_disk_Disk_Cut_17) (y := c_disk_Disk_Cut_26) (by kernel_rfl) ?_
      refine wpE_seq (x := c_disk_Disk_Cut_18) (y := c_disk_Disk_Cut_20) (by kernel_rfl) ?_
      refine wpE_region (id := 4) (ops := r_disk_Disk_Cut_18) (by kernel_rfl) ?_
      refine reg_run [.plain] 1 [(0, [], Value.pointer d), (1, [], Value.int .i64 n_), (11, [], Value.pointer d)] (by kernel_rfl) (by kernel_rfl) ?_
      obtain ⟨hp_3, h⟩ := h
      refine reg_conv [(0, [], Value.pointer d), (1, [], Value.int .i64 n_), (11, [], Value.pointer (some ⟨(pblk d), (poff d), none⟩))] (congrArg (fun pp => ([(0, [], Value.pointer d), (1, [], Value.int .i64 n_), (11, [], Value.pointer pp)] : GEnv)) hp_3) ?_
      refine reg_run [.plain] 2 [(0, [], Value.pointer d), (1, [], Value.int .i64 n_), (11, [], Value.pointer (some ⟨(pblk d), (poff d), none⟩)), (12, [], Value.pointer (some ⟨(pblk d), (poff d), none⟩))] (by kernel_rfl) (by kernel_rfl) ?_
      refine reg_run [.plain] 3 [(0, [], Value.pointer d), (1, [], Value.int .i64 n_), (13, [], Value.pointer (some ⟨(pblk d), (poff d) + 5, none⟩))] (by kernel_rfl) (by kernel_rfl) ?_
      obtain ⟨v14, hc, h⟩ := h
      refine reg_load1 (t := 4) (a := (Go.Operand.tmp 13)) (b := (pblk d)) (o := ((poff d) + 5)) (ty := 4) (dst := some 14) (by kernel_rfl) (by kernel_rfl) (by kernel_rfl) hc ?_
      refine reg_end [(0, Value.pointer d), (1, Value.int .i64 n_), (14, Value.bool v14)] (by kernel_rfl) (by kernel_rfl) ?_
      change WpE _ _ c_disk_Disk_Cut_20 _ _ _
      refine wpE_cond (o := (Operand.tmp 14)) (b := v14) (x := c_disk_Disk_Cut_21) (y := c_disk_Disk_Cut_25) (by kernel_rfl) (by kernel_rfl) (fun hb => ?_) (fun hb => ?_)
      · replace h := h.1 hb
        refine wpE_seq (x := c_disk_Disk_Cut_22) (y := c_disk_Disk_Cut_24) (by kernel_rfl) ?_
        refine wpE_region (id := 5) (ops := r_disk_Disk_Cut_22) (by kernel_rfl) ?_
        refine reg_run [.plain] 1 [(4, [], Value.int .i64 11)] (by kernel_rfl) (by kernel_rfl) ?_
        refine reg_end [(4, Value.int .i64 11)] (by kernel_rfl) (by kernel_rfl) ?_
        change WpE _ _ c_disk_Disk_Cut_24 _ _ _
        refine wpE_ret (by kernel_rfl) ?_
        repeat (first | refine seqQ_ret ?_ | refine blockQ_ret ?_ | refine loopQ_ret ?_ | refine cutQ_ret ?_)
        exact retS (rs := [(Go.ResultVar.tmp 4)]) (v := Value.int .i64 11) (by kernel_rfl) (⟨by kernel_rfl, trivial⟩) ⟨11, rfl, h⟩
      · replace h := h.2 hb
        refine wpE_skip (by kernel_rfl) ?_
        change WpE _ _ c_disk_Disk_Cut_26 _ _ _
        refine wpE_seq (x := c_disk_Disk_Cut_27) (y := c_disk_Disk_Cut_29) (by kernel_rfl) ?_
        refine wpE_region (id := 6) (ops := r_disk_Disk_Cut_27) (by kernel_rfl) ?_
        refine reg_run [.plain, .plain, .plain] 3 [(15, [], Value.pointer d), (17, [], Value.int .i64 (if (-1) > n_ then (-1) else n_))] (by kernel_rfl) (by kernel_rfl) ?_
        obtain ⟨hp_5, h⟩ := h
        refine reg_conv [(15, [], Value.pointer (some ⟨(pblk d), (poff d), none⟩)), (17, [], Value.int .i64 (if (-1) > n_ then (-1) else n_))] (congrArg (fun pp => ([(15, [], Value.pointer pp), (17, [], Value.int .i64 (if (-1) > n_ then (-1) else n_))] : GEnv)) hp_5) ?_
        refine reg_run [.plain] 4 [(15, [], Value.pointer (some ⟨(pblk d), (poff d), none⟩)), (17, [], Value.int .i64 (if (-1) > n_ then (-1) else n_)), (18, [], Value.pointer (some ⟨(pblk d), (poff d), none⟩))] (by kernel_rfl) (by kernel_rfl) ?_
        refine reg_run [.plain] 5 [(17, [], Value.int .i64 (if (-1) > n_ then (-1) else n_)), (19, [], Value.pointer (some ⟨(pblk d), (poff d) + 4, none⟩))] (by kernel_rfl) (by kernel_rfl) ?_
        obtain ⟨hc, h⟩ := h
        refine reg_store (t := 3) (a := (Go.Operand.tmp 19)) (x := (Go.Operand.tmp 17)) (b := (pblk d)) (o := ((poff d) + 4)) (ty := 0) (dst := none) [Value.int .i64 (if (-1) > n_ then (-1) else n_)] (by kernel_rfl) (by kernel_rfl) (by kernel_rfl) (k := 1) (by kernel_rfl) (by kernel_rfl) (by kernel_rfl) hc (fun w2 hw => ?_)
        replace h := h w2 hw
        clear hw
        refine reg_end [] (by kernel_rfl) (by kernel_rfl) ?_
        change WpE _ _ c_disk_Disk_Cut_29 _ _ _
        refine wpE_seq (x := c_disk_Disk_Cut_30) (y := c_disk_Disk_Cut_32) (by kernel_rfl) ?_
        refine wpE_region (id := 7) (ops := r_disk_Disk_Cut_30) (by kernel_rfl) ?_
        refine reg_run [.plain] 1 [(4, [], Value.int .i64 0)] (by kernel_rfl) (by kernel_rfl) ?_
        refine reg_end [(4, Value.int .i64 0)] (by kernel_rfl) (by kernel_rfl) ?_
        change WpE _ _ c_disk_Disk_Cut_32 _ _ _
        refine wpE_ret (by kernel_rfl) ?_
        repeat (first | refine seqQ_ret ?_ | refine blockQ_ret ?_ | refine loopQ_ret ?_ | refine cutQ_ret ?_)
        exact retS (rs := [(Go.ResultVar.tmp 4)]) (v := Value.int .i64 0) (by kernel_rfl) (⟨by kernel_rfl, trivial⟩) ⟨0, rfl, h⟩
  · rintro e w' ⟨v, rfl, r0, rfl, h⟩; exact ⟨r0, rfl, h⟩

/-! ### (*towpath/disk.Disk).Mend (function 20) -/
noncomputable def c_disk_Disk_Mend_0 : Code := (Tryz.f20.body).getD Code.skip
noncomputable def c_disk_Disk_Mend_1 : Code := Code.l c_disk_Disk_Mend_0
noncomputable def r_disk_Disk_Mend_1 : Array Oper := Code.ops c_disk_Disk_Mend_1
noncomputable def c_disk_Disk_Mend_3 : Code := Code.r c_disk_Disk_Mend_0
noncomputable def c_disk_Disk_Mend_4 : Code := Code.l c_disk_Disk_Mend_3
noncomputable def c_disk_Disk_Mend_5 : Code := Code.l c_disk_Disk_Mend_4
noncomputable def r_disk_Disk_Mend_5 : Array Oper := Code.ops c_disk_Disk_Mend_5
noncomputable def c_disk_Disk_Mend_7 : Code := Code.r c_disk_Disk_Mend_4
noncomputable def c_disk_Disk_Mend_8 : Code := Code.l c_disk_Disk_Mend_7
noncomputable def r_disk_Disk_Mend_8 : Array Oper := Code.ops c_disk_Disk_Mend_8
noncomputable def c_disk_Disk_Mend_10 : Code := Code.r c_disk_Disk_Mend_7
noncomputable def c_disk_Disk_Mend_11 : Code := Code.l c_disk_Disk_Mend_10
noncomputable def c_disk_Disk_Mend_12 : Code := Code.l c_disk_Disk_Mend_11
noncomputable def r_disk_Disk_Mend_12 : Array Oper := Code.ops c_disk_Disk_Mend_12
noncomputable def c_disk_Disk_Mend_14 : Code := Code.r c_disk_Disk_Mend_11
noncomputable def c_disk_Disk_Mend_15 : Code := Code.r c_disk_Disk_Mend_10
noncomputable def c_disk_Disk_Mend_16 : Code := Code.r c_disk_Disk_Mend_3
noncomputable def c_disk_Disk_Mend_17 : Code := Code.l c_disk_Disk_Mend_16
noncomputable def r_disk_Disk_Mend_17 : Array Oper := Code.ops c_disk_Disk_Mend_17
noncomputable def c_disk_Disk_Mend_19 : Code := Code.r c_disk_Disk_Mend_16
noncomputable def c_disk_Disk_Mend_20 : Code := Code.l c_disk_Disk_Mend_19
noncomputable def r_disk_Disk_Mend_20 : Array Oper := Code.ops c_disk_Disk_Mend_20
noncomputable def c_disk_Disk_Mend_22 : Code := Code.r c_disk_Disk_Mend_19

set_option maxRecDepth 100000 in
set_option maxHeartbeats 4000000 in
theorem S_disk_Disk_Mend {d : Option Addr} {w : World} {R : Int → World → Prop} (h : F_disk_Disk_Mend d R w) : C_disk_Disk_Mend d w R := by
  unfold F_disk_Disk_Mend at h
  unfold C_disk_Disk_Mend
  refine Calls.mono (calls_of_wpE (args := [Value.pointer d]) (R := fun v w' => ∃ (r0 : Int), v = Value.int .i64 r0 ∧ R r0 w') Tryz.func20 (c := c_disk_Disk_Mend_0) (by kernel_rfl) 15 (by kernel_rfl) (by kernel_rfl) [(0, Value.pointer d)] (by kernel_rfl) ?_) ?_
  · refine wpE_seq (x := c_disk_Disk_Mend_1) (y := c_disk_Disk_Mend_3) (by kernel_rfl) ?_
    refine wpE_region (id := 0) (ops := r_disk_Disk_Mend_1) (by kernel_rfl) ?_
    refine reg_run [.plain] 1 [(0, [], Value.pointer d)] (by kernel_rfl) (by kernel_rfl) ?_
    refine reg_end [(0, Value.pointer d)] (by kernel_rfl) (by kernel_rfl) ?_
    change WpE _ _ c_disk_Disk_Mend_3 _ _ _
    refine wpE_seq (x := c_disk_Disk_Mend_4) (y := c_disk_Disk_Mend_16) (by kernel_rfl) ?_
    refine wpE_seq (x := c_disk_Disk_Mend_5) (y := c_disk_Disk_Mend_7) (by kernel_rfl) ?_
    refine wpE_region (id := 1) (ops := r_disk_Disk_Mend_5) (by kernel_rfl) ?_
    refine reg_run [.plain] 1 [(0, [], Value.pointer d), (4, [], Value.pointer d)] (by kernel_rfl) (by kernel_rfl) ?_
    refine reg_enter (op := (Go.Op.call (Go.Call.mk (Go.Callee.value (Go.Operand.func 30)) #[(Go.Operand.tmp 4), (Go.Operand.const (Go.Value.int Go.IntKind.i64 0))] #[24, 3]))) (ty := 25) (dst := some 5) 30 #[Value.pointer d, Value.int .i64 0] (by kernel_rfl) (fun ww => by kernel_rfl) (Calls.mono h ?_)
    rintro _ w1 ⟨v5, rfl, h⟩
    refine ⟨_, rfl, ?_⟩
    refine reg_run [.plain] 3 [(0, [], Value.pointer d), (3, [], Value.int .i64 v5)] (by kernel_rfl) (by kernel_rfl) ?_
    refine reg_end [(0, Value.pointer d), (3, Value.int .i64 v5)] (by kernel_rfl) (by kernel_rfl) ?_
    change WpE _ _ c_disk_Disk_Mend_7 _ _ _
    refine wpE_seq (x := c_disk_Disk_Mend_8) (y := c_disk_Disk_Mend_10) (by kernel_rfl) ?_
    refine wpE_region (id := 2) (ops := r_disk_Disk_Mend_8) (by kernel_rfl) ?_
    refine reg_run [.plain, .plain] 2 [(0, [], Value.pointer d), (3, [], Value.int .i64 v5), (7, [], Value.bool (v5 != 0))] (by kernel_rfl) (by kernel_rfl) ?_
    refine reg_end [(0, Value.pointer d), (3, Value.int .i64 v5), (7, Value.bool (v5 != 0))] (by kernel_rfl) (by kernel_rfl) ?_
    change WpE _ _ c_disk_Disk_Mend_10 _ _ _
    refine wpE_cond (o := (Operand.tmp 7)) (b := (v5 != 0)) (x := c_disk_Disk_Mend_11) (y := c_disk_Disk_Mend_15) (by kernel_rfl) (by kernel_rfl) (fun hb => ?_) (fun hb => ?_)
    · replace h := h.1 hb
      refine wpE_seq (x := c_disk_Disk_Mend_12) (y := c_disk_Disk_Mend_14) (by kernel_rfl) ?_
      refine wpE_region (id := 3) (ops := r_disk_Disk_Mend_12) (by kernel_rfl) ?_
      refine reg_run [.plain, .plain] 2 [(2, [], Value.int .i64 v5)] (by kernel_rfl) (by kernel_rfl) ?_
      refine reg_end [(2, Value.int .i64 v5)] (by kernel_rfl) (by kernel_rfl) ?_
      change WpE _ _ c_disk_Disk_Mend_14 _ _ _
      refine wpE_ret (by kernel_rfl) ?_
      repeat (first | refine seqQ_ret ?_ | refine blockQ_ret ?_ | refine loopQ_ret ?_ | refine cutQ_ret ?_)
      exact retS (rs := [(Go.ResultVar.tmp 2)]) (v := Value.int .i64 v5) (by kernel_rfl) (⟨by kernel_rfl, trivial⟩) ⟨v5, rfl, h⟩
    · replace h := h.2 hb
      refine wpE_skip (by kernel_rfl) ?_
      change WpE _ _ c_disk_Disk_Mend_16 _ _ _
      refine wpE_seq (x := c_disk_Disk_Mend_17) (y := c_disk_Disk_Mend_19) (by kernel_rfl) ?_
      refine wpE_region (id := 4) (ops := r_disk_Disk_Mend_17) (by kernel_rfl) ?_
      refine reg_run [.plain, .plain] 2 [(9, [], Value.pointer d), (10, [], Value.pointer d)] (by kernel_rfl) (by kernel_rfl) ?_
      obtain ⟨hp_2, h⟩ := h
      refine reg_conv [(9, [], Value.pointer (some ⟨(pblk d), (poff d), none⟩)), (10, [], Value.pointer d)] (congrArg (fun pp => ([(9, [], Value.pointer pp), (10, [], Value.pointer d)] : GEnv)) hp_2) ?_
      refine reg_run [.plain] 3 [(9, [], Value.pointer (some ⟨(pblk d), (poff d), none⟩)), (10, [], Value.pointer d), (11, [], Value.pointer (some ⟨(pblk d), (poff d), none⟩))] (by kernel_rfl) (by kernel_rfl) ?_
      refine reg_run [.plain] 4 [(10, [], Value.pointer d), (12, [], Value.pointer (some ⟨(pblk d), (poff d) + 5, none⟩))] (by kernel_rfl) (by kernel_rfl) ?_
      obtain ⟨hc, h⟩ := h
      refine reg_store (t := 4) (a := (Go.Operand.tmp 12)) (x := (Go.Operand.const (Go.Value.bool false))) (b := (pblk d)) (o := ((poff d) + 5)) (ty := 0) (dst := none) [Value.bool false] (by kernel_rfl) (by kernel_rfl) (by kernel_rfl) (k := 1) (by kernel_rfl) (by kernel_rfl) (by kernel_rfl) hc (fun w2 hw => ?_)
      replace h := h w2 hw
      clear hw
      refine reg_run [] 5 [(10, [], Value.pointer d)] (by kernel_rfl) (by kernel_rfl) ?_
      obtain ⟨hp_3, h⟩ := h
      refine reg_conv [(10, [], Value.pointer (some ⟨(pblk d), (poff d), none⟩))] (congrArg (fun pp => ([(10, [], Value.pointer pp)] : GEnv)) hp_3) ?_
      refine reg_run [.plain] 6 [(10, [], Value.pointer (some ⟨(pblk d), (poff d), none⟩)), (13, [], Value.pointer (some ⟨(pblk d), (poff d), none⟩))] (by kernel_rfl) (by kernel_rfl) ?_
      refine reg_run [.plain] 7 [(14, [], Value.pointer (some ⟨(pblk d), (poff d) + 4, none⟩))] (by kernel_rfl) (by kernel_rfl) ?_
      obtain ⟨hc, h⟩ := h
      refine reg_store (t := 3) (a := (Go.Operand.tmp 14)) (x := (Go.Operand.const (Go.Value.int Go.IntKind.i64 (-1)))) (b := (pblk d)) (o := ((poff d) + 4)) (ty := 0) (dst := none) [Value.int .i64 (-1)] (by kernel_rfl) (by kernel_rfl) (by kernel_rfl) (k := 1) (by kernel_rfl) (by kernel_rfl) (by kernel_rfl) hc (fun w3 hw => ?_)
      replace h := h w3 hw
      clear hw
      refine reg_end [] (by kernel_rfl) (by kernel_rfl) ?_
      change WpE _ _ c_disk_Disk_Mend_19 _ _ _
      refine wpE_seq (x := c_disk_Disk_Mend_20) (y := c_disk_Disk_Mend_22) (by kernel_rfl) ?_
      refine wpE_region (id := 5) (ops := r_disk_Disk_Mend_20) (by kernel_rfl) ?_
      refine reg_run [.plain] 1 [(2, [], Value.int .i64 0)] (by kernel_rfl) (by kernel_rfl) ?_
      refine reg_end [(2, Value.int .i64 0)] (by kernel_rfl) (by kernel_rfl) ?_
      change WpE _ _ c_disk_Disk_Mend_22 _ _ _
      refine wpE_ret (by kernel_rfl) ?_
      repeat (first | refine seqQ_ret ?_ | refine blockQ_ret ?_ | refine loopQ_ret ?_ | refine cutQ_ret ?_)
      exact retS (rs := [(Go.ResultVar.tmp 2)]) (v := Value.int .i64 0) (by kernel_rfl) (⟨by kernel_rfl, trivial⟩) ⟨0, rfl, h⟩
  · rintro e w' ⟨v, rfl, r0, rfl, h⟩; exact ⟨r0, rfl, h⟩

/-! ### (*towpath/disk.Disk).Dead (function 24) -/
noncomputable def c_disk_Disk_Dead_0 : Code := (Tryz.f24.body).getD Code.skip
noncomputable def c_disk_Disk_Dead_1 : Code := Code.l c_disk_Disk_Dead_0
noncomputable def r_disk_Disk_Dead_1 : Array Oper := Code.ops c_disk_Disk_Dead_1
noncomputable def c_disk_Disk_Dead_3 : Code := Code.r c_disk_Disk_Dead_0
noncomputable def c_disk_Disk_Dead_4 : Code := Code.l c_disk_Disk_Dead_3
noncomputable def r_disk_Disk_Dead_4 : Array Oper := Code.ops c_disk_Disk_Dead_4
noncomputable def c_disk_Disk_Dead_6 : Code := Code.r c_disk_Disk_Dead_3

set_option maxRecDepth 100000 in
set_option maxHeartbeats 4000000 in
theorem S_disk_Disk_Dead {d : Option Addr} {w : World} {R : Bool → World → Prop} (h : F_disk_Disk_Dead d R w) : C_disk_Disk_Dead d w R := by
  unfold F_disk_Disk_Dead at h
  unfold C_disk_Disk_Dead
  refine Calls.mono (calls_of_wpE (args := [Value.pointer d]) (R := fun v w' => ∃ (r0 : Bool), v = Value.bool r0 ∧ R r0 w') Tryz.func24 (c := c_disk_Disk_Dead_0) (by kernel_rfl) 11 (by kernel_rfl) (by kernel_rfl) [(0, Value.pointer d)] (by kernel_rfl) ?_) ?_
  · refine wpE_seq (x := c_disk_Disk_Dead_1) (y := c_disk_Disk_Dead_3) (by kernel_rfl) ?_
    refine wpE_region (id := 0) (ops := r_disk_Disk_Dead_1) (by kernel_rfl) ?_
    refine reg_run [.plain] 1 [(0, [], Value.pointer d)] (by kernel_rfl) (by kernel_rfl) ?_
    refine reg_end [(0, Value.pointer d)] (by kernel_rfl) (by kernel_rfl) ?_
    change WpE _ _ c_disk_Disk_Dead_3 _ _ _
    refine wpE_seq (x := c_disk_Disk_Dead_4) (y := c_disk_Disk_Dead_6) (by kernel_rfl) ?_
    refine wpE_region (id := 1) (ops := r_disk_Disk_Dead_4) (by kernel_rfl) ?_
    refine reg_run [.plain] 1 [(0, [], Value.pointer d), (3, [], Value.pointer d)] (by kernel_rfl) (by kernel_rfl) ?_
    refine reg_val (op := (Go.Op.binOp Go.BinOp.neq 24 (Go.Operand.tmp 3) (Go.Operand.const (Go.Value.pointer none)) 24)) (ty := 4) (dst := some 4) (Value.bool (!d.isNone)) (by kernel_rfl) (fun ww => run_ptr_neq_R (p := d) (by kernel_rfl) (by kernel_rfl) (by kernel_rfl) ww) ?_
    refine reg_run [.plain, .plain] 4 [(5, [], Value.bool (!d.isNone)), (6, [(5, true)], Value.pointer d)] (by kernel_rfl) (by kernel_rfl) ?_
    refine reg_split 5 (!d.isNone) (by kernel_rfl) (fun hb => ?_) (fun hb => ?_)
    · replace h := h.1 hb
      refine reg_run [] 4 [(5, [], Value.bool true), (6, [], Value.pointer d)] (by kernel_rfl) (by kernel_rfl) ?_
      refine reg_run [] 4 [(5, [], Value.bool true), (6, [], Value.pointer d)] (by kernel_rfl) (by kernel_rfl) ?_
      obtain ⟨hp_0, h⟩ := h
      refine reg_conv [(5, [], Value.bool true), (6, [], Value.pointer (some ⟨(pblk d), (poff d), none⟩))] (congrArg (fun pp => ([(5, [], Value.bool true), (6, [], Value.pointer pp)] : GEnv)) hp_0) ?_
      refine reg_run [.sure] 5 [(5, [], Value.bool true), (6, [], Value.pointer (some ⟨(pblk d), (poff d), none⟩)), (7, [], Value.pointer (some ⟨(pblk d), (poff d), none⟩))] (by kernel_rfl) (by kernel_rfl) ?_
      refine reg_run [.sure] 6 [(5, [], Value.bool true), (8, [], Value.pointer (some ⟨(pblk d), (poff d) + 5, none⟩))] (by kernel_rfl) (by kernel_rfl) ?_
      obtain ⟨v9, hc, h⟩ := h
      refine reg_load1 (t := 4) (a := (Go.Operand.tmp 8)) (b := (pblk d)) (o := ((poff d) + 5)) (ty := 4) (dst := some 9) (by kernel_rfl) (by kernel_rfl) (by kernel_rfl) hc ?_
      refine reg_run [.plain, .plain] 9 [(2, [], Value.bool v9)] (by kernel_rfl) (by kernel_rfl) ?_
      refine reg_end [(2, Value.bool v9)] (by kernel_rfl) (by kernel_rfl) ?_
      change WpE _ _ c_disk_Disk_Dead_6 _ _ _
      refine wpE_ret (by kernel_rfl) ?_
      repeat (first | refine seqQ_ret ?_ | refine blockQ_ret ?_ | refine loopQ_ret ?_ | refine cutQ_ret ?_)
      exact retS (rs := [(Go.ResultVar.tmp 2)]) (v := Value.bool v9) (by kernel_rfl) (⟨by kernel_rfl, trivial⟩) ⟨v9, rfl, h⟩
    · replace h := h.2 hb
      refine reg_run [] 4 [(5, [], Value.bool false), (6, [], undef)] (by kernel_rfl) (by kernel_rfl) ?_
      refine reg_run [.skip, .skip, .skip, .plain, .plain] 9 [(2, [], Value.bool false)] (by kernel_rfl) (by kernel_rfl) ?_
      refine reg_end [(2, Value.bool false)] (by kernel_rfl) (by kernel_rfl) ?_
      change WpE _ _ c_disk_Disk_Dead_6 _ _ _
      refine wpE_ret (by kernel_rfl) ?_
      repeat (first | refine seqQ_ret ?_ | refine blockQ_ret ?_ | refine loopQ_ret ?_ | refine cutQ_ret ?_)
      exact retS (rs := [(Go.ResultVar.tmp 2)]) (v := Value.bool false) (by kernel_rfl) (⟨by kernel_rfl, trivial⟩) ⟨false, rfl, h⟩
  · rintro e w' ⟨v, rfl, r0, rfl, h⟩; exact ⟨r0, rfl, h⟩

/-! ### (*towpath/disk.Disk).Capacity (function 26) -/
noncomputable def c_disk_Disk_Capacity_0 : Code := (Tryz.f26.body).getD Code.skip
noncomputable def c_disk_Disk_Capacity_1 : Code := Code.l c_disk_Disk_Capacity_0
noncomputable def r_disk_Disk_Capacity_1 : Array Oper := Code.ops c_disk_Disk_Capacity_1
noncomputable def c_disk_Disk_Capacity_3 : Code := Code.r c_disk_Disk_Capacity_0
noncomputable def c_disk_Disk_Capacity_4 : Code := Code.l c_disk_Disk_Capacity_3
noncomputable def c_disk_Disk_Capacity_5 : Code := Code.l c_disk_Disk_Capacity_4
noncomputable def r_disk_Disk_Capacity_5 : Array Oper := Code.ops c_disk_Disk_Capacity_5
noncomputable def c_disk_Disk_Capacity_7 : Code := Code.r c_disk_Disk_Capacity_4
noncomputable def c_disk_Disk_Capacity_8 : Code := Code.l c_disk_Disk_Capacity_7
noncomputable def c_disk_Disk_Capacity_9 : Code := Code.l c_disk_Disk_Capacity_8
noncomputable def r_disk_Disk_Capacity_9 : Array Oper := Code.ops c_disk_Disk_Capacity_9
noncomputable def c_disk_Disk_Capacity_11 : Code := Code.r c_disk_Disk_Capacity_8
noncomputable def c_disk_Disk_Capacity_12 : Code := Code.r c_disk_Disk_Capacity_7
noncomputable def c_disk_Disk_Capacity_13 : Code := Code.r c_disk_Disk_Capacity_3
noncomputable def c_disk_Disk_Capacity_14 : Code := Code.l c_disk_Disk_Capacity_13
noncomputable def r_disk_Disk_Capacity_14 : Array Oper := Code.ops c_disk_Disk_Capacity_14
noncomputable def c_disk_Disk_Capacity_16 : Code := Code.r c_disk_Disk_Capacity_13

set_option maxRecDepth 100000 in
set_option maxHeartbeats 4000000 in
theorem S_disk_Disk_Capacity {d : Option Addr} {w : World} {R : Int → World → Prop} (h : F_disk_Disk_Capacity d R w) : C_disk_Disk_Capacity d w R := by
  unfold F_disk_Disk_Capacity at h
  unfold C_disk_Disk_Capacity
  refine Calls.mono (calls_of_wpE (args := [Value.pointer d]) (R := fun v w' => ∃ (r0 : Int), v = Value.int .i64 r0 ∧ R r0 w') Tryz.func26 (c := c_disk_Disk_Capacity_0) (by kernel_rfl) 9 (by kernel_rfl) (by kernel_rfl) [(0, Value.pointer d)] (by kernel_rfl) ?_) ?_
  · refine wpE_seq (x := c_disk_Disk_Capacity_1) (y := c_disk_Disk_Capacity_3) (by kernel_rfl) ?_
    refine wpE_region (id := 0) (ops := r_disk_Disk_Capacity_1) (by kernel_rfl) ?_
    refine reg_run [.plain] 1 [(0, [], Value.pointer d)] (by kernel_rfl) (by kernel_rfl) ?_
    refine reg_end [(0, Value.pointer d)] (by kernel_rfl) (by kernel_rfl) ?_
    change WpE _ _ c_disk_Disk_Capacity_3 _ _ _
    refine wpE_seq (x := c_disk_Disk_Capacity_4) (y := c_disk_Disk_Capacity_13) (by kernel_rfl) ?_
    refine wpE_seq (x := c_disk_Disk_Capacity_5) (y := c_disk_Disk_Capacity_7) (by kernel_rfl) ?_
    refine wpE_region (id := 1) (ops := r_disk_Disk_Capacity_5) (by kernel_rfl) ?_
    refine reg_run [.plain] 1 [(0, [], Value.pointer d), (3, [], Value.pointer d)] (by kernel_rfl) (by kernel_rfl) ?_
    refine reg_val (op := (Go.Op.binOp Go.BinOp.eql 24 (Go.Operand.tmp 3) (Go.Operand.const (Go.Value.pointer none)) 24)) (ty := 4) (dst := some 4) (Value.bool d.isNone) (by kernel_rfl) (fun ww => run_ptr_eql_R (p := d) (by kernel_rfl) (by kernel_rfl) (by kernel_rfl) ww) ?_
    refine reg_end [(0, Value.pointer d), (4, Value.bool d.isNone)] (by kernel_rfl) (by kernel_rfl) ?_
    change WpE _ _ c_disk_Disk_Capacity_7 _ _ _
    refine wpE_cond (o := (Operand.tmp 4)) (b := d.isNone) (x := c_disk_Disk_Capacity_8) (y := c_disk_Disk_Capacity_12) (by kernel_rfl) (by kernel_rfl) (fun hb => ?_) (fun hb => ?_)
    · replace h := h.1 hb
      refine wpE_seq (x := c_disk_Disk_Capacity_9) (y := c_disk_Disk_Capacity_11) (by kernel_rfl) ?_
      refine wpE_region (id := 2) (ops := r_disk_Disk_Capacity_9) (by kernel_rfl) ?_
      refine reg_run [.plain] 1 [(2, [], Value.int .i64 0)] (by kernel_rfl) (by kernel_rfl) ?_
      refine reg_end [(2, Value.int .i64 0)] (by kernel_rfl) (by kernel_rfl) ?_
      change WpE _ _ c_disk_Disk_Capacity_11 _ _ _
      refine wpE_ret (by kernel_rfl) ?_
      repeat (first | refine seqQ_ret ?_ | refine blockQ_ret ?_ | refine loopQ_ret ?_ | refine cutQ_ret ?_)
      exact retS (rs := [(Go.ResultVar.tmp 2)]) (v := Value.int .i64 0) (by kernel_rfl) (⟨by kernel_rfl, trivial⟩) ⟨0, rfl, h⟩
    · replace h := h.2 hb
      refine wpE_skip (by kernel_rfl) ?_
      change WpE _ _ c_disk_Disk_Capacity_13 _ _ _
      refine wpE_seq (x := c_disk_Disk_Capacity_14) (y := c_disk_Disk_Capacity_16) (by kernel_rfl) ?_
      refine wpE_region (id := 3) (ops := r_disk_Disk_Capacity_14) (by kernel_rfl) ?_
      refine reg_run [.plain] 1 [(5, [], Value.pointer d)] (by kernel_rfl) (by kernel_rfl) ?_
      obtain ⟨hp_0, h⟩ := h
      refine reg_conv [(5, [], Value.pointer (some ⟨(pblk d), (poff d), none⟩))] (congrArg (fun pp => ([(5, [], Value.pointer pp)] : GEnv)) hp_0) ?_
      refine reg_run [.plain] 2 [(5, [], Value.pointer (some ⟨(pblk d), (poff d), none⟩)), (6, [], Value.pointer (some ⟨(pblk d), (poff d), none⟩))] (by kernel_rfl) (by kernel_rfl) ?_
      refine reg_run [.plain] 3 [(7, [], Value.pointer (some ⟨(pblk d), (poff d) + 1, none⟩))] (by kernel_rfl) (by kernel_rfl) ?_
      obtain ⟨v8, hc, h⟩ := h
      refine reg_load1 (t := 3) (a := (Go.Operand.tmp 7)) (b := (pblk d)) (o := ((poff d) + 1)) (ty := 3) (dst := some 8) (by kernel_rfl) (by kernel_rfl) (by kernel_rfl) hc ?_
      refine reg_run [.plain] 5 [(2, [], Value.int .i64 v8)] (by kernel_rfl) (by kernel_rfl) ?_
      refine reg_end [(2, Value.int .i64 v8)] (by kernel_rfl) (by kernel_rfl) ?_
      change WpE _ _ c_disk_Disk_Capacity_16 _ _ _
      refine wpE_ret (by kernel_rfl) ?_
      repeat (first | refine seqQ_ret ?_ | refine blockQ_ret ?_ | refine loopQ_ret ?_ | refine cutQ_ret ?_)
      exact retS (rs := [(Go.ResultVar.tmp 2)]) (v := Value.int .i64 v8) (by kernel_rfl) (⟨by kernel_rfl, trivial⟩) ⟨v8, rfl, h⟩
  · rintro e w' ⟨v, rfl, r0, rfl, h⟩; exact ⟨r0, rfl, h⟩

/-! ### (*towpath/disk.Disk).Writes (function 28) -/
noncomputable def c_disk_Disk_Writes_0 : Code := (Tryz.f28.body).getD Code.skip
noncomputable def c_disk_Disk_Writes_1 : Code := Code.l c_disk_Disk_Writes_0
noncomputable def r_disk_Disk_Writes_1 : Array Oper := Code.ops c_disk_Disk_Writes_1
noncomputable def c_disk_Disk_Writes_3 : Code := Code.r c_disk_Disk_Writes_0
noncomputable def c_disk_Disk_Writes_4 : Code := Code.l c_disk_Disk_Writes_3
noncomputable def c_disk_Disk_Writes_5 : Code := Code.l c_disk_Disk_Writes_4
noncomputable def r_disk_Disk_Writes_5 : Array Oper := Code.ops c_disk_Disk_Writes_5
noncomputable def c_disk_Disk_Writes_7 : Code := Code.r c_disk_Disk_Writes_4
noncomputable def c_disk_Disk_Writes_8 : Code := Code.l c_disk_Disk_Writes_7
noncomputable def c_disk_Disk_Writes_9 : Code := Code.l c_disk_Disk_Writes_8
noncomputable def r_disk_Disk_Writes_9 : Array Oper := Code.ops c_disk_Disk_Writes_9
noncomputable def c_disk_Disk_Writes_11 : Code := Code.r c_disk_Disk_Writes_8
noncomputable def c_disk_Disk_Writes_12 : Code := Code.r c_disk_Disk_Writes_7
noncomputable def c_disk_Disk_Writes_13 : Code := Code.r c_disk_Disk_Writes_3
noncomputable def c_disk_Disk_Writes_14 : Code := Code.l c_disk_Disk_Writes_13
noncomputable def r_disk_Disk_Writes_14 : Array Oper := Code.ops c_disk_Disk_Writes_14
noncomputable def c_disk_Disk_Writes_16 : Code := Code.r c_disk_Disk_Writes_13

set_option maxRecDepth 100000 in
set_option maxHeartbeats 4000000 in
theorem S_disk_Disk_Writes {d : Option Addr} {w : World} {R : Int → World → Prop} (h : F_disk_Disk_Writes d R w) : C_disk_Disk_Writes d w R := by
  unfold F_disk_Disk_Writes at h
  unfold C_disk_Disk_Writes
  refine Calls.mono (calls_of_wpE (args := [Value.pointer d]) (R := fun v w' => ∃ (r0 : Int), v = Value.int .i64 r0 ∧ R r0 w') Tryz.func28 (c := c_disk_Disk_Writes_0) (by kernel_rfl) 9 (by kernel_rfl) (by kernel_rfl) [(0, Value.pointer d)] (by kernel_rfl) ?_) ?_
  · refine wpE_seq (x := c_disk_Disk_Writes_1) (y := c_disk_Disk_Writes_3) (by kernel_rfl) ?_
    refine wpE_region (id := 0) (ops := r_disk_Disk_Writes_1) (by kernel_rfl) ?_
    refine reg_run [.plain] 1 [(0, [], Value.pointer d)] (by kernel_rfl) (by kernel_rfl) ?_
    refine reg_end [(0, Value.pointer d)] (by kernel_rfl) (by kernel_rfl) ?_
    change WpE _ _ c_disk_Disk_Writes_3 _ _ _
    refine wpE_seq (x := c_disk_Disk_Writes_4) (y := c_disk_Disk_Writes_13) (by kernel_rfl) ?_
    refine wpE_seq (x := c_disk_Disk_Writes_5) (y := c_disk_Disk_Writes_7) (by kernel_rfl) ?_
    refine wpE_region (id := 1) (ops := r_disk_Disk_Writes_5) (by kernel_rfl) ?_
    refine reg_run [.plain] 1 [(0, [], Value.pointer d), (3, [], Value.pointer d)] (by kernel_rfl) (by kernel_rfl) ?_
    refine reg_val (op := (Go.Op.binOp Go.BinOp.eql 24 (Go.Operand.tmp 3) (Go.Operand.const (Go.Value.pointer none)) 24)) (ty := 4) (dst := some 4) (Value.bool d.isNone) (by kernel_rfl) (fun ww => run_ptr_eql_R (p := d) (by kernel_rfl) (by kernel_rfl) (by kernel_rfl) ww) ?_
    refine reg_end [(0, Value.pointer d), (4, Value.bool d.isNone)] (by kernel_rfl) (by kernel_rfl) ?_
    change WpE _ _ c_disk_Disk_Writes_7 _ _ _
    refine wpE_cond (o := (Operand.tmp 4)) (b := d.isNone) (x := c_disk_Disk_Writes_8) (y := c_disk_Disk_Writes_12) (by kernel_rfl) (by kernel_rfl) (fun hb => ?_) (fun hb => ?_)
    · replace h := h.1 hb
      refine wpE_seq (x := c_disk_Disk_Writes_9) (y := c_disk_Disk_Writes_11) (by kernel_rfl) ?_
      refine wpE_region (id := 2) (ops := r_disk_Disk_Writes_9) (by kernel_rfl) ?_
      refine reg_run [.plain] 1 [(2, [], Value.int .i64 0)] (by kernel_rfl) (by kernel_rfl) ?_
      refine reg_end [(2, Value.int .i64 0)] (by kernel_rfl) (by kernel_rfl) ?_
      change WpE _ _ c_disk_Disk_Writes_11 _ _ _
      refine wpE_ret (by kernel_rfl) ?_
      repeat (first | refine seqQ_ret ?_ | refine blockQ_ret ?_ | refine loopQ_ret ?_ | refine cutQ_ret ?_)
      exact retS (rs := [(Go.ResultVar.tmp 2)]) (v := Value.int .i64 0) (by kernel_rfl) (⟨by kernel_rfl, trivial⟩) ⟨0, rfl, h⟩
    · replace h := h.2 hb
      refine wpE_skip (by kernel_rfl) ?_
      change WpE _ _ c_disk_Disk_Writes_13 _ _ _
      refine wpE_seq (x := c_disk_Disk_Writes_14) (y := c_disk_Disk_Writes_16) (by kernel_rfl) ?_
      refine wpE_region (id := 3) (ops := r_disk_Disk_Writes_14) (by kernel_rfl) ?_
      refine reg_run [.plain] 1 [(5, [], Value.pointer d)] (by kernel_rfl) (by kernel_rfl) ?_
      obtain ⟨hp_0, h⟩ := h
      refine reg_conv [(5, [], Value.pointer (some ⟨(pblk d), (poff d), none⟩))] (congrArg (fun pp => ([(5, [], Value.pointer pp)] : GEnv)) hp_0) ?_
      refine reg_run [.plain] 2 [(5, [], Value.pointer (some ⟨(pblk d), (poff d), none⟩)), (6, [], Value.pointer (some ⟨(pblk d), (poff d), none⟩))] (by kernel_rfl) (by kernel_rfl) ?_
      refine reg_run [.plain] 3 [(7, [], Value.pointer (some ⟨(pblk d), (poff d) + 6, none⟩))] (by kernel_rfl) (by kernel_rfl) ?_
      obtain ⟨v8, hc, h⟩ := h
      refine reg_load1 (t := 3) (a := (Go.Operand.tmp 7)) (b := (pblk d)) (o := ((poff d) + 6)) (ty := 3) (dst := some 8) (by kernel_rfl) (by kernel_rfl) (by kernel_rfl) hc ?_
      refine reg_run [.plain] 5 [(2, [], Value.int .i64 v8)] (by kernel_rfl) (by kernel_rfl) ?_
      refine reg_end [(2, Value.int .i64 v8)] (by kernel_rfl) (by kernel_rfl) ?_
      change WpE _ _ c_disk_Disk_Writes_16 _ _ _
      refine wpE_ret (by kernel_rfl) ?_
      repeat (first | refine seqQ_ret ?_ | refine blockQ_ret ?_ | refine loopQ_ret ?_ | refine cutQ_ret ?_)
      exact retS (rs := [(Go.ResultVar.tmp 2)]) (v := Value.int .i64 v8) (by kernel_rfl) (⟨by kernel_rfl, trivial⟩) ⟨v8, rfl, h⟩
  · rintro e w' ⟨v, rfl, r0, rfl, h⟩; exact ⟨r0, rfl, h⟩

/-! ### (*towpath/disk.Disk).look (function 30) -/
noncomputable def c_disk_Disk_look_0 : Code := (Tryz.f30.body).getD Code.skip
noncomputable def c_disk_Disk_look_1 : Code := Code.l c_disk_Disk_look_0
noncomputable def r_disk_Disk_look_1 : Array Oper := Code.ops c_disk_Disk_look_1
noncomputable def c_disk_Disk_look_3 : Code := Code.r c_disk_Disk_look_0
noncomputable def c_disk_Disk_look_4 : Code := Code.l c_disk_Disk_look_3
noncomputable def c_disk_Disk_look_5 : Code := Code.l c_disk_Disk_look_4
noncomputable def c_disk_Disk_look_6 : Code := Code.l c_disk_Disk_look_5
noncomputable def r_disk_Disk_look_6 : Array Oper := Code.ops c_disk_Disk_look_6
noncomputable def c_disk_Disk_look_8 : Code := Code.r c_disk_Disk_look_5
noncomputable def c_disk_Disk_look_9 : Code := Code.l c_disk_Disk_look_8
noncomputable def c_disk_Disk_look_10 : Code := Code.l c_disk_Disk_look_9
noncomputable def r_disk_Disk_look_10 : Array Oper := Code.ops c_disk_Disk_look_10
noncomputable def c_disk_Disk_look_12 : Code := Code.r c_disk_Disk_look_9
noncomputable def c_disk_Disk_look_13 : Code := Code.r c_disk_Disk_look_8
noncomputable def c_disk_Disk_look_14 : Code := Code.l c_disk_Disk_look_13
noncomputable def r_disk_Disk_look_14 : Array Oper := Code.ops c_disk_Disk_look_14
noncomputable def c_disk_Disk_look_16 : Code := Code.r c_disk_Disk_look_13
noncomputable def c_disk_Disk_look_17 : Code := Code.l c_disk_Disk_look_16
noncomputable def c_disk_Disk_look_18 : Code := Code.l c_disk_Disk_look_17
noncomputable def r_disk_Disk_look_18 : Array Oper := Code.ops c_disk_Disk_look_18
noncomputable def c_disk_Disk_look_20 : Code := Code.r c_disk_Disk_look_17
noncomputable def c_disk_Disk_look_21 : Code := Code.r c_disk_Disk_look_16
noncomputable def c_disk_Disk_look_22 : Code := Code.r c_disk_Disk_look_3
noncomputable def c_disk_Disk_look_23 : Code := Code.l c_disk_Disk_look_22
noncomputable def r_disk_Disk_look_23 : Array Oper := Code.ops c_disk_Disk_look_23
noncomputable def c_disk_Disk_look_25 : Code := Code.r c_disk_Disk_look_22

set_option maxRecDepth 100000 in
set_option maxHeartbeats 4000000 in
theorem S_disk_Disk_look {d : Option Addr} {slot : Int} {w : World} {R : Int → World → Prop} (h : F_disk_Disk_look d slot R w) : C_disk_Disk_look d slot w R := by
  unfold F_disk_Disk_look at h
  unfold C_disk_Disk_look
  refine Calls.mono (calls_of_wpE (args := [Value.pointer d, Value.int .i64 slot]) (R := fun v w' => ∃ (r0 : Int), v = Value.int .i64 r0 ∧ R r0 w') Tryz.func30 (c := c_disk_Disk_look_0) (by kernel_rfl) 22 (by kernel_rfl) (by kernel_rfl) [(0, Value.pointer d), (1, Value.int .i64 slot)] (by kernel_rfl) ?_) ?_
  · refine wpE_seq (x := c_disk_Disk_look_1) (y := c_disk_Disk_look_3) (by kernel_rfl) ?_
    refine wpE_region (id := 0) (ops := r_disk_Disk_look_1) (by kernel_rfl) ?_
    refine reg_run [.plain] 1 [(0, [], Value.pointer d), (1, [], Value.int .i64 slot)] (by kernel_rfl) (by kernel_rfl) ?_
    refine reg_end [(0, Value.pointer d), (1, Value.int .i64 slot)] (by kernel_rfl) (by kernel_rfl) ?_
    change WpE _ _ c_disk_Disk_look_3 _ _ _
    refine wpE_seq (x := c_disk_Disk_look_4) (y := c_disk_Disk_look_22) (by kernel_rfl) ?_
    refine wpE_block (id := 0) (x := c_disk_Disk_look_5) (by kernel_rfl) ?_
    refine wpE_seq_cut (x := c_disk_Disk_look_6) (y := c_disk_Disk_look_8) (by kernel_rfl) (fun l w => ∃ (t5 : Bool), l = [(1, Value.int .i64 slot), (5, Value.bool t5)] ∧ F_disk_Disk_look_k0 slot R t5 w) ?_ ?_
    · refine wpE_region (id := 1) (ops := r_disk_Disk_look_6) (by kernel_rfl) ?_
      refine reg_run [.plain] 1 [(0, [], Value.pointer d), (1, [], Value.int .i64 slot), (6, [], Value.pointer d)] (by kernel_rfl) (by kernel_rfl) ?_
      refine reg_val (op := (Go.Op.binOp Go.BinOp.eql 24 (Go.Operand.tmp 6) (Go.Operand.const (Go.Value.pointer none)) 24)) (ty := 4) (dst := some 7) (Value.bool d.isNone) (by kernel_rfl) (fun ww => run_ptr_eql_R (p := d) (by kernel_rfl) (by kernel_rfl) (by kernel_rfl) ww) ?_
      refine reg_run [.plain, .plain] 4 [(1, [], Value.int .i64 slot), (8, [], Value.bool d.isNone), (9, [(8, false)], Value.pointer d)] (by kernel_rfl) (by kernel_rfl) ?_
      refine reg_split 8 d.isNone (by kernel_rfl) (fun hb => ?_) (fun hb => ?_)
      · replace h := h.1 hb
        refine reg_run [] 4 [(1, [], Value.int .i64 slot), (8, [], Value.bool true), (9, [], undef)] (by kernel_rfl) (by kernel_rfl) ?_
        refine reg_run [.skip, .skip, .skip, .skip, .plain, .plain] 10 [(1, [], Value.int .i64 slot), (5, [], Value.bool true)] (by kernel_rfl) (by kernel_rfl) ?_
        refine reg_end [(1, Value.int .i64 slot), (5, Value.bool true)] (by kernel_rfl) (by kernel_rfl) ?_
        exact ⟨[(1, Value.int .i64 slot), (5, Value.bool true)], Sub.mk (by kernel_rfl), true, rfl, h⟩
      · replace h := h.2 hb
        refine reg_run [] 4 [(1, [], Value.int .i64 slot), (8, [], Value.bool false), (9, [], Value.pointer d)] (by kernel_rfl) (by kernel_rfl) ?_
        refine reg_run [] 4 [(1, [], Value.int .i64 slot), (8, [], Value.bool false), (9, [], Value.pointer d)] (by kernel_rfl) (by kernel_rfl) ?_
        obtain ⟨hp_3, h⟩ := h
        refine reg_conv [(1, [], Value.int .i64 slot), (8, [], Value.bool false), (9, [], Value.pointer (some ⟨(pblk d), (poff d), none⟩))] (congrArg (fun pp => ([(1, [], Value.int .i64 slot), (8, [], Value.bool false), (9, [], Value.pointer pp)] : GEnv)) hp_3) ?_
        refine reg_run [.sure] 5 [(1, [], Value.int .i64 slot), (8, [], Value.bool false), (9, [], Value.pointer (some ⟨(pblk d), (poff d), none⟩)), (10, [], Value.pointer (some ⟨(pblk d), (poff d), none⟩))] (by kernel_rfl) (by kernel_rfl) ?_
        refine reg_run [.sure] 6 [(1, [], Value.int .i64 slot), (8, [], Value.bool false), (11, [], Value.pointer (some ⟨(pblk d), (poff d), none⟩))] (by kernel_rfl) (by kernel_rfl) ?_
        obtain ⟨v12, hc, h⟩ := h
        refine reg_load1 (t := 4) (a := (Go.Operand.tmp 11)) (b := (pblk d)) (o := (poff d)) (ty := 4) (dst := some 12) (by kernel_rfl) (by kernel_rfl) (by kernel_rfl) hc ?_
        refine reg_run [.sure, .plain, .plain] 10 [(1, [], Value.int .i64 slot), (5, [], Value.bool (!v12))] (by kernel_rfl) (by kernel_rfl) ?_
        refine reg_end [(1, Value.int .i64 slot), (5, Value.bool (!v12))] (by kernel_rfl) (by kernel_rfl) ?_
        exact ⟨[(1, Value.int .i64 slot), (5, Value.bool (!v12))], Sub.mk (by kernel_rfl), (!v12), rfl, h⟩
    · rintro _ w1 ⟨t5, rfl, h⟩
      unfold F_disk_Disk_look_k0 at h
      refine wpE_cond (o := (Operand.tmp 5)) (b := t5) (x := c_disk_Disk_look_9) (y := c_disk_Disk_look_13) (by kernel_rfl) (by kernel_rfl) (fun hb => ?_) (fun hb => ?_)
      · replace h := h.1 hb
        refine wpE_seq (x := c_disk_Disk_look_10) (y := c_disk_Disk_look_12) (by kernel_rfl) ?_
        refine wpE_region (id := 2) (ops := r_disk_Disk_look_10) (by kernel_rfl) ?_
        refine reg_run [.plain] 1 [(4, [], Value.int .i64 2)] (by kernel_rfl) (by kernel_rfl) ?_
        refine reg_end [(4, Value.int .i64 2)] (by kernel_rfl) (by kernel_rfl) ?_
        change WpE _ _ c_disk_Disk_look_12 _ _ _
        refine wpE_ret (by kernel_rfl) ?_
        repeat (first | refine seqQ_ret ?_ | refine blockQ_ret ?_ | refine loopQ_ret ?_ | refine cutQ_ret ?_)
        exact retS (rs := [(Go.ResultVar.tmp 4)]) (v := Value.int .i64 2) (by kernel_rfl) (⟨by kernel_rfl, trivial⟩) ⟨2, rfl, h⟩
      · replace h := h.2 hb
        refine wpE_seq (x := c_disk_Disk_look_14) (y := c_disk_Disk_look_16) (by kernel_rfl) ?_
        refine wpE_region (id := 3) (ops := r_disk_Disk_look_14) (by kernel_rfl) ?_
        refine reg_run [.plain, .plain, .plain, .plain, .plain, .pick, .plain] 7 [(15, [], Value.bool ((slot != 0) && (slot != 1)))] (by kernel_rfl) (by kernel_rfl) ?_
        refine reg_end [(15, Value.bool ((slot != 0) && (slot != 1)))] (by kernel_rfl) (by kernel_rfl) ?_
        change WpE _ _ c_disk_Disk_look_16 _ _ _
        refine wpE_cond (o := (Operand.tmp 15)) (b := ((slot != 0) && (slot != 1))) (x := c_disk_Disk_look_17) (y := c_disk_Disk_look_21) (by kernel_rfl) (by kernel_rfl) (fun hb => ?_) (fun hb => ?_)
        · replace h := h.1 hb
          refine wpE_seq (x := c_disk_Disk_look_18) (y := c_disk_Disk_look_20) (by kernel_rfl) ?_
          refine wpE_region (id := 4) (ops := r_disk_Disk_look_18) (by kernel_rfl) ?_
          refine reg_run [.plain] 1 [(4, [], Value.int .i64 1)] (by kernel_rfl) (by kernel_rfl) ?_
          refine reg_end [(4, Value.int .i64 1)] (by kernel_rfl) (by kernel_rfl) ?_
          change WpE _ _ c_disk_Disk_look_20 _ _ _
          refine wpE_ret (by kernel_rfl) ?_
          repeat (first | refine seqQ_ret ?_ | refine blockQ_ret ?_ | refine loopQ_ret ?_ | refine cutQ_ret ?_)
          exact retS (rs := [(Go.ResultVar.tmp 4)]) (v := Value.int .i64 1) (by kernel_rfl) (⟨by kernel_rfl, trivial⟩) ⟨1, rfl, h⟩
        · replace h := h.2 hb
          refine wpE_skip (by kernel_rfl) ?_
          change WpE _ _ c_disk_Disk_look_22 _ _ _
          refine wpE_seq (x := c_disk_Disk_look_23) (y := c_disk_Disk_look_25) (by kernel_rfl) ?_
          refine wpE_region (id := 5) (ops := r_disk_Disk_look_23) (by kernel_rfl) ?_
          refine reg_run [.plain] 1 [(4, [], Value.int .i64 0)] (by kernel_rfl) (by kernel_rfl) ?_
          refine reg_end [(4, Value.int .i64 0)] (by kernel_rfl) (by kernel_rfl) ?_
          change WpE _ _ c_disk_Disk_look_25 _ _ _
          refine wpE_ret (by kernel_rfl) ?_
          repeat (first | refine seqQ_ret ?_ | refine blockQ_ret ?_ | refine loopQ_ret ?_ | refine cutQ_ret ?_)
          exact retS (rs := [(Go.ResultVar.tmp 4)]) (v := Value.int .i64 0) (by kernel_rfl) (⟨by kernel_rfl, trivial⟩) ⟨0, rfl, h⟩
  · rintro e w' ⟨v, rfl, r0, rfl, h⟩; exact ⟨r0, rfl, h⟩

/-! ### (*towpath/disk.Disk).raw (function 67) -/
noncomputable def c_disk_Disk_raw_0 : Code := (Tryz.f67.body).getD Code.skip
noncomputable def c_disk_Disk_raw_1 : Code := Code.l c_disk_Disk_raw_0
noncomputable def r_disk_Disk_raw_1 : Array Oper := Code.ops c_disk_Disk_raw_1
noncomputable def c_disk_Disk_raw_3 : Code := Code.r c_disk_Disk_raw_0
noncomputable def c_disk_Disk_raw_4 : Code := Code.l c_disk_Disk_raw_3
noncomputable def c_disk_Disk_raw_5 : Code := Code.l c_disk_Disk_raw_4
noncomputable def r_disk_Disk_raw_5 : Array Oper := Code.ops c_disk_Disk_raw_5
noncomputable def c_disk_Disk_raw_7 : Code := Code.r c_disk_Disk_raw_4
noncomputable def c_disk_Disk_raw_8 : Code := Code.l c_disk_Disk_raw_7
noncomputable def c_disk_Disk_raw_9 : Code := Code.l c_disk_Disk_raw_8
noncomputable def r_disk_Disk_raw_9 : Array Oper := Code.ops c_disk_Disk_raw_9
noncomputable def c_disk_Disk_raw_11 : Code := Code.r c_disk_Disk_raw_8
noncomputable def c_disk_Disk_raw_12 : Code := Code.l c_disk_Disk_raw_11
noncomputable def r_disk_Disk_raw_12 : Array Oper := Code.ops c_disk_Disk_raw_12
noncomputable def c_disk_Disk_raw_14 : Code := Code.r c_disk_Disk_raw_11
noncomputable def c_disk_Disk_raw_15 : Code := Code.r c_disk_Disk_raw_7
noncomputable def c_disk_Disk_raw_16 : Code := Code.r c_disk_Disk_raw_3
noncomputable def c_disk_Disk_raw_17 : Code := Code.l c_disk_Disk_raw_16
noncomputable def r_disk_Disk_raw_17 : Array Oper := Code.ops c_disk_Disk_raw_17
noncomputable def c_disk_Disk_raw_19 : Code := Code.r c_disk_Disk_raw_16
noncomputable def c_disk_Disk_raw_20 : Code := Code.l c_disk_Disk_raw_19
noncomputable def r_disk_Disk_raw_20 : Array Oper := Code.ops c_disk_Disk_raw_20
noncomputable def c_disk_Disk_raw_22 : Code := Code.r c_disk_Disk_raw_19
noncomputable def c_disk_Disk_raw_23 : Code := Code.l c_disk_Disk_raw_22
noncomputable def r_disk_Disk_raw_23 : Array Oper := Code.ops c_disk_Disk_raw_23
noncomputable def c_disk_Disk_raw_25 : Code := Code.r c_disk_Disk_raw_22

set_option maxRecDepth 100000 in
set_option maxHeartbeats 4000000 in
theorem S_disk_Disk_raw {d : Option Addr} {w : World} {R : Int → World → Prop} (h : F_disk_Disk_raw d R w) : C_disk_Disk_raw d w R := by
  unfold F_disk_Disk_raw at h
  unfold C_disk_Disk_raw
  refine Calls.mono (calls_of_wpE (args := [Value.pointer d]) (R := fun v w' => ∃ (r0 : Int), v = Value.int .i64 r0 ∧ R r0 w') Tryz.func67 (c := c_disk_Disk_raw_0) (by kernel_rfl) 33 (by kernel_rfl) (by kernel_rfl) [(0, Value.pointer d)] (by kernel_rfl) ?_) ?_
  · refine wpE_seq (x := c_disk_Disk_raw_1) (y := c_disk_Disk_raw_3) (by kernel_rfl) ?_
    refine wpE_region (id := 0) (ops := r_disk_Disk_raw_1) (by kernel_rfl) ?_
    refine reg_run [.plain] 1 [(0, [], Value.pointer d)] (by kernel_rfl) (by kernel_rfl) ?_
    refine reg_end [(0, Value.pointer d)] (by kernel_rfl) (by kernel_rfl) ?_
    change WpE _ _ c_disk_Disk_raw_3 _ _ _
    refine wpE_seq (x := c_disk_Disk_raw_4) (y := c_disk_Disk_raw_16) (by kernel_rfl) ?_
    refine wpE_seq_cut (x := c_disk_Disk_raw_5) (y := c_disk_Disk_raw_7) (by kernel_rfl) (fun l w => ∃ (t13 : Bool), l = [(0, Value.pointer d), (13, Value.bool t13)] ∧ F_disk_Disk_raw_k0 d R t13 w) ?_ ?_
    · refine wpE_region (id := 1) (ops := r_disk_Disk_raw_5) (by kernel_rfl) ?_
      refine reg_run [.plain] 1 [(0, [], Value.pointer d), (3, [], Value.pointer d)] (by kernel_rfl) (by kernel_rfl) ?_
      obtain ⟨hp_16, h⟩ := h
      refine reg_conv [(0, [], Value.pointer d), (3, [], Value.pointer (some ⟨(pblk d), (poff d), none⟩))] (congrArg (fun pp => ([(0, [], Value.pointer d), (3, [], Value.pointer pp)] : GEnv)) hp_16) ?_
      refine reg_run [.plain] 2 [(0, [], Value.pointer d), (3, [], Value.pointer (some ⟨(pblk d), (poff d), none⟩)), (4, [], Value.pointer (some ⟨(pblk d), (poff d), none⟩))] (by kernel_rfl) (by kernel_rfl) ?_
      refine reg_run [.plain] 3 [(0, [], Value.pointer d), (5, [], Value.pointer (some ⟨(pblk d), (poff d) + 5, none⟩))] (by kernel_rfl) (by kernel_rfl) ?_
      obtain ⟨v6, hc, h⟩ := h
      refine reg_load1 (t := 4) (a := (Go.Operand.tmp 5)) (b := (pblk d)) (o := ((poff d) + 5)) (ty := 4) (dst := some 6) (by kernel_rfl) (by kernel_rfl) (by kernel_rfl) hc ?_
      refine reg_run [.plain, .plain] 6 [(0, [], Value.pointer d), (7, [], Value.bool v6), (8, [(7, false)], Value.pointer d)] (by kernel_rfl) (by kernel_rfl) ?_
      refine reg_split 7 v6 (by kernel_rfl) (fun hb => ?_) (fun hb => ?_)
      · replace h := h.1 hb
        refine reg_run [] 6 [(0, [], Value.pointer d), (7, [], Value.bool true), (8, [], undef)] (by kernel_rfl) (by kernel_rfl) ?_
        refine reg_run [.skip, .skip, .skip, .skip, .plain] 11 [(0, [], Value.pointer d), (13, [], Value.bool true)] (by kernel_rfl) (by kernel_rfl) ?_
        refine reg_end [(0, Value.pointer d), (13, Value.bool true)] (by kernel_rfl) (by kernel_rfl) ?_
        exact ⟨[(0, Value.pointer d), (13, Value.bool true)], Sub.mk (by kernel_rfl), true, rfl, h⟩
      · replace h := h.2 hb
        refine reg_run [] 6 [(0, [], Value.pointer d), (7, [], Value.bool false), (8, [], Value.pointer d)] (by kernel_rfl) (by kernel_rfl) ?_
        refine reg_run [] 6 [(0, [], Value.pointer d), (7, [], Value.bool false), (8, [], Value.pointer d)] (by kernel_rfl) (by kernel_rfl) ?_
        obtain ⟨hp_17, h⟩ := h
        refine reg_conv [(0, [], Value.pointer d), (7, [], Value.bool false), (8, [], Value.pointer (some ⟨(pblk d), (poff d), none⟩))] (congrArg (fun pp => ([(0, [], Value.pointer d), (7, [], Value.bool false), (8, [], Value.pointer pp)] : GEnv)) hp_17) ?_
        refine reg_run [.sure] 7 [(0, [], Value.pointer d), (7, [], Value.bool false), (8, [], Value.pointer (some ⟨(pblk d), (poff d), none⟩)), (9, [], Value.pointer (some ⟨(pblk d), (poff d), none⟩))] (by kernel_rfl) (by kernel_rfl) ?_
        refine reg_run [.sure] 8 [(0, [], Value.pointer d), (7, [], Value.bool false), (10, [], Value.pointer (some ⟨(pblk d), (poff d) + 4, none⟩))] (by kernel_rfl) (by kernel_rfl) ?_
        obtain ⟨v11, hc, h⟩ := h
        refine reg_load1 (t := 3) (a := (Go.Operand.tmp 10)) (b := (pblk d)) (o := ((poff d) + 4)) (ty := 3) (dst := some 11) (by kernel_rfl) (by kernel_rfl) (by kernel_rfl) hc ?_
        refine reg_run [.sure, .plain] 11 [(0, [], Value.pointer d), (13, [], Value.bool (v11 == 0))] (by kernel_rfl) (by kernel_rfl) ?_
        refine reg_end [(0, Value.pointer d), (13, Value.bool (v11 == 0))] (by kernel_rfl) (by kernel_rfl) ?_
        exact ⟨[(0, Value.pointer d), (13, Value.bool (v11 == 0))], Sub.mk (by kernel_rfl), (v11 == 0), rfl, h⟩
    · rintro _ w1 ⟨t13, rfl, h⟩
      unfold F_disk_Disk_raw_k0 at h
      refine wpE_cond (o := (Operand.tmp 13)) (b := t13) (x := c_disk_Disk_raw_8) (y := c_disk_Disk_raw_15) (by kernel_rfl) (by kernel_rfl) (fun hb => ?_) (fun hb => ?_)
      · replace h := h.1 hb
        refine wpE_seq (x := c_disk_Disk_raw_9) (y := c_disk_Disk_raw_11) (by kernel_rfl) ?_
        refine wpE_region (id := 2) (ops := r_disk_Disk_raw_9) (by kernel_rfl) ?_
        refine reg_run [.plain] 1 [(14, [], Value.pointer d)] (by kernel_rfl) (by kernel_rfl) ?_
        obtain ⟨hp_9, h⟩ := h
        refine reg_conv [(14, [], Value.pointer (some ⟨(pblk d), (poff d), none⟩))] (congrArg (fun pp => ([(14, [], Value.pointer pp)] : GEnv)) hp_9) ?_
        refine reg_run [.plain] 2 [(14, [], Value.pointer (some ⟨(pblk d), (poff d), none⟩)), (15, [], Value.pointer (some ⟨(pblk d), (poff d), none⟩))] (by kernel_rfl) (by kernel_rfl) ?_
        refine reg_run [.plain] 3 [(16, [], Value.pointer (some ⟨(pblk d), (poff d) + 5, none⟩))] (by kernel_rfl) (by kernel_rfl) ?_
        obtain ⟨hc, h⟩ := h
        refine reg_store (t := 4) (a := (Go.Operand.tmp 16)) (x := (Go.Operand.const (Go.Value.bool true))) (b := (pblk d)) (o := ((poff d) + 5)) (ty := 0) (dst := none) [Value.bool true] (by kernel_rfl) (by kernel_rfl) (by kernel_rfl) (k := 1) (by kernel_rfl) (by kernel_rfl) (by kernel_rfl) hc (fun w2 hw => ?_)
        replace h := h w2 hw
        clear hw
        refine reg_end [] (by kernel_rfl) (by kernel_rfl) ?_
        change WpE _ _ c_disk_Disk_raw_11 _ _ _
        refine wpE_seq (x := c_disk_Disk_raw_12) (y := c_disk_Disk_raw_14) (by kernel_rfl) ?_
        refine wpE_region (id := 3) (ops := r_disk_Disk_raw_12) (by kernel_rfl) ?_
        refine reg_run [.plain] 1 [(2, [], Value.int .i64 11)] (by kernel_rfl) (by kernel_rfl) ?_
        refine reg_end [(2, Value.int .i64 11)] (by kernel_rfl) (by kernel_rfl) ?_
        change WpE _ _ c_disk_Disk_raw_14 _ _ _
        refine wpE_ret (by kernel_rfl) ?_
        repeat (first | refine seqQ_ret ?_ | refine blockQ_ret ?_ | refine loopQ_ret ?_ | refine cutQ_ret ?_)
        exact retS (rs := [(Go.ResultVar.tmp 2)]) (v := Value.int .i64 11) (by kernel_rfl) (⟨by kernel_rfl, trivial⟩) ⟨11, rfl, h⟩
      · replace h := h.2 hb
        refine wpE_skip (by kernel_rfl) ?_
        change WpE _ _ c_disk_Disk_raw_16 _ _ _
        refine wpE_seq (x := c_disk_Disk_raw_17) (y := c_disk_Disk_raw_19) (by kernel_rfl) ?_
        refine wpE_region (id := 4) (ops := r_disk_Disk_raw_17) (by kernel_rfl) ?_
        refine reg_run [.plain, .plain] 2 [(0, [], Value.pointer d), (17, [], Value.pointer d), (18, [], Value.pointer d)] (by kernel_rfl) (by kernel_rfl) ?_
        obtain ⟨hp_12, h⟩ := h
        refine reg_conv [(0, [], Value.pointer d), (17, [], Value.pointer d), (18, [], Value.pointer (some ⟨(pblk d), (poff d), none⟩))] (congrArg (fun pp => ([(0, [], Value.pointer d), (17, [], Value.pointer d), (18, [], Value.pointer pp)] : GEnv)) hp_12) ?_
        refine reg_run [.plain] 3 [(0, [], Value.pointer d), (17, [], Value.pointer d), (18, [], Value.pointer (some ⟨(pblk d), (poff d), none⟩)), (19, [], Value.pointer (some ⟨(pblk d), (poff d), none⟩))] (by kernel_rfl) (by kernel_rfl) ?_
        refine reg_run [.plain] 4 [(0, [], Value.pointer d), (17, [], Value.pointer d), (20, [], Value.pointer (some ⟨(pblk d), (poff d) + 4, none⟩))] (by kernel_rfl) (by kernel_rfl) ?_
        obtain ⟨v21, hc, h⟩ := h
        refine reg_load1 (t := 3) (a := (Go.Operand.tmp 20)) (b := (pblk d)) (o := ((poff d) + 4)) (ty := 3) (dst := some 21) (by kernel_rfl) (by kernel_rfl) (by kernel_rfl) hc ?_
        refine reg_run [.plain, .plain] 7 [(0, [], Value.pointer d), (17, [], Value.pointer d), (23, [], Value.int .i64 (if (-1) > (IntKind.i64.wrap (v21 - 1)) then (-1) else (IntKind.i64.wrap (v21 - 1))))] (by kernel_rfl) (by kernel_rfl) ?_
        obtain ⟨hp_13, h⟩ := h
        refine reg_conv [(0, [], Value.pointer d), (17, [], Value.pointer (some ⟨(pblk d), (poff d), none⟩)), (23, [], Value.int .i64 (if (-1) > (IntKind.i64.wrap (v21 - 1)) then (-1) else (IntKind.i64.wrap (v21 - 1))))] (congrArg (fun pp => ([(0, [], Value.pointer d), (17, [], Value.pointer pp), (23, [], Value.int .i64 (if (-1) > (IntKind.i64.wrap (v21 - 1)) then (-1) else (IntKind.i64.wrap (v21 - 1))))] : GEnv)) hp_13) ?_
        refine reg_run [.plain] 8 [(0, [], Value.pointer d), (17, [], Value.pointer (some ⟨(pblk d), (poff d), none⟩)), (23, [], Value.int .i64 (if (-1) > (IntKind.i64.wrap (v21 - 1)) then (-1) else (IntKind.i64.wrap (v21 - 1)))), (24, [], Value.pointer (some ⟨(pblk d), (poff d), none⟩))] (by kernel_rfl) (by kernel_rfl) ?_
        refine reg_run [.plain] 9 [(0, [], Value.pointer d), (23, [], Value.int .i64 (if (-1) > (IntKind.i64.wrap (v21 - 1)) then (-1) else (IntKind.i64.wrap (v21 - 1)))), (25, [], Value.pointer (some ⟨(pblk d), (poff d) + 4, none⟩))] (by kernel_rfl) (by kernel_rfl) ?_
        obtain ⟨hc, h⟩ := h
        refine reg_store (t := 3) (a := (Go.Operand.tmp 25)) (x := (Go.Operand.tmp 23)) (b := (pblk d)) (o := ((poff d) + 4)) (ty := 0) (dst := none) [Value.int .i64 (if (-1) > (IntKind.i64.wrap (v21 - 1)) then (-1) else (IntKind.i64.wrap (v21 - 1)))] (by kernel_rfl) (by kernel_rfl) (by kernel_rfl) (k := 1) (by kernel_rfl) (by kernel_rfl) (by kernel_rfl) hc (fun w3 hw => ?_)
        replace h := h w3 hw
        clear hw
        refine reg_end [(0, Value.pointer d)] (by kernel_rfl) (by kernel_rfl) ?_
        change WpE _ _ c_disk_Disk_raw_19 _ _ _
        refine wpE_seq (x := c_disk_Disk_raw_20) (y := c_disk_Disk_raw_22) (by kernel_rfl) ?_
        refine wpE_region (id := 5) (ops := r_disk_Disk_raw_20) (by kernel_rfl) ?_
        refine reg_run [.plain] 1 [(26, [], Value.pointer d)] (by kernel_rfl) (by kernel_rfl) ?_
        obtain ⟨hp_15, h⟩ := h
        refine reg_conv [(26, [], Value.pointer (some ⟨(pblk d), (poff d), none⟩))] (congrArg (fun pp => ([(26, [], Value.pointer pp)] : GEnv)) hp_15) ?_
        refine reg_run [.plain] 2 [(26, [], Value.pointer (some ⟨(pblk d), (poff d), none⟩)), (27, [], Value.pointer (some ⟨(pblk d), (poff d), none⟩))] (by kernel_rfl) (by kernel_rfl) ?_
        refine reg_run [.plain] 3 [(26, [], Value.pointer (some ⟨(pblk d), (poff d), none⟩)), (28, [], Value.pointer (some ⟨(pblk d), (poff d) + 6, none⟩))] (by kernel_rfl) (by kernel_rfl) ?_
        obtain ⟨v29, hc, h⟩ := h
        refine reg_load1 (t := 3) (a := (Go.Operand.tmp 28)) (b := (pblk d)) (o := ((poff d) + 6)) (ty := 3) (dst := some 29) (by kernel_rfl) (by kernel_rfl) (by kernel_rfl) hc ?_
        refine reg_run [.plain, .plain, .plain] 7 [(30, [], Value.int .i64 (IntKind.i64.wrap (v29 + 1))), (32, [], Value.pointer (some ⟨(pblk d), (poff d) + 6, none⟩))] (by kernel_rfl) (by kernel_rfl) ?_
        obtain ⟨hc, h⟩ := h
        refine reg_store (t := 3) (a := (Go.Operand.tmp 32)) (x := (Go.Operand.tmp 30)) (b := (pblk d)) (o := ((poff d) + 6)) (ty := 0) (dst := none) [Value.int .i64 (IntKind.i64.wrap (v29 + 1))] (by kernel_rfl) (by kernel_rfl) (by kernel_rfl) (k := 1) (by kernel_rfl) (by kernel_rfl) (by kernel_rfl) hc (fun w4 hw => ?_)
        replace h := h w4 hw
        clear hw
        refine reg_end [] (by kernel_rfl) (by kernel_rfl) ?_
        change WpE _ _ c_disk_Disk_raw_22 _ _ _
        refine wpE_seq (x := c_disk_Disk_raw_23) (y := c_disk_Disk_raw_25) (by kernel_rfl) ?_
        refine wpE_region (id := 6) (ops := r_disk_Disk_raw_23) (by kernel_rfl) ?_
        refine reg_run [.plain] 1 [(2, [], Value.int .i64 0)] (by kernel_rfl) (by kernel_rfl) ?_
        refine reg_end [(2, Value.int .i64 0)] (by kernel_rfl) (by kernel_rfl) ?_
        change WpE _ _ c_disk_Disk_raw_25 _ _ _
        refine wpE_ret (by kernel_rfl) ?_
        repeat (first | refine seqQ_ret ?_ | refine blockQ_ret ?_ | refine loopQ_ret ?_ | refine cutQ_ret ?_)
        exact retS (rs := [(Go.ResultVar.tmp 2)]) (v := Value.int .i64 0) (by kernel_rfl) (⟨by kernel_rfl, trivial⟩) ⟨0, rfl, h⟩
  · rintro e w' ⟨v, rfl, r0, rfl, h⟩; exact ⟨r0, rfl, h⟩
end Go.Proofs.YtckmganidgbpgaaGreatDoor
