/- WRITTEN BY PROGRAM (dec.py): for each Go function the clean formula F, the call's contract C, and the proof S that F gives C. -/
import Derived.Test.YtpedclhflmhakaaRows
import Derived.Test.YtpedclhflmhakaaGF
namespace Go.Proofs.Ytpedclhflmhakaa
open Go
set_option linter.unusedVariables false

/-! ### (*towpath/logfile.Source).Asked (function 16) -/
noncomputable def c_logfile_Source_Asked_0 : Code := (Try.f16.body).getD Code.skip
noncomputable def c_logfile_Source_Asked_1 : Code := Code.l c_logfile_Source_Asked_0
noncomputable def r_logfile_Source_Asked_1 : Array Oper := Code.ops c_logfile_Source_Asked_1
noncomputable def c_logfile_Source_Asked_3 : Code := Code.r c_logfile_Source_Asked_0
noncomputable def c_logfile_Source_Asked_4 : Code := Code.l c_logfile_Source_Asked_3
noncomputable def c_logfile_Source_Asked_5 : Code := Code.l c_logfile_Source_Asked_4
noncomputable def r_logfile_Source_Asked_5 : Array Oper := Code.ops c_logfile_Source_Asked_5
noncomputable def c_logfile_Source_Asked_7 : Code := Code.r c_logfile_Source_Asked_4
noncomputable def c_logfile_Source_Asked_8 : Code := Code.l c_logfile_Source_Asked_7
noncomputable def c_logfile_Source_Asked_9 : Code := Code.l c_logfile_Source_Asked_8
noncomputable def r_logfile_Source_Asked_9 : Array Oper := Code.ops c_logfile_Source_Asked_9
noncomputable def c_logfile_Source_Asked_11 : Code := Code.r c_logfile_Source_Asked_8
noncomputable def c_logfile_Source_Asked_12 : Code := Code.r c_logfile_Source_Asked_7
noncomputable def c_logfile_Source_Asked_13 : Code := Code.r c_logfile_Source_Asked_3
noncomputable def c_logfile_Source_Asked_14 : Code := Code.l c_logfile_Source_Asked_13
noncomputable def r_logfile_Source_Asked_14 : Array Oper := Code.ops c_logfile_Source_Asked_14
noncomputable def c_logfile_Source_Asked_16 : Code := Code.r c_logfile_Source_Asked_13

set_option maxRecDepth 100000 in
set_option maxHeartbeats 4000000 in
theorem S_logfile_Source_Asked {s : Option Addr} {w : World} {R : Slc → World → Prop} (h : F_logfile_Source_Asked s R w) : C_logfile_Source_Asked s w R := by
  unfold F_logfile_Source_Asked at h
  unfold C_logfile_Source_Asked
  refine Calls.mono (calls_of_wpE (args := [Value.pointer s]) (R := fun v w' => ∃ (r0 : Slc), v = Value.slice r0.ptr r0.len r0.cap ∧ R r0 w') Try.func16 (c := c_logfile_Source_Asked_0) (by kernel_rfl) 10 (by kernel_rfl) (by kernel_rfl) [(0, Value.pointer s)] (by kernel_rfl) ?_) ?_
  · refine wpE_seq (x := c_logfile_Source_Asked_1) (y := c_logfile_Source_Asked_3) (by kernel_rfl) ?_
    refine wpE_region (id := 0) (ops := r_logfile_Source_Asked_1) (by kernel_rfl) ?_
    refine reg_run [.plain] 1 [(0, [], Value.pointer s)] (by kernel_rfl) (by kernel_rfl) ?_
    refine reg_end [(0, Value.pointer s)] (by kernel_rfl) (by kernel_rfl) ?_
    change WpE _ _ c_logfile_Source_Asked_3 _ _ _
    refine wpE_seq (x := c_logfile_Source_Asked_4) (y := c_logfile_Source_Asked_13) (by kernel_rfl) ?_
    refine wpE_seq (x := c_logfile_Source_Asked_5) (y := c_logfile_Source_Asked_7) (by kernel_rfl) ?_
    refine wpE_region (id := 1) (ops := r_logfile_Source_Asked_5) (by kernel_rfl) ?_
    refine reg_run [.plain] 1 [(0, [], Value.pointer s), (3, [], Value.pointer s)] (by kernel_rfl) (by kernel_rfl) ?_
    refine reg_val (op := (Go.Op.binOp Go.BinOp.eql 28 (Go.Operand.tmp 3) (Go.Operand.const (Go.Value.pointer none)) 28)) (ty := 4) (dst := some 4) (Value.bool s.isNone) (by kernel_rfl) (fun ww => run_ptr_eql_R (p := s) (by kernel_rfl) (by kernel_rfl) (by kernel_rfl) ww) ?_
    refine reg_end [(0, Value.pointer s), (4, Value.bool s.isNone)] (by kernel_rfl) (by kernel_rfl) ?_
    change WpE _ _ c_logfile_Source_Asked_7 _ _ _
    refine wpE_cond (o := (Operand.tmp 4)) (b := s.isNone) (x := c_logfile_Source_Asked_8) (y := c_logfile_Source_Asked_12) (by kernel_rfl) (by kernel_rfl) (fun hb => ?_) (fun hb => ?_)
    · replace h := h.1 hb
      refine wpE_seq (x := c_logfile_Source_Asked_9) (y := c_logfile_Source_Asked_11) (by kernel_rfl) ?_
      refine wpE_region (id := 2) (ops := r_logfile_Source_Asked_9) (by kernel_rfl) ?_
      refine reg_run [.plain] 1 [(2, [], Value.slice none 0 0)] (by kernel_rfl) (by kernel_rfl) ?_
      refine reg_end [(2, Value.slice none 0 0)] (by kernel_rfl) (by kernel_rfl) ?_
      change WpE _ _ c_logfile_Source_Asked_11 _ _ _
      refine wpE_ret (by kernel_rfl) ?_
      repeat (first | refine seqQ_ret ?_ | refine blockQ_ret ?_ | refine loopQ_ret ?_ | refine cutQ_ret ?_)
      exact retS (rs := [(Go.ResultVar.tmp 2)]) (v := Value.slice none 0 0) (by kernel_rfl) (⟨by kernel_rfl, trivial⟩) ⟨(Slc.mk none 0 0), rfl, h⟩
    · replace h := h.2 hb
      refine wpE_skip (by kernel_rfl) ?_
      change WpE _ _ c_logfile_Source_Asked_13 _ _ _
      refine wpE_seq (x := c_logfile_Source_Asked_14) (y := c_logfile_Source_Asked_16) (by kernel_rfl) ?_
      refine wpE_region (id := 3) (ops := r_logfile_Source_Asked_14) (by kernel_rfl) ?_
      refine reg_run [.plain] 1 [(5, [], Value.pointer s)] (by kernel_rfl) (by kernel_rfl) ?_
      obtain ⟨hp_0, h⟩ := h
      refine reg_conv [(5, [], Value.pointer (some ⟨(pblk s), (poff s), none⟩))] (congrArg (fun pp => ([(5, [], Value.pointer pp)] : GEnv)) hp_0) ?_
      refine reg_run [.plain] 2 [(5, [], Value.pointer (some ⟨(pblk s), (poff s), none⟩)), (6, [], Value.pointer (some ⟨(pblk s), (poff s), none⟩))] (by kernel_rfl) (by kernel_rfl) ?_
      refine reg_run [.plain] 3 [(7, [], Value.pointer (some ⟨(pblk s), (poff s) + 2, none⟩))] (by kernel_rfl) (by kernel_rfl) ?_
      obtain ⟨v8, hc, h⟩ := h
      refine reg_load1 (t := 23) (a := (Go.Operand.tmp 7)) (b := (pblk s)) (o := ((poff s) + 2)) (ty := 23) (dst := some 8) (by kernel_rfl) (by kernel_rfl) (by kernel_rfl) hc ?_
      refine reg_run [] 4 [(8, [], Value.slice v8.ptr v8.len v8.cap)] (by kernel_rfl) (by kernel_rfl) ?_
      refine reg_enter (op := (Go.Op.call (Go.Call.mk (Go.Callee.value (Go.Operand.func 49)) #[(Go.Operand.tmp 8)] #[23]))) (ty := 23) (dst := some 9) 49 #[Value.slice v8.ptr v8.len v8.cap] (by kernel_rfl) (fun ww => by kernel_rfl) (Calls.mono h ?_)
      rintro _ w1 ⟨v9, rfl, h⟩
      refine ⟨_, rfl, ?_⟩
      refine reg_run [.plain] 6 [(2, [], Value.slice v9.ptr v9.len v9.cap)] (by kernel_rfl) (by kernel_rfl) ?_
      refine reg_end [(2, Value.slice v9.ptr v9.len v9.cap)] (by kernel_rfl) (by kernel_rfl) ?_
      change WpE _ _ c_logfile_Source_Asked_16 _ _ _
      refine wpE_ret (by kernel_rfl) ?_
      repeat (first | refine seqQ_ret ?_ | refine blockQ_ret ?_ | refine loopQ_ret ?_ | refine cutQ_ret ?_)
      exact retS (rs := [(Go.ResultVar.tmp 2)]) (v := Value.slice v9.ptr v9.len v9.cap) (by kernel_rfl) (⟨by kernel_rfl, trivial⟩) ⟨v9, rfl, h⟩
  · rintro e w' ⟨v, rfl, r0, rfl, h⟩; exact ⟨r0, rfl, h⟩

/-! ### towpath/logfile.New (function 40) -/
noncomputable def c_logfile_New_0 : Code := (Try.f40.body).getD Code.skip
noncomputable def c_logfile_New_1 : Code := Code.l c_logfile_New_0
noncomputable def r_logfile_New_1 : Array Oper := Code.ops c_logfile_New_1
noncomputable def c_logfile_New_3 : Code := Code.r c_logfile_New_0
noncomputable def c_logfile_New_4 : Code := Code.l c_logfile_New_3
noncomputable def c_logfile_New_5 : Code := Code.l c_logfile_New_4
noncomputable def r_logfile_New_5 : Array Oper := Code.ops c_logfile_New_5
noncomputable def c_logfile_New_7 : Code := Code.r c_logfile_New_4
noncomputable def c_logfile_New_8 : Code := Code.l c_logfile_New_7
noncomputable def r_logfile_New_8 : Array Oper := Code.ops c_logfile_New_8
noncomputable def c_logfile_New_10 : Code := Code.r c_logfile_New_7
noncomputable def c_logfile_New_11 : Code := Code.l c_logfile_New_10
noncomputable def c_logfile_New_12 : Code := Code.l c_logfile_New_11
noncomputable def r_logfile_New_12 : Array Oper := Code.ops c_logfile_New_12
noncomputable def c_logfile_New_14 : Code := Code.r c_logfile_New_11
noncomputable def c_logfile_New_15 : Code := Code.r c_logfile_New_10
noncomputable def c_logfile_New_16 : Code := Code.r c_logfile_New_3
noncomputable def c_logfile_New_17 : Code := Code.l c_logfile_New_16
noncomputable def r_logfile_New_17 : Array Oper := Code.ops c_logfile_New_17
noncomputable def c_logfile_New_19 : Code := Code.r c_logfile_New_16
noncomputable def c_logfile_New_20 : Code := Code.l c_logfile_New_19
noncomputable def c_logfile_New_21 : Code := Code.l c_logfile_New_20
noncomputable def r_logfile_New_21 : Array Oper := Code.ops c_logfile_New_21
noncomputable def c_logfile_New_23 : Code := Code.r c_logfile_New_20
noncomputable def c_logfile_New_24 : Code := Code.l c_logfile_New_23
noncomputable def c_logfile_New_25 : Code := Code.l c_logfile_New_24
noncomputable def c_logfile_New_26 : Code := Code.l c_logfile_New_25
noncomputable def r_logfile_New_26 : Array Oper := Code.ops c_logfile_New_26
noncomputable def c_logfile_New_28 : Code := Code.r c_logfile_New_25
noncomputable def c_logfile_New_29 : Code := Code.l c_logfile_New_28
noncomputable def c_logfile_New_30 : Code := Code.l c_logfile_New_29
noncomputable def c_logfile_New_31 : Code := Code.r c_logfile_New_29
noncomputable def c_logfile_New_32 : Code := Code.r c_logfile_New_28
noncomputable def c_logfile_New_33 : Code := Code.l c_logfile_New_32
noncomputable def c_logfile_New_34 : Code := Code.l c_logfile_New_33
noncomputable def c_logfile_New_35 : Code := Code.l c_logfile_New_34
noncomputable def r_logfile_New_35 : Array Oper := Code.ops c_logfile_New_35
noncomputable def c_logfile_New_37 : Code := Code.r c_logfile_New_34
noncomputable def r_logfile_New_37 : Array Oper := Code.ops c_logfile_New_37
noncomputable def c_logfile_New_39 : Code := Code.r c_logfile_New_32
noncomputable def r_logfile_New_39 : Array Oper := Code.ops c_logfile_New_39
noncomputable def c_logfile_New_41 : Code := Code.r c_logfile_New_19
noncomputable def c_logfile_New_42 : Code := Code.l c_logfile_New_41
noncomputable def r_logfile_New_42 : Array Oper := Code.ops c_logfile_New_42
noncomputable def c_logfile_New_44 : Code := Code.r c_logfile_New_41
def o_logfile_New_37 : List Nat := [0, 1, 2, 3, 4, 5, 6, 7, 8, 9, 10, 11]

set_option maxRecDepth 100000 in
set_option maxHeartbeats 4000000 in
theorem S_logfile_New {l_ : Slc} {w : World} {R : Option Addr → Int → World → Prop} (h : F_logfile_New l_ R w) : C_logfile_New l_ w R := by
  unfold F_logfile_New at h
  unfold C_logfile_New
  refine Calls.mono (calls_of_wpE (args := [Value.slice l_.ptr l_.len l_.cap]) (R := fun v w' => ∃ (r0 : Option Addr) (r1 : Int), v = Value.tuple #[Value.pointer r0, Value.int .i64 r1] ∧ R r0 r1 w') Try.func40 (c := c_logfile_New_0) (by kernel_rfl) 34 (by kernel_rfl) (by kernel_rfl) [(0, Value.slice l_.ptr l_.len l_.cap)] (by kernel_rfl) ?_) ?_
  · refine wpE_seq (x := c_logfile_New_1) (y := c_logfile_New_3) (by kernel_rfl) ?_
    refine wpE_region (id := 0) (ops := r_logfile_New_1) (by kernel_rfl) ?_
    refine reg_run [.plain, .plain] 2 [(0, [], Value.slice l_.ptr l_.len l_.cap)] (by kernel_rfl) (by kernel_rfl) ?_
    refine reg_end [(0, Value.slice l_.ptr l_.len l_.cap)] (by kernel_rfl) (by kernel_rfl) ?_
    change WpE _ _ c_logfile_New_3 _ _ _
    refine wpE_seq (x := c_logfile_New_4) (y := c_logfile_New_16) (by kernel_rfl) ?_
    refine wpE_seq (x := c_logfile_New_5) (y := c_logfile_New_7) (by kernel_rfl) ?_
    refine wpE_region (id := 1) (ops := r_logfile_New_5) (by kernel_rfl) ?_
    refine reg_run [.plain] 1 [(0, [], Value.slice l_.ptr l_.len l_.cap), (8, [], Value.slice l_.ptr l_.len l_.cap)] (by kernel_rfl) (by kernel_rfl) ?_
    refine reg_enter (op := (Go.Op.call (Go.Call.mk (Go.Callee.value (Go.Operand.func 80)) #[(Go.Operand.tmp 8)] #[22]))) (ty := 32) (dst := some 9) 80 #[Value.slice l_.ptr l_.len l_.cap] (by kernel_rfl) (fun ww => by kernel_rfl) (Calls.mono h ?_)
    rintro _ w1 ⟨v9, rfl, h⟩
    refine ⟨_, rfl, ?_⟩
    refine reg_run [.plain] 3 [(0, [], Value.slice l_.ptr l_.len l_.cap), (4, [], Value.int .i64 v9)] (by kernel_rfl) (by kernel_rfl) ?_
    refine reg_end [(0, Value.slice l_.ptr l_.len l_.cap), (4, Value.int .i64 v9)] (by kernel_rfl) (by kernel_rfl) ?_
    change WpE _ _ c_logfile_New_7 _ _ _
    refine wpE_seq (x := c_logfile_New_8) (y := c_logfile_New_10) (by kernel_rfl) ?_
    refine wpE_region (id := 2) (ops := r_logfile_New_8) (by kernel_rfl) ?_
    refine reg_run [.plain, .plain] 2 [(0, [], Value.slice l_.ptr l_.len l_.cap), (4, [], Value.int .i64 v9), (11, [], Value.bool (v9 != 0))] (by kernel_rfl) (by kernel_rfl) ?_
    refine reg_end [(0, Value.slice l_.ptr l_.len l_.cap), (4, Value.int .i64 v9), (11, Value.bool (v9 != 0))] (by kernel_rfl) (by kernel_rfl) ?_
    change WpE _ _ c_logfile_New_10 _ _ _
    refine wpE_cond (o := (Operand.tmp 11)) (b := (v9 != 0)) (x := c_logfile_New_11) (y := c_logfile_New_15) (by kernel_rfl) (by kernel_rfl) (fun hb => ?_) (fun hb => ?_)
    · replace h := h.1 hb
      refine wpE_seq (x := c_logfile_New_12) (y := c_logfile_New_14) (by kernel_rfl) ?_
      refine wpE_region (id := 3) (ops := r_logfile_New_12) (by kernel_rfl) ?_
      refine reg_run [.plain, .plain, .plain] 3 [(2, [], Value.pointer none), (3, [], Value.int .i64 v9)] (by kernel_rfl) (by kernel_rfl) ?_
      refine reg_end [(2, Value.pointer none), (3, Value.int .i64 v9)] (by kernel_rfl) (by kernel_rfl) ?_
      change WpE _ _ c_logfile_New_14 _ _ _
      refine wpE_ret (by kernel_rfl) ?_
      repeat (first | refine seqQ_ret ?_ | refine blockQ_ret ?_ | refine loopQ_ret ?_ | refine cutQ_ret ?_)
      exact retT (rs := [(Go.ResultVar.tmp 2), (Go.ResultVar.tmp 3)]) (vs := [Value.pointer none, Value.int .i64 v9]) (by kernel_rfl) (⟨by kernel_rfl, ⟨by kernel_rfl, trivial⟩⟩) (by kernel_rfl) ⟨none, v9, rfl, h⟩
    · replace h := h.2 hb
      refine wpE_skip (by kernel_rfl) ?_
      change WpE _ _ c_logfile_New_16 _ _ _
      refine wpE_seq (x := c_logfile_New_17) (y := c_logfile_New_19) (by kernel_rfl) ?_
      refine wpE_region (id := 4) (ops := r_logfile_New_17) (by kernel_rfl) ?_
      refine reg_run [.plain] 1 [(0, [], Value.slice l_.ptr l_.len l_.cap), (13, [], Value.agg #[Value.bool true, Value.slice none 0 0, Value.slice none 0 0])] (by kernel_rfl) (by kernel_rfl) ?_
      refine reg_new (op := (Go.Op.box 116 (Go.Operand.tmp 13))) (ty := 28) (dst := some 14) (fun bb => Value.pointer (some ⟨bb, 0, none⟩)) (Obj.cells ([Value.bool true, Value.slice none 0 0, Value.slice none 0 0]).toArray ty_logfile_Source (0, 0)) (by kernel_rfl) (by kernel_rfl) (fun b_ w2 hb hw => ?_)
      replace h := h b_ w2 hb hw
      clear hb hw
      refine reg_run [.plain] 3 [(0, [], Value.slice l_.ptr l_.len l_.cap), (5, [], Value.pointer (some ⟨b_, 0, none⟩))] (by kernel_rfl) (by kernel_rfl) ?_
      refine reg_end [(0, Value.slice l_.ptr l_.len l_.cap), (5, Value.pointer (some ⟨b_, 0, none⟩))] (by kernel_rfl) (by kernel_rfl) ?_
      change WpE _ _ c_logfile_New_19 _ _ _
      refine wpE_seq (x := c_logfile_New_20) (y := c_logfile_New_41) (by kernel_rfl) ?_
      refine wpE_seq (x := c_logfile_New_21) (y := c_logfile_New_23) (by kernel_rfl) ?_
      refine wpE_region (id := 5) (ops := r_logfile_New_21) (by kernel_rfl) ?_
      refine reg_run [.plain, .plain, .plain] 3 [(5, [], Value.pointer (some ⟨b_, 0, none⟩)), (15, [], Value.slice l_.ptr l_.len l_.cap), (16, [], Value.int .i64 ((l_.len : Nat) : Int)), (17, [], Value.int .i64 0)] (by kernel_rfl) (by kernel_rfl) ?_
      refine reg_end [(5, Value.pointer (some ⟨b_, 0, none⟩)), (15, Value.slice l_.ptr l_.len l_.cap), (16, Value.int .i64 ((l_.len : Nat) : Int)), (17, Value.int .i64 0)] (by kernel_rfl) (by kernel_rfl) ?_
      change WpE _ _ c_logfile_New_23 _ _ _
      refine wpE_block (id := 0) (x := c_logfile_New_24) (by kernel_rfl) ?_
      obtain ⟨I, μ, h0, hr⟩ := h
      refine wpE_loop (x := c_logfile_New_25) (by kernel_rfl) (fun m l w => ∃ (t17 : Int), l = [(5, Value.pointer (some ⟨b_, 0, none⟩)), (15, Value.slice l_.ptr l_.len l_.cap), (16, Value.int .i64 ((l_.len : Nat) : Int)), (17, Value.int .i64 t17)] ∧ I t17 w ∧ μ t17 w = m) (l' := [(5, Value.pointer (some ⟨b_, 0, none⟩)), (15, Value.slice l_.ptr l_.len l_.cap), (16, Value.int .i64 ((l_.len : Nat) : Int)), (17, Value.int .i64 0)]) (Sub.mk (by kernel_rfl)) ⟨0, rfl, h0, rfl⟩ ?_
      rintro _ _ w3 ⟨t17, rfl, hI, rfl⟩
      obtain ⟨again_, again__h, h⟩ : ∃ again_ : Int → World → Prop, (∀ t17' w', again_ t17' w' → I t17' w' ∧ μ t17' w' < μ t17 w3) ∧ F_logfile_New_L0 l_ R b_ again_ t17 w3 := ⟨_, fun _ _ h => h, hr t17 w3 hI⟩
      clear h0 hI
      unfold F_logfile_New_L0 at h
      refine wpE_seq (x := c_logfile_New_26) (y := c_logfile_New_28) (by kernel_rfl) ?_
      refine wpE_region (id := 6) (ops := r_logfile_New_26) (by kernel_rfl) ?_
      refine reg_run [.plain] 1 [(5, [], Value.pointer (some ⟨b_, 0, none⟩)), (15, [], Value.slice l_.ptr l_.len l_.cap), (16, [], Value.int .i64 ((l_.len : Nat) : Int)), (17, [], Value.int .i64 t17), (18, [], Value.bool (decide (t17 < ((l_.len : Nat) : Int))))] (by kernel_rfl) (by kernel_rfl) ?_
      refine reg_end [(5, Value.pointer (some ⟨b_, 0, none⟩)), (15, Value.slice l_.ptr l_.len l_.cap), (16, Value.int .i64 ((l_.len : Nat) : Int)), (17, Value.int .i64 t17), (18, Value.bool (decide (t17 < ((l_.len : Nat) : Int))))] (by kernel_rfl) (by kernel_rfl) ?_
      change WpE _ _ c_logfile_New_28 _ _ _
      refine wpE_seq (x := c_logfile_New_29) (y := c_logfile_New_32) (by kernel_rfl) ?_
      refine wpE_cond (o := (Operand.tmp 18)) (b := (decide (t17 < ((l_.len : Nat) : Int)))) (x := c_logfile_New_30) (y := c_logfile_New_31) (by kernel_rfl) (by kernel_rfl) (fun hb => ?_) (fun hb => ?_)
      · replace h := h.1 hb
        refine wpE_skip (by kernel_rfl) ?_
        change WpE _ _ c_logfile_New_32 _ _ _
        refine wpE_seq (x := c_logfile_New_33) (y := c_logfile_New_39) (by kernel_rfl) ?_
        refine wpE_block (id := 1) (x := c_logfile_New_34) (by kernel_rfl) ?_
        refine wpE_seq (x := c_logfile_New_35) (y := c_logfile_New_37) (by kernel_rfl) ?_
        refine wpE_region (id := 7) (ops := r_logfile_New_35) (by kernel_rfl) ?_
        refine reg_run [] 0 [(5, [], Value.pointer (some ⟨b_, 0, none⟩)), (15, [], Value.slice l_.ptr l_.len l_.cap), (16, [], Value.int .i64 ((l_.len : Nat) : Int)), (17, [], Value.int .i64 t17)] (by kernel_rfl) (by kernel_rfl) ?_
        obtain ⟨hp_7, h⟩ := h
        refine reg_conv [(5, [], Value.pointer (some ⟨b_, 0, none⟩)), (15, [], Value.slice (some ⟨(pblk l_.ptr), (poff l_.ptr), none⟩) l_.len l_.cap), (16, [], Value.int .i64 ((l_.len : Nat) : Int)), (17, [], Value.int .i64 t17)] (congrArg (fun pp => ([(5, [], Value.pointer (some ⟨b_, 0, none⟩)), (15, [], Value.slice pp l_.len l_.cap), (16, [], Value.int .i64 ((l_.len : Nat) : Int)), (17, [], Value.int .i64 t17)] : GEnv)) hp_7) ?_
        obtain ⟨h0, h1, h⟩ := h
        refine reg_indexS (t := 22) (e := 42) (x := (Go.Operand.tmp 15)) (ix := (Go.Operand.tmp 17)) (b := (pblk l_.ptr)) (o := (poff l_.ptr)) (l := l_.len) (c := l_.cap) (k := .i64) (j := t17) (ty := 0) (dst := some 19) (sz := 2) (by kernel_rfl) (by kernel_rfl) (by kernel_rfl) (by kernel_rfl) (by kernel_rfl) h0 h1 ?_
        refine reg_run [] 1 [(5, [], Value.pointer (some ⟨b_, 0, none⟩)), (15, [], Value.slice (some ⟨(pblk l_.ptr), (poff l_.ptr), none⟩) l_.len l_.cap), (16, [], Value.int .i64 ((l_.len : Nat) : Int)), (17, [], Value.int .i64 t17), (19, [], Value.pointer (some ⟨(pblk l_.ptr), (poff l_.ptr) + t17.toNat * 2, none⟩))] (by kernel_rfl) (by kernel_rfl) ?_
        obtain ⟨v20, hc, h⟩ := h
        refine reg_loadN (t := 42) (a := (Go.Operand.tmp 19)) (b := (pblk l_.ptr)) (o := ((poff l_.ptr) + t17.toNat * 2)) (ty := 42) (dst := some 20) [Value.int .i64 v20.Number, Value.slice v20.Writes.ptr v20.Writes.len v20.Writes.cap] (by kernel_rfl) (by kernel_rfl) (by kernel_rfl) (k := 2) (by kernel_rfl) (by kernel_rfl) hc ?_
        refine reg_run [] 2 [(5, [], Value.pointer (some ⟨b_, 0, none⟩)), (15, [], Value.slice (some ⟨(pblk l_.ptr), (poff l_.ptr), none⟩) l_.len l_.cap), (16, [], Value.int .i64 ((l_.len : Nat) : Int)), (17, [], Value.int .i64 t17), (20, [], Value.agg #[Value.int .i64 v20.Number, Value.slice v20.Writes.ptr v20.Writes.len v20.Writes.cap])] (by kernel_rfl) (by kernel_rfl) ?_
        refine reg_new (op := (Go.Op.alloc 42)) (ty := 0) (dst := some 7) (fun bb => Value.pointer (some ⟨bb, 0, none⟩)) (Obj.cells ([Value.int .i64 0, Value.slice none 0 0]).toArray ty_api_Txn (0, 0)) (by kernel_rfl) (by kernel_rfl) (fun b_1 w4 hb hw => ?_)
        replace h := h b_1 w4 hb hw
        clear hb hw
        refine reg_run [] 3 [(5, [], Value.pointer (some ⟨b_, 0, none⟩)), (7, [], Value.pointer (some ⟨b_1, 0, none⟩)), (15, [], Value.slice (some ⟨(pblk l_.ptr), (poff l_.ptr), none⟩) l_.len l_.cap), (16, [], Value.int .i64 ((l_.len : Nat) : Int)), (17, [], Value.int .i64 t17), (20, [], Value.agg #[Value.int .i64 v20.Number, Value.slice v20.Writes.ptr v20.Writes.len v20.Writes.cap])] (by kernel_rfl) (by kernel_rfl) ?_
        obtain ⟨hc, h⟩ := h
        refine reg_store (t := 42) (a := (Go.Operand.tmp 7)) (x := (Go.Operand.tmp 20)) (b := b_1) (o := 0) (ty := 0) (dst := none) [Value.int .i64 v20.Number, Value.slice v20.Writes.ptr v20.Writes.len v20.Writes.cap] (by kernel_rfl) (by kernel_rfl) (by kernel_rfl) (k := 2) (by kernel_rfl) (by kernel_rfl) (by kernel_rfl) hc (fun w5 hw => ?_)
        replace h := h w5 hw
        clear hw
        refine reg_run [] 4 [(5, [], Value.pointer (some ⟨b_, 0, none⟩)), (7, [], Value.pointer (some ⟨b_1, 0, none⟩)), (15, [], Value.slice (some ⟨(pblk l_.ptr), (poff l_.ptr), none⟩) l_.len l_.cap), (16, [], Value.int .i64 ((l_.len : Nat) : Int)), (17, [], Value.int .i64 t17)] (by kernel_rfl) (by kernel_rfl) ?_
        refine reg_conv [(5, [], Value.pointer (some ⟨b_, 0, none⟩)), (7, [], Value.pointer (some ⟨b_1, 0, none⟩)), (15, [], Value.slice l_.ptr l_.len l_.cap), (16, [], Value.int .i64 ((l_.len : Nat) : Int)), (17, [], Value.int .i64 t17)] (congrArg (fun pp => ([(5, [], Value.pointer (some ⟨b_, 0, none⟩)), (7, [], Value.pointer (some ⟨b_1, 0, none⟩)), (15, [], Value.slice pp l_.len l_.cap), (16, [], Value.int .i64 ((l_.len : Nat) : Int)), (17, [], Value.int .i64 t17)] : GEnv)) hp_7.symm) ?_
        refine reg_end [(5, Value.pointer (some ⟨b_, 0, none⟩)), (7, Value.pointer (some ⟨b_1, 0, none⟩)), (15, Value.slice l_.ptr l_.len l_.cap), (16, Value.int .i64 ((l_.len : Nat) : Int)), (17, Value.int .i64 t17)] (by kernel_rfl) (by kernel_rfl) ?_
        change WpE _ _ c_logfile_New_37 _ _ _
        refine wpE_mixregion (id := 8) (ops := r_logfile_New_37) o_logfile_New_37 (by kernel_rfl) (by kernel_rfl) (by kernel_rfl) (by kernel_rfl) (fun w6 hw => ?_)
        replace h := h w6 hw
        clear hw
        refine mreg_run [.plain, .plain, .plain, .plain] 4 [(5, [], Value.pointer (some ⟨b_, 0, none⟩)), (7, [], Value.pointer (some ⟨b_1, 0, none⟩)), (15, [], Value.slice l_.ptr l_.len l_.cap), (16, [], Value.int .i64 ((l_.len : Nat) : Int)), (17, [], Value.int .i64 t17), (21, [], Value.pointer (some ⟨b_, 0, none⟩)), (24, [], Value.pointer (some ⟨b_, 1, none⟩))] (by kernel_rfl) (by kernel_rfl) ?_
        obtain ⟨v25, hc, h⟩ := h
        refine mreg_load1 (i := 4) (by kernel_rfl) (t := 22) (a := (Go.Operand.tmp 24)) (b := b_) (o := 1) (ty := 22) (dst := some 25) (by kernel_rfl) (by kernel_rfl) (by kernel_rfl) hc ?_
        refine mreg_run [] 5 [(5, [], Value.pointer (some ⟨b_, 0, none⟩)), (7, [], Value.pointer (some ⟨b_1, 0, none⟩)), (15, [], Value.slice l_.ptr l_.len l_.cap), (16, [], Value.int .i64 ((l_.len : Nat) : Int)), (17, [], Value.int .i64 t17), (21, [], Value.pointer (some ⟨b_, 0, none⟩)), (25, [], Value.slice v25.ptr v25.len v25.cap)] (by kernel_rfl) (by kernel_rfl) ?_
        obtain ⟨v26, hc, h⟩ := h
        refine mreg_loadN (i := 5) (by kernel_rfl) (t := 42) (a := (Go.Operand.tmp 7)) (b := b_1) (o := 0) (ty := 42) (dst := some 26) [Value.int .i64 v26.Number, Value.slice v26.Writes.ptr v26.Writes.len v26.Writes.cap] (by kernel_rfl) (by kernel_rfl) (by kernel_rfl) (k := 2) (by kernel_rfl) (by kernel_rfl) hc ?_
        refine mreg_run [] 6 [(5, [], Value.pointer (some ⟨b_, 0, none⟩)), (15, [], Value.slice l_.ptr l_.len l_.cap), (16, [], Value.int .i64 ((l_.len : Nat) : Int)), (17, [], Value.int .i64 t17), (21, [], Value.pointer (some ⟨b_, 0, none⟩)), (25, [], Value.slice v25.ptr v25.len v25.cap), (26, [], Value.agg #[Value.int .i64 v26.Number, Value.slice v26.Writes.ptr v26.Writes.len v26.Writes.cap])] (by kernel_rfl) (by kernel_rfl) ?_
        refine mreg_enter (op := (Go.Op.call (Go.Call.mk (Go.Callee.value (Go.Operand.func 81)) #[(Go.Operand.tmp 26)] #[42]))) (ty := 42) (dst := some 27) 6 [5] [(4, fun w' => w'.cell? ⟨b_, 1, none⟩ = some (Value.slice v25.ptr v25.len v25.cap))] 81 #[Value.agg #[Value.int .i64 v26.Number, Value.slice v26.Writes.ptr v26.Writes.len v26.Writes.cap]] (by kernel_rfl) (by kernel_rfl) (by kernel_rfl) (by kernel_rfl) (by kernel_rfl) (fun ww => by kernel_rfl) (Calls.mono h ?_)
        rintro _ w7 ⟨v27, rfl, h⟩
        obtain ⟨hk0, h⟩ := h
        refine ⟨_, rfl, ⟨hk0, trivial⟩, ?_⟩
        refine mreg_run [] 7 [(5, [], Value.pointer (some ⟨b_, 0, none⟩)), (15, [], Value.slice l_.ptr l_.len l_.cap), (16, [], Value.int .i64 ((l_.len : Nat) : Int)), (17, [], Value.int .i64 t17), (21, [], Value.pointer (some ⟨b_, 0, none⟩)), (25, [], Value.slice v25.ptr v25.len v25.cap), (27, [], Value.agg #[Value.int .i64 v27.Number, Value.slice v27.Writes.ptr v27.Writes.len v27.Writes.cap])] (by kernel_rfl) (by kernel_rfl) ?_
        refine mreg_new (op := (Go.Op.buildSlice 22 1 #[(0, (Go.Operand.tmp 27))])) (ty := 22) (dst := some 28) 7 [6, 5] [(4, fun w' => w'.cell? ⟨b_, 1, none⟩ = some (Value.slice v25.ptr v25.len v25.cap))] (fun bb => Value.slice (some ⟨bb, 0, none⟩) 1 1) (Obj.cells ([Value.int .i64 v27.Number, Value.slice v27.Writes.ptr v27.Writes.len v27.Writes.cap]).toArray ty_api_Txn (0, 0)) (by kernel_rfl) (by kernel_rfl) (by kernel_rfl) (by kernel_rfl) (by kernel_rfl) (by kernel_rfl) (fun b_2 w8 hb hw => ?_)
        replace h := h b_2 w8 hb hw
        clear hb hw
        obtain ⟨hk0, h⟩ := h
        refine ⟨⟨hk0, trivial⟩, ?_⟩
        refine mreg_run [] 8 [(5, [], Value.pointer (some ⟨b_, 0, none⟩)), (15, [], Value.slice l_.ptr l_.len l_.cap), (16, [], Value.int .i64 ((l_.len : Nat) : Int)), (17, [], Value.int .i64 t17), (21, [], Value.pointer (some ⟨b_, 0, none⟩)), (25, [], Value.slice v25.ptr v25.len v25.cap), (28, [], Value.slice (some ⟨b_2, 0, none⟩) 1 1)] (by kernel_rfl) (by kernel_rfl) ?_
        obtain ⟨src, hs, h⟩ := h
        refine mreg_append (t := 22) (tx := 22) (e := 42) (a := (Go.Operand.tmp 25)) (xo := (Go.Operand.tmp 28)) (s := v25) (x := (Slc.mk (some ⟨b_2, 0, none⟩) 1 1)) (sz := 2) (by_ := 32) (zs := [Value.int .i64 0, Value.slice none 0 0]) (ty := 22) (dst := some 29) 8 [4, 6, 7, 3, 5, 2, 1] [] src (by kernel_rfl) (by kernel_rfl) (by kernel_rfl) (by kernel_rfl) (by kernel_rfl) (by kernel_rfl) (by kernel_rfl) (by kernel_rfl) (by kernel_rfl) (by kernel_rfl) (by kernel_rfl) (by kernel_rfl) (by kernel_rfl) hs (AppendW.mono h (fun v29 w9 h => ?_))
        refine ⟨trivial, ?_⟩
        refine mreg_run [.plain, .plain] 11 [(5, [], Value.pointer (some ⟨b_, 0, none⟩)), (15, [], Value.slice l_.ptr l_.len l_.cap), (16, [], Value.int .i64 ((l_.len : Nat) : Int)), (17, [], Value.int .i64 t17), (29, [], Value.slice v29.ptr v29.len v29.cap), (31, [], Value.pointer (some ⟨b_, 1, none⟩))] (by kernel_rfl) (by kernel_rfl) ?_
        obtain ⟨hc, h⟩ := h
        refine mreg_store (t := 22) (a := (Go.Operand.tmp 31)) (x := (Go.Operand.tmp 29)) (b := b_) (o := 1) (k := 1) (ty := 0) (dst := none) 11 [0, 1, 2, 3, 4, 5, 6, 7, 8, 10, 9] [] [Value.slice v29.ptr v29.len v29.cap] (by kernel_rfl) (by kernel_rfl) (by kernel_rfl) (by kernel_rfl) (by kernel_rfl) (by kernel_rfl) (by kernel_rfl) (by kernel_rfl) (by kernel_rfl) (by kernel_rfl) hc (fun w10 hw => ?_)
        replace h := h w10 hw
        clear hw
        refine ⟨trivial, ?_⟩
        refine mreg_end [(5, Value.pointer (some ⟨b_, 0, none⟩)), (15, Value.slice l_.ptr l_.len l_.cap), (16, Value.int .i64 ((l_.len : Nat) : Int)), (17, Value.int .i64 t17)] (by kernel_rfl) (by kernel_rfl) (by kernel_rfl) ?_
        change WpE _ _ c_logfile_New_39 _ _ _
        refine wpE_region (id := 9) (ops := r_logfile_New_39) (by kernel_rfl) ?_
        refine reg_run [.plain, .plain] 2 [(5, [], Value.pointer (some ⟨b_, 0, none⟩)), (15, [], Value.slice l_.ptr l_.len l_.cap), (16, [], Value.int .i64 ((l_.len : Nat) : Int)), (17, [], Value.int .i64 (IntKind.i64.wrap (t17 + 1)))] (by kernel_rfl) (by kernel_rfl) ?_
        refine reg_end [(5, Value.pointer (some ⟨b_, 0, none⟩)), (15, Value.slice l_.ptr l_.len l_.cap), (16, Value.int .i64 ((l_.len : Nat) : Int)), (17, Value.int .i64 (IntKind.i64.wrap (t17 + 1)))] (by kernel_rfl) (by kernel_rfl) ?_
        have hb_ := again__h _ _ h
        exact ⟨_, hb_.2, [(5, Value.pointer (some ⟨b_, 0, none⟩)), (15, Value.slice l_.ptr l_.len l_.cap), (16, Value.int .i64 ((l_.len : Nat) : Int)), (17, Value.int .i64 (IntKind.i64.wrap (t17 + 1)))], Sub.mk (by kernel_rfl), (IntKind.i64.wrap (t17 + 1)), rfl, hb_.1, rfl⟩
      · replace h := h.2 hb
        refine wpE_exit (id := 0) (by kernel_rfl) ?_
        change WpE _ _ c_logfile_New_41 _ _ _
        refine wpE_seq (x := c_logfile_New_42) (y := c_logfile_New_44) (by kernel_rfl) ?_
        refine wpE_region (id := 10) (ops := r_logfile_New_42) (by kernel_rfl) ?_
        refine reg_run [.plain, .plain, .plain] 3 [(2, [], Value.pointer (some ⟨b_, 0, none⟩)), (3, [], Value.int .i64 0)] (by kernel_rfl) (by kernel_rfl) ?_
        refine reg_end [(2, Value.pointer (some ⟨b_, 0, none⟩)), (3, Value.int .i64 0)] (by kernel_rfl) (by kernel_rfl) ?_
        change WpE _ _ c_logfile_New_44 _ _ _
        refine wpE_ret (by kernel_rfl) ?_
        repeat (first | refine seqQ_ret ?_ | refine blockQ_ret ?_ | refine loopQ_ret ?_ | refine cutQ_ret ?_)
        exact retT (rs := [(Go.ResultVar.tmp 2), (Go.ResultVar.tmp 3)]) (vs := [Value.pointer (some ⟨b_, 0, none⟩), Value.int .i64 0]) (by kernel_rfl) (⟨by kernel_rfl, ⟨by kernel_rfl, trivial⟩⟩) (by kernel_rfl) ⟨(some ⟨b_, 0, none⟩), 0, rfl, h⟩
  · rintro e w' ⟨v, rfl, r0, r1, rfl, h⟩; exact ⟨r0, r1, rfl, h⟩

/-! ### (*towpath/logfile.Source).Last (function 47) -/
noncomputable def c_logfile_Source_Last_0 : Code := (Try.f47.body).getD Code.skip
noncomputable def c_logfile_Source_Last_1 : Code := Code.l c_logfile_Source_Last_0
noncomputable def r_logfile_Source_Last_1 : Array Oper := Code.ops c_logfile_Source_Last_1
noncomputable def c_logfile_Source_Last_3 : Code := Code.r c_logfile_Source_Last_0
noncomputable def c_logfile_Source_Last_4 : Code := Code.l c_logfile_Source_Last_3
noncomputable def c_logfile_Source_Last_5 : Code := Code.l c_logfile_Source_Last_4
noncomputable def r_logfile_Source_Last_5 : Array Oper := Code.ops c_logfile_Source_Last_5
noncomputable def c_logfile_Source_Last_7 : Code := Code.r c_logfile_Source_Last_4
noncomputable def c_logfile_Source_Last_8 : Code := Code.l c_logfile_Source_Last_7
noncomputable def c_logfile_Source_Last_9 : Code := Code.l c_logfile_Source_Last_8
noncomputable def r_logfile_Source_Last_9 : Array Oper := Code.ops c_logfile_Source_Last_9
noncomputable def c_logfile_Source_Last_11 : Code := Code.r c_logfile_Source_Last_8
noncomputable def c_logfile_Source_Last_12 : Code := Code.r c_logfile_Source_Last_7
noncomputable def c_logfile_Source_Last_13 : Code := Code.r c_logfile_Source_Last_3
noncomputable def c_logfile_Source_Last_14 : Code := Code.l c_logfile_Source_Last_13
noncomputable def r_logfile_Source_Last_14 : Array Oper := Code.ops c_logfile_Source_Last_14
noncomputable def c_logfile_Source_Last_16 : Code := Code.r c_logfile_Source_Last_13

set_option maxRecDepth 100000 in
set_option maxHeartbeats 4000000 in
theorem S_logfile_Source_Last {s : Option Addr} {w : World} {R : Int → World → Prop} (h : F_logfile_Source_Last s R w) : C_logfile_Source_Last s w R := by
  unfold F_logfile_Source_Last at h
  unfold C_logfile_Source_Last
  refine Calls.mono (calls_of_wpE (args := [Value.pointer s]) (R := fun v w' => ∃ (r0 : Int), v = Value.int .i64 r0 ∧ R r0 w') Try.func47 (c := c_logfile_Source_Last_0) (by kernel_rfl) 10 (by kernel_rfl) (by kernel_rfl) [(0, Value.pointer s)] (by kernel_rfl) ?_) ?_
  · refine wpE_seq (x := c_logfile_Source_Last_1) (y := c_logfile_Source_Last_3) (by kernel_rfl) ?_
    refine wpE_region (id := 0) (ops := r_logfile_Source_Last_1) (by kernel_rfl) ?_
    refine reg_run [.plain] 1 [(0, [], Value.pointer s)] (by kernel_rfl) (by kernel_rfl) ?_
    refine reg_end [(0, Value.pointer s)] (by kernel_rfl) (by kernel_rfl) ?_
    change WpE _ _ c_logfile_Source_Last_3 _ _ _
    refine wpE_seq (x := c_logfile_Source_Last_4) (y := c_logfile_Source_Last_13) (by kernel_rfl) ?_
    refine wpE_seq (x := c_logfile_Source_Last_5) (y := c_logfile_Source_Last_7) (by kernel_rfl) ?_
    refine wpE_region (id := 1) (ops := r_logfile_Source_Last_5) (by kernel_rfl) ?_
    refine reg_run [.plain] 1 [(0, [], Value.pointer s), (3, [], Value.pointer s)] (by kernel_rfl) (by kernel_rfl) ?_
    refine reg_val (op := (Go.Op.binOp Go.BinOp.eql 28 (Go.Operand.tmp 3) (Go.Operand.const (Go.Value.pointer none)) 28)) (ty := 4) (dst := some 4) (Value.bool s.isNone) (by kernel_rfl) (fun ww => run_ptr_eql_R (p := s) (by kernel_rfl) (by kernel_rfl) (by kernel_rfl) ww) ?_
    refine reg_end [(0, Value.pointer s), (4, Value.bool s.isNone)] (by kernel_rfl) (by kernel_rfl) ?_
    change WpE _ _ c_logfile_Source_Last_7 _ _ _
    refine wpE_cond (o := (Operand.tmp 4)) (b := s.isNone) (x := c_logfile_Source_Last_8) (y := c_logfile_Source_Last_12) (by kernel_rfl) (by kernel_rfl) (fun hb => ?_) (fun hb => ?_)
    · replace h := h.1 hb
      refine wpE_seq (x := c_logfile_Source_Last_9) (y := c_logfile_Source_Last_11) (by kernel_rfl) ?_
      refine wpE_region (id := 2) (ops := r_logfile_Source_Last_9) (by kernel_rfl) ?_
      refine reg_run [.plain] 1 [(2, [], Value.int .i64 0)] (by kernel_rfl) (by kernel_rfl) ?_
      refine reg_end [(2, Value.int .i64 0)] (by kernel_rfl) (by kernel_rfl) ?_
      change WpE _ _ c_logfile_Source_Last_11 _ _ _
      refine wpE_ret (by kernel_rfl) ?_
      repeat (first | refine seqQ_ret ?_ | refine blockQ_ret ?_ | refine loopQ_ret ?_ | refine cutQ_ret ?_)
      exact retS (rs := [(Go.ResultVar.tmp 2)]) (v := Value.int .i64 0) (by kernel_rfl) (⟨by kernel_rfl, trivial⟩) ⟨0, rfl, h⟩
    · replace h := h.2 hb
      refine wpE_skip (by kernel_rfl) ?_
      change WpE _ _ c_logfile_Source_Last_13 _ _ _
      refine wpE_seq (x := c_logfile_Source_Last_14) (y := c_logfile_Source_Last_16) (by kernel_rfl) ?_
      refine wpE_region (id := 3) (ops := r_logfile_Source_Last_14) (by kernel_rfl) ?_
      refine reg_run [.plain] 1 [(5, [], Value.pointer s)] (by kernel_rfl) (by kernel_rfl) ?_
      obtain ⟨hp_0, h⟩ := h
      refine reg_conv [(5, [], Value.pointer (some ⟨(pblk s), (poff s), none⟩))] (congrArg (fun pp => ([(5, [], Value.pointer pp)] : GEnv)) hp_0) ?_
      refine reg_run [.plain] 2 [(5, [], Value.pointer (some ⟨(pblk s), (poff s), none⟩)), (6, [], Value.pointer (some ⟨(pblk s), (poff s), none⟩))] (by kernel_rfl) (by kernel_rfl) ?_
      refine reg_run [.plain] 3 [(7, [], Value.pointer (some ⟨(pblk s), (poff s) + 1, none⟩))] (by kernel_rfl) (by kernel_rfl) ?_
      obtain ⟨v8, hc, h⟩ := h
      refine reg_load1 (t := 22) (a := (Go.Operand.tmp 7)) (b := (pblk s)) (o := ((poff s) + 1)) (ty := 22) (dst := some 8) (by kernel_rfl) (by kernel_rfl) (by kernel_rfl) hc ?_
      refine reg_run [.plain, .plain] 6 [(2, [], Value.int .i64 ((v8.len : Nat) : Int))] (by kernel_rfl) (by kernel_rfl) ?_
      refine reg_end [(2, Value.int .i64 ((v8.len : Nat) : Int))] (by kernel_rfl) (by kernel_rfl) ?_
      change WpE _ _ c_logfile_Source_Last_16 _ _ _
      refine wpE_ret (by kernel_rfl) ?_
      repeat (first | refine seqQ_ret ?_ | refine blockQ_ret ?_ | refine loopQ_ret ?_ | refine cutQ_ret ?_)
      exact retS (rs := [(Go.ResultVar.tmp 2)]) (v := Value.int .i64 ((v8.len : Nat) : Int)) (by kernel_rfl) (⟨by kernel_rfl, trivial⟩) ⟨((v8.len : Nat) : Int), rfl, h⟩
  · rintro e w' ⟨v, rfl, r0, rfl, h⟩; exact ⟨r0, rfl, h⟩

/-! ### (*towpath/logfile.Source).Get (function 48) -/
noncomputable def c_logfile_Source_Get_0 : Code := (Try.f48.body).getD Code.skip
noncomputable def c_logfile_Source_Get_1 : Code := Code.l c_logfile_Source_Get_0
noncomputable def r_logfile_Source_Get_1 : Array Oper := Code.ops c_logfile_Source_Get_1
noncomputable def c_logfile_Source_Get_3 : Code := Code.r c_logfile_Source_Get_0
noncomputable def c_logfile_Source_Get_4 : Code := Code.l c_logfile_Source_Get_3
noncomputable def c_logfile_Source_Get_5 : Code := Code.l c_logfile_Source_Get_4
noncomputable def c_logfile_Source_Get_6 : Code := Code.l c_logfile_Source_Get_5
noncomputable def r_logfile_Source_Get_6 : Array Oper := Code.ops c_logfile_Source_Get_6
noncomputable def c_logfile_Source_Get_8 : Code := Code.r c_logfile_Source_Get_5
noncomputable def c_logfile_Source_Get_9 : Code := Code.l c_logfile_Source_Get_8
noncomputable def c_logfile_Source_Get_10 : Code := Code.l c_logfile_Source_Get_9
noncomputable def r_logfile_Source_Get_10 : Array Oper := Code.ops c_logfile_Source_Get_10
noncomputable def c_logfile_Source_Get_12 : Code := Code.r c_logfile_Source_Get_9
noncomputable def c_logfile_Source_Get_13 : Code := Code.r c_logfile_Source_Get_8
noncomputable def c_logfile_Source_Get_14 : Code := Code.l c_logfile_Source_Get_13
noncomputable def r_logfile_Source_Get_14 : Array Oper := Code.ops c_logfile_Source_Get_14
noncomputable def c_logfile_Source_Get_16 : Code := Code.r c_logfile_Source_Get_13
noncomputable def c_logfile_Source_Get_17 : Code := Code.l c_logfile_Source_Get_16
noncomputable def c_logfile_Source_Get_18 : Code := Code.l c_logfile_Source_Get_17
noncomputable def r_logfile_Source_Get_18 : Array Oper := Code.ops c_logfile_Source_Get_18
noncomputable def c_logfile_Source_Get_20 : Code := Code.r c_logfile_Source_Get_17
noncomputable def c_logfile_Source_Get_21 : Code := Code.r c_logfile_Source_Get_16
noncomputable def c_logfile_Source_Get_22 : Code := Code.r c_logfile_Source_Get_3
noncomputable def c_logfile_Source_Get_23 : Code := Code.l c_logfile_Source_Get_22
noncomputable def r_logfile_Source_Get_23 : Array Oper := Code.ops c_logfile_Source_Get_23
noncomputable def c_logfile_Source_Get_25 : Code := Code.r c_logfile_Source_Get_22
noncomputable def c_logfile_Source_Get_26 : Code := Code.l c_logfile_Source_Get_25
noncomputable def r_logfile_Source_Get_26 : Array Oper := Code.ops c_logfile_Source_Get_26
noncomputable def c_logfile_Source_Get_28 : Code := Code.r c_logfile_Source_Get_25

set_option maxRecDepth 100000 in
set_option maxHeartbeats 4000000 in
theorem S_logfile_Source_Get {s : Option Addr} {number : Int} {w : World} {R : T_api_Txn → Int → World → Prop} (h : F_logfile_Source_Get s number R w) : C_logfile_Source_Get s number w R := by
  unfold F_logfile_Source_Get at h
  unfold C_logfile_Source_Get
  refine Calls.mono (calls_of_wpE (args := [Value.pointer s, Value.int .i64 number]) (R := fun v w' => ∃ (r0 : T_api_Txn) (r1 : Int), v = Value.tuple #[Value.agg #[Value.int .i64 r0.Number, Value.slice r0.Writes.ptr r0.Writes.len r0.Writes.cap], Value.int .i64 r1] ∧ R r0 r1 w') Try.func48 (c := c_logfile_Source_Get_0) (by kernel_rfl) 49 (by kernel_rfl) (by kernel_rfl) [(0, Value.pointer s), (1, Value.int .i64 number)] (by kernel_rfl) ?_) ?_
  · refine wpE_seq (x := c_logfile_Source_Get_1) (y := c_logfile_Source_Get_3) (by kernel_rfl) ?_
    refine wpE_region (id := 0) (ops := r_logfile_Source_Get_1) (by kernel_rfl) ?_
    refine reg_run [] 0 [(0, [], Value.pointer s), (1, [], Value.int .i64 number)] (by kernel_rfl) (by kernel_rfl) ?_
    refine reg_new (op := (Go.Op.alloc 42)) (ty := 0) (dst := some 4) (fun bb => Value.pointer (some ⟨bb, 0, none⟩)) (Obj.cells ([Value.int .i64 0, Value.slice none 0 0]).toArray ty_api_Txn (0, 0)) (by kernel_rfl) (by kernel_rfl) (fun b_ w1 hb hw => ?_)
    replace h := h b_ w1 hb hw
    clear hb hw
    refine reg_run [.plain] 2 [(0, [], Value.pointer s), (1, [], Value.int .i64 number), (4, [], Value.pointer (some ⟨b_, 0, none⟩))] (by kernel_rfl) (by kernel_rfl) ?_
    refine reg_end [(0, Value.pointer s), (1, Value.int .i64 number), (4, Value.pointer (some ⟨b_, 0, none⟩))] (by kernel_rfl) (by kernel_rfl) ?_
    change WpE _ _ c_logfile_Source_Get_3 _ _ _
    refine wpE_seq (x := c_logfile_Source_Get_4) (y := c_logfile_Source_Get_22) (by kernel_rfl) ?_
    refine wpE_block (id := 0) (x := c_logfile_Source_Get_5) (by kernel_rfl) ?_
    refine wpE_seq_cut (x := c_logfile_Source_Get_6) (y := c_logfile_Source_Get_8) (by kernel_rfl) (fun l w => ∃ (t6 : Bool), l = [(0, Value.pointer s), (1, Value.int .i64 number), (4, Value.pointer (some ⟨b_, 0, none⟩)), (6, Value.bool t6)] ∧ F_logfile_Source_Get_k0 s number R b_ t6 w) ?_ ?_
    · refine wpE_region (id := 1) (ops := r_logfile_Source_Get_6) (by kernel_rfl) ?_
      refine reg_run [.plain] 1 [(0, [], Value.pointer s), (1, [], Value.int .i64 number), (4, [], Value.pointer (some ⟨b_, 0, none⟩)), (7, [], Value.pointer s)] (by kernel_rfl) (by kernel_rfl) ?_
      refine reg_val (op := (Go.Op.binOp Go.BinOp.eql 28 (Go.Operand.tmp 7) (Go.Operand.const (Go.Value.pointer none)) 28)) (ty := 4) (dst := some 8) (Value.bool s.isNone) (by kernel_rfl) (fun ww => run_ptr_eql_R (p := s) (by kernel_rfl) (by kernel_rfl) (by kernel_rfl) ww) ?_
      refine reg_run [.plain, .plain] 4 [(0, [], Value.pointer s), (1, [], Value.int .i64 number), (4, [], Value.pointer (some ⟨b_, 0, none⟩)), (9, [], Value.bool s.isNone), (10, [(9, false)], Value.pointer s)] (by kernel_rfl) (by kernel_rfl) ?_
      refine reg_split 9 s.isNone (by kernel_rfl) (fun hb => ?_) (fun hb => ?_)
      · replace h := h.1 hb
        refine reg_run [] 4 [(0, [], Value.pointer s), (1, [], Value.int .i64 number), (4, [], Value.pointer (some ⟨b_, 0, none⟩)), (9, [], Value.bool true), (10, [], undef)] (by kernel_rfl) (by kernel_rfl) ?_
        refine reg_run [.skip, .skip, .skip, .skip, .plain, .plain] 10 [(0, [], Value.pointer s), (1, [], Value.int .i64 number), (4, [], Value.pointer (some ⟨b_, 0, none⟩)), (6, [], Value.bool true)] (by kernel_rfl) (by kernel_rfl) ?_
        refine reg_end [(0, Value.pointer s), (1, Value.int .i64 number), (4, Value.pointer (some ⟨b_, 0, none⟩)), (6, Value.bool true)] (by kernel_rfl) (by kernel_rfl) ?_
        exact ⟨[(0, Value.pointer s), (1, Value.int .i64 number), (4, Value.pointer (some ⟨b_, 0, none⟩)), (6, Value.bool true)], Sub.mk (by kernel_rfl), true, rfl, h⟩
      · replace h := h.2 hb
        refine reg_run [] 4 [(0, [], Value.pointer s), (1, [], Value.int .i64 number), (4, [], Value.pointer (some ⟨b_, 0, none⟩)), (9, [], Value.bool false), (10, [], Value.pointer s)] (by kernel_rfl) (by kernel_rfl) ?_
        refine reg_run [] 4 [(0, [], Value.pointer s), (1, [], Value.int .i64 number), (4, [], Value.pointer (some ⟨b_, 0, none⟩)), (9, [], Value.bool false), (10, [], Value.pointer s)] (by kernel_rfl) (by kernel_rfl) ?_
        obtain ⟨hp_13, h⟩ := h
        refine reg_conv [(0, [], Value.pointer s), (1, [], Value.int .i64 number), (4, [], Value.pointer (some ⟨b_, 0, none⟩)), (9, [], Value.bool false), (10, [], Value.pointer (some ⟨(pblk s), (poff s), none⟩))] (congrArg (fun pp => ([(0, [], Value.pointer s), (1, [], Value.int .i64 number), (4, [], Value.pointer (some ⟨b_, 0, none⟩)), (9, [], Value.bool false), (10, [], Value.pointer pp)] : GEnv)) hp_13) ?_
        refine reg_run [.sure] 5 [(0, [], Value.pointer s), (1, [], Value.int .i64 number), (4, [], Value.pointer (some ⟨b_, 0, none⟩)), (9, [], Value.bool false), (10, [], Value.pointer (some ⟨(pblk s), (poff s), none⟩)), (11, [], Value.pointer (some ⟨(pblk s), (poff s), none⟩))] (by kernel_rfl) (by kernel_rfl) ?_
        refine reg_run [.sure] 6 [(0, [], Value.pointer s), (1, [], Value.int .i64 number), (4, [], Value.pointer (some ⟨b_, 0, none⟩)), (9, [], Value.bool false), (12, [], Value.pointer (some ⟨(pblk s), (poff s), none⟩))] (by kernel_rfl) (by kernel_rfl) ?_
        obtain ⟨v13, hc, h⟩ := h
        refine reg_load1 (t := 4) (a := (Go.Operand.tmp 12)) (b := (pblk s)) (o := (poff s)) (ty := 4) (dst := some 13) (by kernel_rfl) (by kernel_rfl) (by kernel_rfl) hc ?_
        refine reg_run [.sure, .plain, .plain] 10 [(0, [], Value.pointer s), (1, [], Value.int .i64 number), (4, [], Value.pointer (some ⟨b_, 0, none⟩)), (6, [], Value.bool (!v13))] (by kernel_rfl) (by kernel_rfl) ?_
        refine reg_end [(0, Value.pointer s), (1, Value.int .i64 number), (4, Value.pointer (some ⟨b_, 0, none⟩)), (6, Value.bool (!v13))] (by kernel_rfl) (by kernel_rfl) ?_
        exact ⟨[(0, Value.pointer s), (1, Value.int .i64 number), (4, Value.pointer (some ⟨b_, 0, none⟩)), (6, Value.bool (!v13))], Sub.mk (by kernel_rfl), (!v13), rfl, h⟩
    · rintro _ w2 ⟨t6, rfl, h⟩
      unfold F_logfile_Source_Get_k0 at h
      refine wpE_cond (o := (Operand.tmp 6)) (b := t6) (x := c_logfile_Source_Get_9) (y := c_logfile_Source_Get_13) (by kernel_rfl) (by kernel_rfl) (fun hb => ?_) (fun hb => ?_)
      · replace h := h.1 hb
        refine wpE_seq (x := c_logfile_Source_Get_10) (y := c_logfile_Source_Get_12) (by kernel_rfl) ?_
        refine wpE_region (id := 2) (ops := r_logfile_Source_Get_10) (by kernel_rfl) ?_
        refine reg_run [.plain] 1 [(4, [], Value.pointer (some ⟨b_, 0, none⟩)), (16, [], Value.agg #[Value.int .i64 0, Value.slice none 0 0])] (by kernel_rfl) (by kernel_rfl) ?_
        obtain ⟨hc, h⟩ := h
        refine reg_store (t := 42) (a := (Go.Operand.tmp 4)) (x := (Go.Operand.tmp 16)) (b := b_) (o := 0) (ty := 0) (dst := none) [Value.int .i64 0, Value.slice none 0 0] (by kernel_rfl) (by kernel_rfl) (by kernel_rfl) (k := 2) (by kernel_rfl) (by kernel_rfl) (by kernel_rfl) hc (fun w3 hw => ?_)
        replace h := h w3 hw
        clear hw
        refine reg_run [.plain] 3 [(4, [], Value.pointer (some ⟨b_, 0, none⟩)), (5, [], Value.int .i64 2)] (by kernel_rfl) (by kernel_rfl) ?_
        refine reg_end [(4, Value.pointer (some ⟨b_, 0, none⟩)), (5, Value.int .i64 2)] (by kernel_rfl) (by kernel_rfl) ?_
        change WpE _ _ c_logfile_Source_Get_12 _ _ _
        refine wpE_ret (by kernel_rfl) ?_
        obtain ⟨res, hc_res, h⟩ := h
        repeat (first | refine seqQ_ret ?_ | refine blockQ_ret ?_ | refine loopQ_ret ?_ | refine cutQ_ret ?_)
        exact retT (rs := [(Go.ResultVar.cell 4 42), (Go.ResultVar.tmp 5)]) (vs := [Value.agg #[Value.int .i64 res.Number, Value.slice res.Writes.ptr res.Writes.len res.Writes.cap], Value.int .i64 2]) (by kernel_rfl) (⟨b_, 0, [Value.int .i64 res.Number, Value.slice res.Writes.ptr res.Writes.len res.Writes.cap], by kernel_rfl, hc_res, (sizeP_of (k := 2) (by kernel_rfl) (by kernel_rfl)), .inl ⟨by kernel_rfl, rfl⟩, ⟨by kernel_rfl, trivial⟩⟩) (by kernel_rfl) ⟨res, 2, rfl, h⟩
      · replace h := h.2 hb
        refine wpE_seq_cut (x := c_logfile_Source_Get_14) (y := c_logfile_Source_Get_16) (by kernel_rfl) (fun l w => ∃ (t17 : Bool), l = [(0, Value.pointer s), (1, Value.int .i64 number), (4, Value.pointer (some ⟨b_, 0, none⟩)), (17, Value.bool t17)] ∧ F_logfile_Source_Get_k1 s number R b_ t17 w) ?_ ?_
        · refine wpE_region (id := 3) (ops := r_logfile_Source_Get_14) (by kernel_rfl) ?_
          refine reg_run [.plain, .plain, .plain, .plain, .plain] 5 [(0, [], Value.pointer s), (1, [], Value.int .i64 number), (4, [], Value.pointer (some ⟨b_, 0, none⟩)), (20, [], Value.bool (decide (number < 1))), (21, [(20, false)], Value.int .i64 number), (22, [(20, false)], Value.pointer s)] (by kernel_rfl) (by kernel_rfl) ?_
          refine reg_split 20 (decide (number < 1)) (by kernel_rfl) (fun hb => ?_) (fun hb => ?_)
          · replace h := h.1 hb
            refine reg_run [] 5 [(0, [], Value.pointer s), (1, [], Value.int .i64 number), (4, [], Value.pointer (some ⟨b_, 0, none⟩)), (20, [], Value.bool true), (21, [], undef), (22, [], undef)] (by kernel_rfl) (by kernel_rfl) ?_
            refine reg_run [.skip, .skip, .skip, .skip, .skip, .plain, .plain] 12 [(0, [], Value.pointer s), (1, [], Value.int .i64 number), (4, [], Value.pointer (some ⟨b_, 0, none⟩)), (17, [], Value.bool true)] (by kernel_rfl) (by kernel_rfl) ?_
            refine reg_end [(0, Value.pointer s), (1, Value.int .i64 number), (4, Value.pointer (some ⟨b_, 0, none⟩)), (17, Value.bool true)] (by kernel_rfl) (by kernel_rfl) ?_
            exact ⟨[(0, Value.pointer s), (1, Value.int .i64 number), (4, Value.pointer (some ⟨b_, 0, none⟩)), (17, Value.bool true)], Sub.mk (by kernel_rfl), true, rfl, h⟩
          · replace h := h.2 hb
            refine reg_run [] 5 [(0, [], Value.pointer s), (1, [], Value.int .i64 number), (4, [], Value.pointer (some ⟨b_, 0, none⟩)), (20, [], Value.bool false), (21, [], Value.int .i64 number), (22, [], Value.pointer s)] (by kernel_rfl) (by kernel_rfl) ?_
            refine reg_run [] 5 [(0, [], Value.pointer s), (1, [], Value.int .i64 number), (4, [], Value.pointer (some ⟨b_, 0, none⟩)), (20, [], Value.bool false), (21, [], Value.int .i64 number), (22, [], Value.pointer s)] (by kernel_rfl) (by kernel_rfl) ?_
            obtain ⟨hp_12, h⟩ := h
            refine reg_conv [(0, [], Value.pointer s), (1, [], Value.int .i64 number), (4, [], Value.pointer (some ⟨b_, 0, none⟩)), (20, [], Value.bool false), (21, [], Value.int .i64 number), (22, [], Value.pointer (some ⟨(pblk s), (poff s), none⟩))] (congrArg (fun pp => ([(0, [], Value.pointer s), (1, [], Value.int .i64 number), (4, [], Value.pointer (some ⟨b_, 0, none⟩)), (20, [], Value.bool false), (21, [], Value.int .i64 number), (22, [], Value.pointer pp)] : GEnv)) hp_12) ?_
            refine reg_run [.sure] 6 [(0, [], Value.pointer s), (1, [], Value.int .i64 number), (4, [], Value.pointer (some ⟨b_, 0, none⟩)), (20, [], Value.bool false), (21, [], Value.int .i64 number), (22, [], Value.pointer (some ⟨(pblk s), (poff s), none⟩)), (23, [], Value.pointer (some ⟨(pblk s), (poff s), none⟩))] (by kernel_rfl) (by kernel_rfl) ?_
            refine reg_run [.sure] 7 [(0, [], Value.pointer s), (1, [], Value.int .i64 number), (4, [], Value.pointer (some ⟨b_, 0, none⟩)), (20, [], Value.bool false), (21, [], Value.int .i64 number), (24, [], Value.pointer (some ⟨(pblk s), (poff s) + 1, none⟩))] (by kernel_rfl) (by kernel_rfl) ?_
            obtain ⟨v25, hc, h⟩ := h
            refine reg_load1 (t := 22) (a := (Go.Operand.tmp 24)) (b := (pblk s)) (o := ((poff s) + 1)) (ty := 22) (dst := some 25) (by kernel_rfl) (by kernel_rfl) (by kernel_rfl) hc ?_
            refine reg_run [.sure, .sure, .plain, .plain] 12 [(0, [], Value.pointer s), (1, [], Value.int .i64 number), (4, [], Value.pointer (some ⟨b_, 0, none⟩)), (17, [], Value.bool (decide (number > ((v25.len : Nat) : Int))))] (by kernel_rfl) (by kernel_rfl) ?_
            refine reg_end [(0, Value.pointer s), (1, Value.int .i64 number), (4, Value.pointer (some ⟨b_, 0, none⟩)), (17, Value.bool (decide (number > ((v25.len : Nat) : Int))))] (by kernel_rfl) (by kernel_rfl) ?_
            exact ⟨[(0, Value.pointer s), (1, Value.int .i64 number), (4, Value.pointer (some ⟨b_, 0, none⟩)), (17, Value.bool (decide (number > ((v25.len : Nat) : Int))))], Sub.mk (by kernel_rfl), (decide (number > ((v25.len : Nat) : Int))), rfl, h⟩
        · rintro _ w4 ⟨t17, rfl, h⟩
          unfold F_logfile_Source_Get_k1 at h
          refine wpE_cond (o := (Operand.tmp 17)) (b := t17) (x := c_logfile_Source_Get_17) (y := c_logfile_Source_Get_21) (by kernel_rfl) (by kernel_rfl) (fun hb => ?_) (fun hb => ?_)
          · replace h := h.1 hb
            refine wpE_seq (x := c_logfile_Source_Get_18) (y := c_logfile_Source_Get_20) (by kernel_rfl) ?_
            refine wpE_region (id := 4) (ops := r_logfile_Source_Get_18) (by kernel_rfl) ?_
            refine reg_run [.plain] 1 [(4, [], Value.pointer (some ⟨b_, 0, none⟩)), (29, [], Value.agg #[Value.int .i64 0, Value.slice none 0 0])] (by kernel_rfl) (by kernel_rfl) ?_
            obtain ⟨hc, h⟩ := h
            refine reg_store (t := 42) (a := (Go.Operand.tmp 4)) (x := (Go.Operand.tmp 29)) (b := b_) (o := 0) (ty := 0) (dst := none) [Value.int .i64 0, Value.slice none 0 0] (by kernel_rfl) (by kernel_rfl) (by kernel_rfl) (k := 2) (by kernel_rfl) (by kernel_rfl) (by kernel_rfl) hc (fun w5 hw => ?_)
            replace h := h w5 hw
            clear hw
            refine reg_run [.plain] 3 [(4, [], Value.pointer (some ⟨b_, 0, none⟩)), (5, [], Value.int .i64 1)] (by kernel_rfl) (by kernel_rfl) ?_
            refine reg_end [(4, Value.pointer (some ⟨b_, 0, none⟩)), (5, Value.int .i64 1)] (by kernel_rfl) (by kernel_rfl) ?_
            change WpE _ _ c_logfile_Source_Get_20 _ _ _
            refine wpE_ret (by kernel_rfl) ?_
            obtain ⟨res1, hc_res1, h⟩ := h
            repeat (first | refine seqQ_ret ?_ | refine blockQ_ret ?_ | refine loopQ_ret ?_ | refine cutQ_ret ?_)
            exact retT (rs := [(Go.ResultVar.cell 4 42), (Go.ResultVar.tmp 5)]) (vs := [Value.agg #[Value.int .i64 res1.Number, Value.slice res1.Writes.ptr res1.Writes.len res1.Writes.cap], Value.int .i64 1]) (by kernel_rfl) (⟨b_, 0, [Value.int .i64 res1.Number, Value.slice res1.Writes.ptr res1.Writes.len res1.Writes.cap], by kernel_rfl, hc_res1, (sizeP_of (k := 2) (by kernel_rfl) (by kernel_rfl)), .inl ⟨by kernel_rfl, rfl⟩, ⟨by kernel_rfl, trivial⟩⟩) (by kernel_rfl) ⟨res1, 1, rfl, h⟩
          · replace h := h.2 hb
            refine wpE_skip (by kernel_rfl) ?_
            change WpE _ _ c_logfile_Source_Get_22 _ _ _
            refine wpE_seq (x := c_logfile_Source_Get_23) (y := c_logfile_Source_Get_25) (by kernel_rfl) ?_
            refine wpE_region (id := 5) (ops := r_logfile_Source_Get_23) (by kernel_rfl) ?_
            refine reg_run [.plain, .plain] 2 [(0, [], Value.pointer s), (1, [], Value.int .i64 number), (4, [], Value.pointer (some ⟨b_, 0, none⟩)), (30, [], Value.pointer s), (31, [], Value.pointer s)] (by kernel_rfl) (by kernel_rfl) ?_
            obtain ⟨hp_8, h⟩ := h
            refine reg_conv [(0, [], Value.pointer s), (1, [], Value.int .i64 number), (4, [], Value.pointer (some ⟨b_, 0, none⟩)), (30, [], Value.pointer s), (31, [], Value.pointer (some ⟨(pblk s), (poff s), none⟩))] (congrArg (fun pp => ([(0, [], Value.pointer s), (1, [], Value.int .i64 number), (4, [], Value.pointer (some ⟨b_, 0, none⟩)), (30, [], Value.pointer s), (31, [], Value.pointer pp)] : GEnv)) hp_8) ?_
            refine reg_run [.plain] 3 [(0, [], Value.pointer s), (1, [], Value.int .i64 number), (4, [], Value.pointer (some ⟨b_, 0, none⟩)), (30, [], Value.pointer s), (31, [], Value.pointer (some ⟨(pblk s), (poff s), none⟩)), (32, [], Value.pointer (some ⟨(pblk s), (poff s), none⟩))] (by kernel_rfl) (by kernel_rfl) ?_
            refine reg_run [.plain] 4 [(0, [], Value.pointer s), (1, [], Value.int .i64 number), (4, [], Value.pointer (some ⟨b_, 0, none⟩)), (30, [], Value.pointer s), (33, [], Value.pointer (some ⟨(pblk s), (poff s) + 2, none⟩))] (by kernel_rfl) (by kernel_rfl) ?_
            obtain ⟨v34, hc, h⟩ := h
            refine reg_load1 (t := 23) (a := (Go.Operand.tmp 33)) (b := (pblk s)) (o := ((poff s) + 2)) (ty := 23) (dst := some 34) (by kernel_rfl) (by kernel_rfl) (by kernel_rfl) hc ?_
            refine reg_run [.plain] 6 [(0, [], Value.pointer s), (1, [], Value.int .i64 number), (4, [], Value.pointer (some ⟨b_, 0, none⟩)), (30, [], Value.pointer s), (34, [], Value.slice v34.ptr v34.len v34.cap), (35, [], Value.int .i64 number)] (by kernel_rfl) (by kernel_rfl) ?_
            refine reg_new (op := (Go.Op.buildSlice 23 1 #[(0, (Go.Operand.tmp 35))])) (ty := 23) (dst := some 36) (fun bb => Value.slice (some ⟨bb, 0, none⟩) 1 1) (Obj.cells ([Value.int .i64 number]).toArray ty_int (0, 0)) (by kernel_rfl) (by kernel_rfl) (fun b_1 w6 hb hw => ?_)
            replace h := h b_1 w6 hb hw
            clear hb hw
            refine reg_run [] 7 [(0, [], Value.pointer s), (1, [], Value.int .i64 number), (4, [], Value.pointer (some ⟨b_, 0, none⟩)), (30, [], Value.pointer s), (34, [], Value.slice v34.ptr v34.len v34.cap), (36, [], Value.slice (some ⟨b_1, 0, none⟩) 1 1)] (by kernel_rfl) (by kernel_rfl) ?_
            obtain ⟨src, hs, h⟩ := h
            refine reg_append (t := 23) (tx := 23) (e := 3) (a := (Go.Operand.tmp 34)) (xo := (Go.Operand.tmp 36)) (s := v34) (x := (Slc.mk (some ⟨b_1, 0, none⟩) 1 1)) (sz := 1) (by_ := 8) (zs := [Value.int .i64 0]) (ty := 23) (dst := some 37)  src (by kernel_rfl) (by kernel_rfl) (by kernel_rfl) (by kernel_rfl) (by kernel_rfl) (by kernel_rfl) (by kernel_rfl) (by kernel_rfl) (by kernel_rfl) hs (AppendW.mono h (fun v37 w7 h => ?_))
            refine reg_run [] 8 [(0, [], Value.pointer s), (1, [], Value.int .i64 number), (4, [], Value.pointer (some ⟨b_, 0, none⟩)), (30, [], Value.pointer s), (37, [], Value.slice v37.ptr v37.len v37.cap)] (by kernel_rfl) (by kernel_rfl) ?_
            obtain ⟨hp_9, h⟩ := h
            refine reg_conv [(0, [], Value.pointer s), (1, [], Value.int .i64 number), (4, [], Value.pointer (some ⟨b_, 0, none⟩)), (30, [], Value.pointer (some ⟨(pblk s), (poff s), none⟩)), (37, [], Value.slice v37.ptr v37.len v37.cap)] (congrArg (fun pp => ([(0, [], Value.pointer s), (1, [], Value.int .i64 number), (4, [], Value.pointer (some ⟨b_, 0, none⟩)), (30, [], Value.pointer pp), (37, [], Value.slice v37.ptr v37.len v37.cap)] : GEnv)) hp_9) ?_
            refine reg_run [.plain] 9 [(0, [], Value.pointer s), (1, [], Value.int .i64 number), (4, [], Value.pointer (some ⟨b_, 0, none⟩)), (30, [], Value.pointer (some ⟨(pblk s), (poff s), none⟩)), (37, [], Value.slice v37.ptr v37.len v37.cap), (38, [], Value.pointer (some ⟨(pblk s), (poff s), none⟩))] (by kernel_rfl) (by kernel_rfl) ?_
            refine reg_run [.plain] 10 [(0, [], Value.pointer s), (1, [], Value.int .i64 number), (4, [], Value.pointer (some ⟨b_, 0, none⟩)), (37, [], Value.slice v37.ptr v37.len v37.cap), (39, [], Value.pointer (some ⟨(pblk s), (poff s) + 2, none⟩))] (by kernel_rfl) (by kernel_rfl) ?_
            obtain ⟨hc, h⟩ := h
            refine reg_store (t := 23) (a := (Go.Operand.tmp 39)) (x := (Go.Operand.tmp 37)) (b := (pblk s)) (o := ((poff s) + 2)) (ty := 0) (dst := none) [Value.slice v37.ptr v37.len v37.cap] (by kernel_rfl) (by kernel_rfl) (by kernel_rfl) (k := 1) (by kernel_rfl) (by kernel_rfl) (by kernel_rfl) hc (fun w8 hw => ?_)
            replace h := h w8 hw
            clear hw
            refine reg_end [(0, Value.pointer s), (1, Value.int .i64 number), (4, Value.pointer (some ⟨b_, 0, none⟩))] (by kernel_rfl) (by kernel_rfl) ?_
            change WpE _ _ c_logfile_Source_Get_25 _ _ _
            refine wpE_seq (x := c_logfile_Source_Get_26) (y := c_logfile_Source_Get_28) (by kernel_rfl) ?_
            refine wpE_region (id := 6) (ops := r_logfile_Source_Get_26) (by kernel_rfl) ?_
            refine reg_run [.plain] 1 [(1, [], Value.int .i64 number), (4, [], Value.pointer (some ⟨b_, 0, none⟩)), (40, [], Value.pointer s)] (by kernel_rfl) (by kernel_rfl) ?_
            obtain ⟨hp_10, h⟩ := h
            refine reg_conv [(1, [], Value.int .i64 number), (4, [], Value.pointer (some ⟨b_, 0, none⟩)), (40, [], Value.pointer (some ⟨(pblk s), (poff s), none⟩))] (congrArg (fun pp => ([(1, [], Value.int .i64 number), (4, [], Value.pointer (some ⟨b_, 0, none⟩)), (40, [], Value.pointer pp)] : GEnv)) hp_10) ?_
            refine reg_run [.plain] 2 [(1, [], Value.int .i64 number), (4, [], Value.pointer (some ⟨b_, 0, none⟩)), (40, [], Value.pointer (some ⟨(pblk s), (poff s), none⟩)), (41, [], Value.pointer (some ⟨(pblk s), (poff s), none⟩))] (by kernel_rfl) (by kernel_rfl) ?_
            refine reg_run [.plain] 3 [(1, [], Value.int .i64 number), (4, [], Value.pointer (some ⟨b_, 0, none⟩)), (42, [], Value.pointer (some ⟨(pblk s), (poff s) + 1, none⟩))] (by kernel_rfl) (by kernel_rfl) ?_
            obtain ⟨v43, hc, h⟩ := h
            refine reg_load1 (t := 22) (a := (Go.Operand.tmp 42)) (b := (pblk s)) (o := ((poff s) + 1)) (ty := 22) (dst := some 43) (by kernel_rfl) (by kernel_rfl) (by kernel_rfl) hc ?_
            refine reg_run [.plain, .plain] 6 [(4, [], Value.pointer (some ⟨b_, 0, none⟩)), (43, [], Value.slice v43.ptr v43.len v43.cap), (45, [], Value.int .i64 (IntKind.i64.wrap (number - 1)))] (by kernel_rfl) (by kernel_rfl) ?_
            obtain ⟨hp_11, h⟩ := h
            refine reg_conv [(4, [], Value.pointer (some ⟨b_, 0, none⟩)), (43, [], Value.slice (some ⟨(pblk v43.ptr), (poff v43.ptr), none⟩) v43.len v43.cap), (45, [], Value.int .i64 (IntKind.i64.wrap (number - 1)))] (congrArg (fun pp => ([(4, [], Value.pointer (some ⟨b_, 0, none⟩)), (43, [], Value.slice pp v43.len v43.cap), (45, [], Value.int .i64 (IntKind.i64.wrap (number - 1)))] : GEnv)) hp_11) ?_
            obtain ⟨h0, h1, h⟩ := h
            refine reg_indexS (t := 22) (e := 42) (x := (Go.Operand.tmp 43)) (ix := (Go.Operand.tmp 45)) (b := (pblk v43.ptr)) (o := (poff v43.ptr)) (l := v43.len) (c := v43.cap) (k := .i64) (j := (IntKind.i64.wrap (number - 1))) (ty := 0) (dst := some 46) (sz := 2) (by kernel_rfl) (by kernel_rfl) (by kernel_rfl) (by kernel_rfl) (by kernel_rfl) h0 h1 ?_
            refine reg_run [] 7 [(4, [], Value.pointer (some ⟨b_, 0, none⟩)), (46, [], Value.pointer (some ⟨(pblk v43.ptr), (poff v43.ptr) + (IntKind.i64.wrap (number - 1)).toNat * 2, none⟩))] (by kernel_rfl) (by kernel_rfl) ?_
            obtain ⟨v47, hc, h⟩ := h
            refine reg_loadN (t := 42) (a := (Go.Operand.tmp 46)) (b := (pblk v43.ptr)) (o := ((poff v43.ptr) + (IntKind.i64.wrap (number - 1)).toNat * 2)) (ty := 42) (dst := some 47) [Value.int .i64 v47.Number, Value.slice v47.Writes.ptr v47.Writes.len v47.Writes.cap] (by kernel_rfl) (by kernel_rfl) (by kernel_rfl) (k := 2) (by kernel_rfl) (by kernel_rfl) hc ?_
            refine reg_run [] 8 [(4, [], Value.pointer (some ⟨b_, 0, none⟩)), (47, [], Value.agg #[Value.int .i64 v47.Number, Value.slice v47.Writes.ptr v47.Writes.len v47.Writes.cap])] (by kernel_rfl) (by kernel_rfl) ?_
            refine reg_enter (op := (Go.Op.call (Go.Call.mk (Go.Callee.value (Go.Operand.func 81)) #[(Go.Operand.tmp 47)] #[42]))) (ty := 42) (dst := some 48) 81 #[Value.agg #[Value.int .i64 v47.Number, Value.slice v47.Writes.ptr v47.Writes.len v47.Writes.cap]] (by kernel_rfl) (fun ww => by kernel_rfl) (Calls.mono h ?_)
            rintro _ w9 ⟨v48, rfl, h⟩
            refine ⟨_, rfl, ?_⟩
            refine reg_run [] 9 [(4, [], Value.pointer (some ⟨b_, 0, none⟩)), (48, [], Value.agg #[Value.int .i64 v48.Number, Value.slice v48.Writes.ptr v48.Writes.len v48.Writes.cap])] (by kernel_rfl) (by kernel_rfl) ?_
            obtain ⟨hc, h⟩ := h
            refine reg_store (t := 42) (a := (Go.Operand.tmp 4)) (x := (Go.Operand.tmp 48)) (b := b_) (o := 0) (ty := 0) (dst := none) [Value.int .i64 v48.Number, Value.slice v48.Writes.ptr v48.Writes.len v48.Writes.cap] (by kernel_rfl) (by kernel_rfl) (by kernel_rfl) (k := 2) (by kernel_rfl) (by kernel_rfl) (by kernel_rfl) hc (fun w10 hw => ?_)
            replace h := h w10 hw
            clear hw
            refine reg_run [.plain] 11 [(4, [], Value.pointer (some ⟨b_, 0, none⟩)), (5, [], Value.int .i64 0)] (by kernel_rfl) (by kernel_rfl) ?_
            refine reg_end [(4, Value.pointer (some ⟨b_, 0, none⟩)), (5, Value.int .i64 0)] (by kernel_rfl) (by kernel_rfl) ?_
            change WpE _ _ c_logfile_Source_Get_28 _ _ _
            refine wpE_ret (by kernel_rfl) ?_
            obtain ⟨res2, hc_res2, h⟩ := h
            repeat (first | refine seqQ_ret ?_ | refine blockQ_ret ?_ | refine loopQ_ret ?_ | refine cutQ_ret ?_)
            exact retT (rs := [(Go.ResultVar.cell 4 42), (Go.ResultVar.tmp 5)]) (vs := [Value.agg #[Value.int .i64 res2.Number, Value.slice res2.Writes.ptr res2.Writes.len res2.Writes.cap], Value.int .i64 0]) (by kernel_rfl) (⟨b_, 0, [Value.int .i64 res2.Number, Value.slice res2.Writes.ptr res2.Writes.len res2.Writes.cap], by kernel_rfl, hc_res2, (sizeP_of (k := 2) (by kernel_rfl) (by kernel_rfl)), .inl ⟨by kernel_rfl, rfl⟩, ⟨by kernel_rfl, trivial⟩⟩) (by kernel_rfl) ⟨res2, 0, rfl, h⟩
  · rintro e w' ⟨v, rfl, r0, r1, rfl, h⟩; exact ⟨r0, r1, rfl, h⟩

/-! ### towpath/logfile.Check (function 80) -/
noncomputable def c_logfile_Check_0 : Code := (Try.f80.body).getD Code.skip
noncomputable def c_logfile_Check_1 : Code := Code.l c_logfile_Check_0
noncomputable def r_logfile_Check_1 : Array Oper := Code.ops c_logfile_Check_1
noncomputable def c_logfile_Check_3 : Code := Code.r c_logfile_Check_0
noncomputable def c_logfile_Check_4 : Code := Code.l c_logfile_Check_3
noncomputable def r_logfile_Check_4 : Array Oper := Code.ops c_logfile_Check_4
noncomputable def c_logfile_Check_6 : Code := Code.r c_logfile_Check_3
noncomputable def c_logfile_Check_7 : Code := Code.l c_logfile_Check_6
noncomputable def c_logfile_Check_8 : Code := Code.l c_logfile_Check_7
noncomputable def r_logfile_Check_8 : Array Oper := Code.ops c_logfile_Check_8
noncomputable def c_logfile_Check_10 : Code := Code.r c_logfile_Check_7
noncomputable def c_logfile_Check_11 : Code := Code.l c_logfile_Check_10
noncomputable def c_logfile_Check_12 : Code := Code.l c_logfile_Check_11
noncomputable def c_logfile_Check_13 : Code := Code.l c_logfile_Check_12
noncomputable def r_logfile_Check_13 : Array Oper := Code.ops c_logfile_Check_13
noncomputable def c_logfile_Check_15 : Code := Code.r c_logfile_Check_12
noncomputable def c_logfile_Check_16 : Code := Code.l c_logfile_Check_15
noncomputable def c_logfile_Check_17 : Code := Code.l c_logfile_Check_16
noncomputable def c_logfile_Check_18 : Code := Code.r c_logfile_Check_16
noncomputable def c_logfile_Check_19 : Code := Code.r c_logfile_Check_15
noncomputable def c_logfile_Check_20 : Code := Code.l c_logfile_Check_19
noncomputable def c_logfile_Check_21 : Code := Code.l c_logfile_Check_20
noncomputable def c_logfile_Check_22 : Code := Code.l c_logfile_Check_21
noncomputable def r_logfile_Check_22 : Array Oper := Code.ops c_logfile_Check_22
noncomputable def c_logfile_Check_24 : Code := Code.r c_logfile_Check_21
noncomputable def c_logfile_Check_25 : Code := Code.l c_logfile_Check_24
noncomputable def r_logfile_Check_25 : Array Oper := Code.ops c_logfile_Check_25
noncomputable def c_logfile_Check_27 : Code := Code.r c_logfile_Check_24
noncomputable def c_logfile_Check_28 : Code := Code.l c_logfile_Check_27
noncomputable def r_logfile_Check_28 : Array Oper := Code.ops c_logfile_Check_28
noncomputable def c_logfile_Check_30 : Code := Code.r c_logfile_Check_27
noncomputable def c_logfile_Check_31 : Code := Code.l c_logfile_Check_30
noncomputable def c_logfile_Check_32 : Code := Code.l c_logfile_Check_31
noncomputable def r_logfile_Check_32 : Array Oper := Code.ops c_logfile_Check_32
noncomputable def c_logfile_Check_34 : Code := Code.r c_logfile_Check_31
noncomputable def c_logfile_Check_35 : Code := Code.r c_logfile_Check_30
noncomputable def c_logfile_Check_36 : Code := Code.r c_logfile_Check_19
noncomputable def r_logfile_Check_36 : Array Oper := Code.ops c_logfile_Check_36
noncomputable def c_logfile_Check_38 : Code := Code.r c_logfile_Check_6
noncomputable def c_logfile_Check_39 : Code := Code.l c_logfile_Check_38
noncomputable def r_logfile_Check_39 : Array Oper := Code.ops c_logfile_Check_39
noncomputable def c_logfile_Check_41 : Code := Code.r c_logfile_Check_38

set_option maxRecDepth 100000 in
set_option maxHeartbeats 4000000 in
theorem S_logfile_Check {l_ : Slc} {w : World} {R : Int → World → Prop} (h : F_logfile_Check l_ R w) : C_logfile_Check l_ w R := by
  unfold F_logfile_Check at h
  unfold C_logfile_Check
  refine Calls.mono (calls_of_wpE (args := [Value.slice l_.ptr l_.len l_.cap]) (R := fun v w' => ∃ (r0 : Int), v = Value.int .i64 r0 ∧ R r0 w') Try.func80 (c := c_logfile_Check_0) (by kernel_rfl) 21 (by kernel_rfl) (by kernel_rfl) [(0, Value.slice l_.ptr l_.len l_.cap)] (by kernel_rfl) ?_) ?_
  · refine wpE_seq (x := c_logfile_Check_1) (y := c_logfile_Check_3) (by kernel_rfl) ?_
    refine wpE_region (id := 0) (ops := r_logfile_Check_1) (by kernel_rfl) ?_
    refine reg_run [.plain] 1 [(0, [], Value.slice l_.ptr l_.len l_.cap)] (by kernel_rfl) (by kernel_rfl) ?_
    refine reg_end [(0, Value.slice l_.ptr l_.len l_.cap)] (by kernel_rfl) (by kernel_rfl) ?_
    change WpE _ _ c_logfile_Check_3 _ _ _
    refine wpE_seq (x := c_logfile_Check_4) (y := c_logfile_Check_6) (by kernel_rfl) ?_
    refine wpE_region (id := 1) (ops := r_logfile_Check_4) (by kernel_rfl) ?_
    refine reg_run [] 0 [(0, [], Value.slice l_.ptr l_.len l_.cap)] (by kernel_rfl) (by kernel_rfl) ?_
    refine reg_enter (op := (Go.Op.call (Go.Call.mk (Go.Callee.value (Go.Operand.func 108)) #[] #[]))) (ty := 171) (dst := some 7) 108 #[] (by kernel_rfl) (fun ww => by kernel_rfl) (Calls.mono h ?_)
    rintro _ w1 ⟨v7, rfl, h⟩
    refine ⟨_, rfl, ?_⟩
    refine reg_run [.plain] 2 [(0, [], Value.slice l_.ptr l_.len l_.cap), (3, [], v7)] (by kernel_rfl) (by kernel_rfl) ?_
    refine reg_end [(0, Value.slice l_.ptr l_.len l_.cap), (3, v7)] (by kernel_rfl) (by kernel_rfl) ?_
    change WpE _ _ c_logfile_Check_6 _ _ _
    refine wpE_seq (x := c_logfile_Check_7) (y := c_logfile_Check_38) (by kernel_rfl) ?_
    refine wpE_seq (x := c_logfile_Check_8) (y := c_logfile_Check_10) (by kernel_rfl) ?_
    refine wpE_region (id := 2) (ops := r_logfile_Check_8) (by kernel_rfl) ?_
    refine reg_run [.plain, .plain, .plain] 3 [(3, [], v7), (8, [], Value.slice l_.ptr l_.len l_.cap), (9, [], Value.int .i64 ((l_.len : Nat) : Int)), (10, [], Value.int .i64 0)] (by kernel_rfl) (by kernel_rfl) ?_
    refine reg_end [(3, v7), (8, Value.slice l_.ptr l_.len l_.cap), (9, Value.int .i64 ((l_.len : Nat) : Int)), (10, Value.int .i64 0)] (by kernel_rfl) (by kernel_rfl) ?_
    change WpE _ _ c_logfile_Check_10 _ _ _
    refine wpE_block (id := 0) (x := c_logfile_Check_11) (by kernel_rfl) ?_
    obtain ⟨I, μ, h0, hr⟩ := h
    refine wpE_loop (x := c_logfile_Check_12) (by kernel_rfl) (fun m l w => ∃ (t10 : Int), l = [(3, v7), (8, Value.slice l_.ptr l_.len l_.cap), (9, Value.int .i64 ((l_.len : Nat) : Int)), (10, Value.int .i64 t10)] ∧ I t10 w ∧ μ t10 w = m) (l' := [(3, v7), (8, Value.slice l_.ptr l_.len l_.cap), (9, Value.int .i64 ((l_.len : Nat) : Int)), (10, Value.int .i64 0)]) (Sub.mk (by kernel_rfl)) ⟨0, rfl, h0, rfl⟩ ?_
    rintro _ _ w2 ⟨t10, rfl, hI, rfl⟩
    obtain ⟨again_, again__h, h⟩ : ∃ again_ : Int → World → Prop, (∀ t10' w', again_ t10' w' → I t10' w' ∧ μ t10' w' < μ t10 w2) ∧ F_logfile_Check_L0 l_ R v7 again_ t10 w2 := ⟨_, fun _ _ h => h, hr t10 w2 hI⟩
    clear h0 hI
    unfold F_logfile_Check_L0 at h
    refine wpE_seq (x := c_logfile_Check_13) (y := c_logfile_Check_15) (by kernel_rfl) ?_
    refine wpE_region (id := 3) (ops := r_logfile_Check_13) (by kernel_rfl) ?_
    refine reg_run [.plain] 1 [(3, [], v7), (8, [], Value.slice l_.ptr l_.len l_.cap), (9, [], Value.int .i64 ((l_.len : Nat) : Int)), (10, [], Value.int .i64 t10), (11, [], Value.bool (decide (t10 < ((l_.len : Nat) : Int))))] (by kernel_rfl) (by kernel_rfl) ?_
    refine reg_end [(3, v7), (8, Value.slice l_.ptr l_.len l_.cap), (9, Value.int .i64 ((l_.len : Nat) : Int)), (10, Value.int .i64 t10), (11, Value.bool (decide (t10 < ((l_.len : Nat) : Int))))] (by kernel_rfl) (by kernel_rfl) ?_
    change WpE _ _ c_logfile_Check_15 _ _ _
    refine wpE_seq (x := c_logfile_Check_16) (y := c_logfile_Check_19) (by kernel_rfl) ?_
    refine wpE_cond (o := (Operand.tmp 11)) (b := (decide (t10 < ((l_.len : Nat) : Int)))) (x := c_logfile_Check_17) (y := c_logfile_Check_18) (by kernel_rfl) (by kernel_rfl) (fun hb => ?_) (fun hb => ?_)
    · replace h := h.1 hb
      refine wpE_skip (by kernel_rfl) ?_
      change WpE _ _ c_logfile_Check_19 _ _ _
      refine wpE_seq (x := c_logfile_Check_20) (y := c_logfile_Check_36) (by kernel_rfl) ?_
      refine wpE_block (id := 1) (x := c_logfile_Check_21) (by kernel_rfl) ?_
      refine wpE_seq (x := c_logfile_Check_22) (y := c_logfile_Check_24) (by kernel_rfl) ?_
      refine wpE_region (id := 4) (ops := r_logfile_Check_22) (by kernel_rfl) ?_
      refine reg_run [] 0 [(3, [], v7), (8, [], Value.slice l_.ptr l_.len l_.cap), (9, [], Value.int .i64 ((l_.len : Nat) : Int)), (10, [], Value.int .i64 t10)] (by kernel_rfl) (by kernel_rfl) ?_
      obtain ⟨hp_7, h⟩ := h
      refine reg_conv [(3, [], v7), (8, [], Value.slice (some ⟨(pblk l_.ptr), (poff l_.ptr), none⟩) l_.len l_.cap), (9, [], Value.int .i64 ((l_.len : Nat) : Int)), (10, [], Value.int .i64 t10)] (congrArg (fun pp => ([(3, [], v7), (8, [], Value.slice pp l_.len l_.cap), (9, [], Value.int .i64 ((l_.len : Nat) : Int)), (10, [], Value.int .i64 t10)] : GEnv)) hp_7) ?_
      obtain ⟨h0, h1, h⟩ := h
      refine reg_indexS (t := 22) (e := 42) (x := (Go.Operand.tmp 8)) (ix := (Go.Operand.tmp 10)) (b := (pblk l_.ptr)) (o := (poff l_.ptr)) (l := l_.len) (c := l_.cap) (k := .i64) (j := t10) (ty := 0) (dst := some 12) (sz := 2) (by kernel_rfl) (by kernel_rfl) (by kernel_rfl) (by kernel_rfl) (by kernel_rfl) h0 h1 ?_
      refine reg_run [] 1 [(3, [], v7), (8, [], Value.slice (some ⟨(pblk l_.ptr), (poff l_.ptr), none⟩) l_.len l_.cap), (9, [], Value.int .i64 ((l_.len : Nat) : Int)), (10, [], Value.int .i64 t10), (12, [], Value.pointer (some ⟨(pblk l_.ptr), (poff l_.ptr) + t10.toNat * 2, none⟩))] (by kernel_rfl) (by kernel_rfl) ?_
      obtain ⟨v13, hc, h⟩ := h
      refine reg_loadN (t := 42) (a := (Go.Operand.tmp 12)) (b := (pblk l_.ptr)) (o := ((poff l_.ptr) + t10.toNat * 2)) (ty := 42) (dst := some 13) [Value.int .i64 v13.Number, Value.slice v13.Writes.ptr v13.Writes.len v13.Writes.cap] (by kernel_rfl) (by kernel_rfl) (by kernel_rfl) (k := 2) (by kernel_rfl) (by kernel_rfl) hc ?_
      refine reg_run [] 2 [(3, [], v7), (8, [], Value.slice (some ⟨(pblk l_.ptr), (poff l_.ptr), none⟩) l_.len l_.cap), (9, [], Value.int .i64 ((l_.len : Nat) : Int)), (10, [], Value.int .i64 t10), (13, [], Value.agg #[Value.int .i64 v13.Number, Value.slice v13.Writes.ptr v13.Writes.len v13.Writes.cap])] (by kernel_rfl) (by kernel_rfl) ?_
      refine reg_new (op := (Go.Op.alloc 42)) (ty := 0) (dst := some 5) (fun bb => Value.pointer (some ⟨bb, 0, none⟩)) (Obj.cells ([Value.int .i64 0, Value.slice none 0 0]).toArray ty_api_Txn (0, 0)) (by kernel_rfl) (by kernel_rfl) (fun b_ w3 hb hw => ?_)
      replace h := h b_ w3 hb hw
      clear hb hw
      refine reg_run [] 3 [(3, [], v7), (5, [], Value.pointer (some ⟨b_, 0, none⟩)), (8, [], Value.slice (some ⟨(pblk l_.ptr), (poff l_.ptr), none⟩) l_.len l_.cap), (9, [], Value.int .i64 ((l_.len : Nat) : Int)), (10, [], Value.int .i64 t10), (13, [], Value.agg #[Value.int .i64 v13.Number, Value.slice v13.Writes.ptr v13.Writes.len v13.Writes.cap])] (by kernel_rfl) (by kernel_rfl) ?_
      obtain ⟨hc, h⟩ := h
      refine reg_store (t := 42) (a := (Go.Operand.tmp 5)) (x := (Go.Operand.tmp 13)) (b := b_) (o := 0) (ty := 0) (dst := none) [Value.int .i64 v13.Number, Value.slice v13.Writes.ptr v13.Writes.len v13.Writes.cap] (by kernel_rfl) (by kernel_rfl) (by kernel_rfl) (k := 2) (by kernel_rfl) (by kernel_rfl) (by kernel_rfl) hc (fun w4 hw => ?_)
      replace h := h w4 hw
      clear hw
      refine reg_run [] 4 [(3, [], v7), (5, [], Value.pointer (some ⟨b_, 0, none⟩)), (8, [], Value.slice (some ⟨(pblk l_.ptr), (poff l_.ptr), none⟩) l_.len l_.cap), (9, [], Value.int .i64 ((l_.len : Nat) : Int)), (10, [], Value.int .i64 t10)] (by kernel_rfl) (by kernel_rfl) ?_
      refine reg_conv [(3, [], v7), (5, [], Value.pointer (some ⟨b_, 0, none⟩)), (8, [], Value.slice l_.ptr l_.len l_.cap), (9, [], Value.int .i64 ((l_.len : Nat) : Int)), (10, [], Value.int .i64 t10)] (congrArg (fun pp => ([(3, [], v7), (5, [], Value.pointer (some ⟨b_, 0, none⟩)), (8, [], Value.slice pp l_.len l_.cap), (9, [], Value.int .i64 ((l_.len : Nat) : Int)), (10, [], Value.int .i64 t10)] : GEnv)) hp_7.symm) ?_
      refine reg_end [(3, v7), (5, Value.pointer (some ⟨b_, 0, none⟩)), (8, Value.slice l_.ptr l_.len l_.cap), (9, Value.int .i64 ((l_.len : Nat) : Int)), (10, Value.int .i64 t10)] (by kernel_rfl) (by kernel_rfl) ?_
      change WpE _ _ c_logfile_Check_24 _ _ _
      refine wpE_seq (x := c_logfile_Check_25) (y := c_logfile_Check_27) (by kernel_rfl) ?_
      refine wpE_region (id := 5) (ops := r_logfile_Check_25) (by kernel_rfl) ?_
      refine reg_run [.plain] 1 [(3, [], v7), (5, [], Value.pointer (some ⟨b_, 0, none⟩)), (8, [], Value.slice l_.ptr l_.len l_.cap), (9, [], Value.int .i64 ((l_.len : Nat) : Int)), (10, [], Value.int .i64 t10), (14, [], v7)] (by kernel_rfl) (by kernel_rfl) ?_
      obtain ⟨v15, hc, h⟩ := h
      refine reg_loadN (t := 42) (a := (Go.Operand.tmp 5)) (b := b_) (o := 0) (ty := 42) (dst := some 15) [Value.int .i64 v15.Number, Value.slice v15.Writes.ptr v15.Writes.len v15.Writes.cap] (by kernel_rfl) (by kernel_rfl) (by kernel_rfl) (k := 2) (by kernel_rfl) (by kernel_rfl) hc ?_
      refine reg_run [] 2 [(3, [], v7), (8, [], Value.slice l_.ptr l_.len l_.cap), (9, [], Value.int .i64 ((l_.len : Nat) : Int)), (10, [], Value.int .i64 t10), (14, [], v7), (15, [], Value.agg #[Value.int .i64 v15.Number, Value.slice v15.Writes.ptr v15.Writes.len v15.Writes.cap])] (by kernel_rfl) (by kernel_rfl) ?_
      refine reg_enterV (fo := (Go.Operand.tmp 14)) (aa := #[(Go.Operand.tmp 15)]) (ts := #[42]) (fv := v7) (ty := 32) (dst := some 16) #[Value.agg #[Value.int .i64 v15.Number, Value.slice v15.Writes.ptr v15.Writes.len v15.Writes.cap]] (by kernel_rfl) (by kernel_rfl) (by kernel_rfl) (CallsV.mono h ?_)
      rintro _ w5 ⟨v16, rfl, h⟩
      refine ⟨_, rfl, ?_⟩
      refine reg_run [.plain] 4 [(3, [], v7), (6, [], Value.int .i64 v16), (8, [], Value.slice l_.ptr l_.len l_.cap), (9, [], Value.int .i64 ((l_.len : Nat) : Int)), (10, [], Value.int .i64 t10)] (by kernel_rfl) (by kernel_rfl) ?_
      refine reg_end [(3, v7), (6, Value.int .i64 v16), (8, Value.slice l_.ptr l_.len l_.cap), (9, Value.int .i64 ((l_.len : Nat) : Int)), (10, Value.int .i64 t10)] (by kernel_rfl) (by kernel_rfl) ?_
      change WpE _ _ c_logfile_Check_27 _ _ _
      refine wpE_seq (x := c_logfile_Check_28) (y := c_logfile_Check_30) (by kernel_rfl) ?_
      refine wpE_region (id := 6) (ops := r_logfile_Check_28) (by kernel_rfl) ?_
      refine reg_run [.plain, .plain] 2 [(3, [], v7), (6, [], Value.int .i64 v16), (8, [], Value.slice l_.ptr l_.len l_.cap), (9, [], Value.int .i64 ((l_.len : Nat) : Int)), (10, [], Value.int .i64 t10), (18, [], Value.bool (v16 != 0))] (by kernel_rfl) (by kernel_rfl) ?_
      refine reg_end [(3, v7), (6, Value.int .i64 v16), (8, Value.slice l_.ptr l_.len l_.cap), (9, Value.int .i64 ((l_.len : Nat) : Int)), (10, Value.int .i64 t10), (18, Value.bool (v16 != 0))] (by kernel_rfl) (by kernel_rfl) ?_
      change WpE _ _ c_logfile_Check_30 _ _ _
      refine wpE_cond (o := (Operand.tmp 18)) (b := (v16 != 0)) (x := c_logfile_Check_31) (y := c_logfile_Check_35) (by kernel_rfl) (by kernel_rfl) (fun hb => ?_) (fun hb => ?_)
      · replace h := h.1 hb
        refine wpE_seq (x := c_logfile_Check_32) (y := c_logfile_Check_34) (by kernel_rfl) ?_
        refine wpE_region (id := 7) (ops := r_logfile_Check_32) (by kernel_rfl) ?_
        refine reg_run [.plain, .plain] 2 [(2, [], Value.int .i64 v16)] (by kernel_rfl) (by kernel_rfl) ?_
        refine reg_end [(2, Value.int .i64 v16)] (by kernel_rfl) (by kernel_rfl) ?_
        change WpE _ _ c_logfile_Check_34 _ _ _
        refine wpE_ret (by kernel_rfl) ?_
        repeat (first | refine seqQ_ret ?_ | refine blockQ_ret ?_ | refine loopQ_ret ?_ | refine cutQ_ret ?_)
        exact retS (rs := [(Go.ResultVar.tmp 2)]) (v := Value.int .i64 v16) (by kernel_rfl) (⟨by kernel_rfl, trivial⟩) ⟨v16, rfl, h⟩
      · replace h := h.2 hb
        refine wpE_skip (by kernel_rfl) ?_
        change WpE _ _ c_logfile_Check_36 _ _ _
        refine wpE_region (id := 8) (ops := r_logfile_Check_36) (by kernel_rfl) ?_
        refine reg_run [.plain, .plain] 2 [(3, [], v7), (8, [], Value.slice l_.ptr l_.len l_.cap), (9, [], Value.int .i64 ((l_.len : Nat) : Int)), (10, [], Value.int .i64 (IntKind.i64.wrap (t10 + 1)))] (by kernel_rfl) (by kernel_rfl) ?_
        refine reg_end [(3, v7), (8, Value.slice l_.ptr l_.len l_.cap), (9, Value.int .i64 ((l_.len : Nat) : Int)), (10, Value.int .i64 (IntKind.i64.wrap (t10 + 1)))] (by kernel_rfl) (by kernel_rfl) ?_
        have hb_ := again__h _ _ h
        exact ⟨_, hb_.2, [(3, v7), (8, Value.slice l_.ptr l_.len l_.cap), (9, Value.int .i64 ((l_.len : Nat) : Int)), (10, Value.int .i64 (IntKind.i64.wrap (t10 + 1)))], Sub.mk (by kernel_rfl), (IntKind.i64.wrap (t10 + 1)), rfl, hb_.1, rfl⟩
    · replace h := h.2 hb
      refine wpE_exit (id := 0) (by kernel_rfl) ?_
      change WpE _ _ c_logfile_Check_38 _ _ _
      refine wpE_seq (x := c_logfile_Check_39) (y := c_logfile_Check_41) (by kernel_rfl) ?_
      refine wpE_region (id := 9) (ops := r_logfile_Check_39) (by kernel_rfl) ?_
      refine reg_run [.plain] 1 [(2, [], Value.int .i64 0)] (by kernel_rfl) (by kernel_rfl) ?_
      refine reg_end [(2, Value.int .i64 0)] (by kernel_rfl) (by kernel_rfl) ?_
      change WpE _ _ c_logfile_Check_41 _ _ _
      refine wpE_ret (by kernel_rfl) ?_
      repeat (first | refine seqQ_ret ?_ | refine blockQ_ret ?_ | refine loopQ_ret ?_ | refine cutQ_ret ?_)
      exact retS (rs := [(Go.ResultVar.tmp 2)]) (v := Value.int .i64 0) (by kernel_rfl) (⟨by kernel_rfl, trivial⟩) ⟨0, rfl, h⟩
  · rintro e w' ⟨v, rfl, r0, rfl, h⟩; exact ⟨r0, rfl, h⟩

/-! ### towpath/logfile.copied (function 81) -/
noncomputable def c_logfile_copied_0 : Code := (Try.f81.body).getD Code.skip
noncomputable def c_logfile_copied_1 : Code := Code.l c_logfile_copied_0
noncomputable def r_logfile_copied_1 : Array Oper := Code.ops c_logfile_copied_1
noncomputable def c_logfile_copied_3 : Code := Code.r c_logfile_copied_0
noncomputable def c_logfile_copied_4 : Code := Code.l c_logfile_copied_3
noncomputable def r_logfile_copied_4 : Array Oper := Code.ops c_logfile_copied_4
noncomputable def c_logfile_copied_6 : Code := Code.r c_logfile_copied_3
def o_logfile_copied_4 : List Nat := [0, 1, 2, 3, 4, 5, 6]

set_option maxRecDepth 100000 in
set_option maxHeartbeats 4000000 in
theorem S_logfile_copied {t_ : T_api_Txn} {w : World} {R : T_api_Txn → World → Prop} (h : F_logfile_copied t_ R w) : C_logfile_copied t_ w R := by
  unfold F_logfile_copied at h
  unfold C_logfile_copied
  refine Calls.mono (calls_of_wpE (args := [Value.agg #[Value.int .i64 t_.Number, Value.slice t_.Writes.ptr t_.Writes.len t_.Writes.cap]]) (R := fun v w' => ∃ (r0 : T_api_Txn), v = Value.agg #[Value.int .i64 r0.Number, Value.slice r0.Writes.ptr r0.Writes.len r0.Writes.cap] ∧ R r0 w') Try.func81 (c := c_logfile_copied_0) (by kernel_rfl) 9 (by kernel_rfl) (by kernel_rfl) [(0, Value.agg #[Value.int .i64 t_.Number, Value.slice t_.Writes.ptr t_.Writes.len t_.Writes.cap])] (by kernel_rfl) ?_) ?_
  · refine wpE_seq (x := c_logfile_copied_1) (y := c_logfile_copied_3) (by kernel_rfl) ?_
    refine wpE_region (id := 0) (ops := r_logfile_copied_1) (by kernel_rfl) ?_
    refine reg_run [] 0 [(0, [], Value.agg #[Value.int .i64 t_.Number, Value.slice t_.Writes.ptr t_.Writes.len t_.Writes.cap])] (by kernel_rfl) (by kernel_rfl) ?_
    refine reg_new (op := (Go.Op.box 42 (Go.Operand.tmp 0))) (ty := 0) (dst := some 1) (fun bb => Value.pointer (some ⟨bb, 0, none⟩)) (Obj.cells ([Value.int .i64 t_.Number, Value.slice t_.Writes.ptr t_.Writes.len t_.Writes.cap]).toArray ty_api_Txn (0, 0)) (by kernel_rfl) (by kernel_rfl) (fun b_ w1 hb hw => ?_)
    replace h := h b_ w1 hb hw
    clear hb hw
    refine reg_run [] 1 [(1, [], Value.pointer (some ⟨b_, 0, none⟩))] (by kernel_rfl) (by kernel_rfl) ?_
    refine reg_new (op := (Go.Op.alloc 42)) (ty := 0) (dst := some 2) (fun bb => Value.pointer (some ⟨bb, 0, none⟩)) (Obj.cells ([Value.int .i64 0, Value.slice none 0 0]).toArray ty_api_Txn (0, 0)) (by kernel_rfl) (by kernel_rfl) (fun b_1 w2 hb hw => ?_)
    replace h := h b_1 w2 hb hw
    clear hb hw
    refine reg_end [(1, Value.pointer (some ⟨b_, 0, none⟩)), (2, Value.pointer (some ⟨b_1, 0, none⟩))] (by kernel_rfl) (by kernel_rfl) ?_
    change WpE _ _ c_logfile_copied_3 _ _ _
    refine wpE_seq (x := c_logfile_copied_4) (y := c_logfile_copied_6) (by kernel_rfl) ?_
    refine wpE_mixregion (id := 1) (ops := r_logfile_copied_4) o_logfile_copied_4 (by kernel_rfl) (by kernel_rfl) (by kernel_rfl) (by kernel_rfl) (fun w3 hw => ?_)
    replace h := h w3 hw
    clear hw
    refine mreg_run [.plain] 1 [(1, [], Value.pointer (some ⟨b_, 0, none⟩)), (2, [], Value.pointer (some ⟨b_1, 0, none⟩)), (3, [], Value.pointer (some ⟨b_, 0, none⟩))] (by kernel_rfl) (by kernel_rfl) ?_
    obtain ⟨v4, hc, h⟩ := h
    refine mreg_load1 (i := 1) (by kernel_rfl) (t := 3) (a := (Go.Operand.tmp 3)) (b := b_) (o := 0) (ty := 3) (dst := some 4) (by kernel_rfl) (by kernel_rfl) (by kernel_rfl) hc ?_
    refine mreg_run [.plain] 3 [(2, [], Value.pointer (some ⟨b_1, 0, none⟩)), (4, [], Value.int .i64 v4), (5, [], Value.pointer (some ⟨b_, 1, none⟩))] (by kernel_rfl) (by kernel_rfl) ?_
    obtain ⟨v6, hc, h⟩ := h
    refine mreg_load1 (i := 3) (by kernel_rfl) (t := 40) (a := (Go.Operand.tmp 5)) (b := b_) (o := 1) (ty := 40) (dst := some 6) (by kernel_rfl) (by kernel_rfl) (by kernel_rfl) hc ?_
    refine mreg_run [] 4 [(2, [], Value.pointer (some ⟨b_1, 0, none⟩)), (4, [], Value.int .i64 v4), (6, [], Value.slice v6.ptr v6.len v6.cap)] (by kernel_rfl) (by kernel_rfl) ?_
    refine mreg_enter (op := (Go.Op.call (Go.Call.mk (Go.Callee.value (Go.Operand.func 109)) #[(Go.Operand.tmp 6)] #[40]))) (ty := 40) (dst := some 7) 4 [3, 2] [(1, fun w' => w'.cell? ⟨b_, 0, none⟩ = some (Value.int .i64 v4))] 109 #[Value.slice v6.ptr v6.len v6.cap] (by kernel_rfl) (by kernel_rfl) (by kernel_rfl) (by kernel_rfl) (by kernel_rfl) (fun ww => by kernel_rfl) (Calls.mono h ?_)
    rintro _ w4 ⟨v7, rfl, h⟩
    obtain ⟨hk0, h⟩ := h
    refine ⟨_, rfl, ⟨hk0, trivial⟩, ?_⟩
    refine mreg_run [.plain] 6 [(2, [], Value.pointer (some ⟨b_1, 0, none⟩)), (8, [], Value.agg #[Value.int .i64 v4, Value.slice v7.ptr v7.len v7.cap])] (by kernel_rfl) (by kernel_rfl) ?_
    obtain ⟨hc, h⟩ := h
    refine mreg_store (t := 42) (a := (Go.Operand.tmp 2)) (x := (Go.Operand.tmp 8)) (b := b_1) (o := 0) (k := 2) (ty := 0) (dst := none) 6 [0, 1, 2, 3, 4, 5] [] [Value.int .i64 v4, Value.slice v7.ptr v7.len v7.cap] (by kernel_rfl) (by kernel_rfl) (by kernel_rfl) (by kernel_rfl) (by kernel_rfl) (by kernel_rfl) (by kernel_rfl) (by kernel_rfl) (by kernel_rfl) (by kernel_rfl) hc (fun w5 hw => ?_)
    replace h := h w5 hw
    clear hw
    refine ⟨trivial, ?_⟩
    refine mreg_end [(2, Value.pointer (some ⟨b_1, 0, none⟩))] (by kernel_rfl) (by kernel_rfl) (by kernel_rfl) ?_
    change WpE _ _ c_logfile_copied_6 _ _ _
    refine wpE_ret (by kernel_rfl) ?_
    obtain ⟨res, hc_res, h⟩ := h
    repeat (first | refine seqQ_ret ?_ | refine blockQ_ret ?_ | refine loopQ_ret ?_ | refine cutQ_ret ?_)
    exact retS (rs := [(Go.ResultVar.cell 2 42)]) (v := Value.agg #[Value.int .i64 res.Number, Value.slice res.Writes.ptr res.Writes.len res.Writes.cap]) (by kernel_rfl) (⟨b_1, 0, [Value.int .i64 res.Number, Value.slice res.Writes.ptr res.Writes.len res.Writes.cap], by kernel_rfl, hc_res, (sizeP_of (k := 2) (by kernel_rfl) (by kernel_rfl)), .inl ⟨by kernel_rfl, rfl⟩, trivial⟩) ⟨res, rfl, h⟩
  · rintro e w' ⟨v, rfl, r0, rfl, h⟩; exact ⟨r0, rfl, h⟩

/-! ### towpath/logfile.turns (function 108) -/
noncomputable def c_logfile_turns_0 : Code := (Try.f108.body).getD Code.skip
noncomputable def c_logfile_turns_1 : Code := Code.l c_logfile_turns_0
noncomputable def r_logfile_turns_1 : Array Oper := Code.ops c_logfile_turns_1
noncomputable def c_logfile_turns_3 : Code := Code.r c_logfile_turns_0
noncomputable def c_logfile_turns_4 : Code := Code.l c_logfile_turns_3
noncomputable def r_logfile_turns_4 : Array Oper := Code.ops c_logfile_turns_4
noncomputable def c_logfile_turns_6 : Code := Code.r c_logfile_turns_3
noncomputable def c_logfile_turns_7 : Code := Code.l c_logfile_turns_6
noncomputable def r_logfile_turns_7 : Array Oper := Code.ops c_logfile_turns_7
noncomputable def c_logfile_turns_9 : Code := Code.r c_logfile_turns_6

set_option maxRecDepth 100000 in
set_option maxHeartbeats 4000000 in
theorem S_logfile_turns {w : World} {R : Value → World → Prop} (h : F_logfile_turns R w) : C_logfile_turns w R := by
  unfold F_logfile_turns at h
  unfold C_logfile_turns
  refine Calls.mono (calls_of_wpE (args := []) (R := fun v w' => ∃ (r0 : Value), v = r0 ∧ R r0 w') Try.func108 (c := c_logfile_turns_0) (by kernel_rfl) 3 (by kernel_rfl) (by kernel_rfl) [] (by kernel_rfl) ?_) ?_
  · refine wpE_seq (x := c_logfile_turns_1) (y := c_logfile_turns_3) (by kernel_rfl) ?_
    refine wpE_region (id := 0) (ops := r_logfile_turns_1) (by kernel_rfl) ?_
    refine reg_run [.plain] 1 [] (by kernel_rfl) (by kernel_rfl) ?_
    refine reg_end [] (by kernel_rfl) (by kernel_rfl) ?_
    change WpE _ _ c_logfile_turns_3 _ _ _
    refine wpE_seq (x := c_logfile_turns_4) (y := c_logfile_turns_6) (by kernel_rfl) ?_
    refine wpE_region (id := 1) (ops := r_logfile_turns_4) (by kernel_rfl) ?_
    refine reg_run [] 0 [] (by kernel_rfl) (by kernel_rfl) ?_
    refine reg_new (op := (Go.Op.alloc 3)) (ty := 0) (dst := some 1) (fun bb => Value.pointer (some ⟨bb, 0, none⟩)) (Obj.cells ([Value.int .i64 0]).toArray ty_int (0, 0)) (by kernel_rfl) (by kernel_rfl) (fun b_ w1 hb hw => ?_)
    replace h := h b_ w1 hb hw
    clear hb hw
    refine reg_run [] 1 [(1, [], Value.pointer (some ⟨b_, 0, none⟩))] (by kernel_rfl) (by kernel_rfl) ?_
    obtain ⟨hc, h⟩ := h
    refine reg_store (t := 3) (a := (Go.Operand.tmp 1)) (x := (Go.Operand.const (Go.Value.int Go.IntKind.i64 1))) (b := b_) (o := 0) (ty := 0) (dst := none) [Value.int .i64 1] (by kernel_rfl) (by kernel_rfl) (by kernel_rfl) (k := 1) (by kernel_rfl) (by kernel_rfl) (by kernel_rfl) hc (fun w2 hw => ?_)
    replace h := h w2 hw
    clear hw
    refine reg_end [(1, Value.pointer (some ⟨b_, 0, none⟩))] (by kernel_rfl) (by kernel_rfl) ?_
    change WpE _ _ c_logfile_turns_6 _ _ _
    refine wpE_seq (x := c_logfile_turns_7) (y := c_logfile_turns_9) (by kernel_rfl) ?_
    refine wpE_region (id := 2) (ops := r_logfile_turns_7) (by kernel_rfl) ?_
    refine reg_run [.plain, .plain] 2 [(0, [], Value.func (.func 122) #[] #[Value.pointer (some ⟨b_, 0, none⟩)])] (by kernel_rfl) (by kernel_rfl) ?_
    refine reg_end [(0, Value.func (.func 122) #[] #[Value.pointer (some ⟨b_, 0, none⟩)])] (by kernel_rfl) (by kernel_rfl) ?_
    change WpE _ _ c_logfile_turns_9 _ _ _
    refine wpE_ret (by kernel_rfl) ?_
    repeat (first | refine seqQ_ret ?_ | refine blockQ_ret ?_ | refine loopQ_ret ?_ | refine cutQ_ret ?_)
    exact retS (rs := [(Go.ResultVar.tmp 0)]) (v := Value.func (.func 122) #[] #[Value.pointer (some ⟨b_, 0, none⟩)]) (by kernel_rfl) (⟨by kernel_rfl, trivial⟩) ⟨(Value.func (.func 122) #[] #[Value.pointer (some ⟨b_, 0, none⟩)]), rfl, h⟩
  · rintro e w' ⟨v, rfl, r0, rfl, h⟩; exact ⟨_, rfl, h⟩

/-! ### towpath/logfile.turns$1 (function 122) -/
noncomputable def c_logfile_turns_1_0 : Code := (Try.f122.body).getD Code.skip
noncomputable def c_logfile_turns_1_1 : Code := Code.l c_logfile_turns_1_0
noncomputable def r_logfile_turns_1_1 : Array Oper := Code.ops c_logfile_turns_1_1
noncomputable def c_logfile_turns_1_3 : Code := Code.r c_logfile_turns_1_0
noncomputable def c_logfile_turns_1_4 : Code := Code.l c_logfile_turns_1_3
noncomputable def c_logfile_turns_1_5 : Code := Code.l c_logfile_turns_1_4
noncomputable def r_logfile_turns_1_5 : Array Oper := Code.ops c_logfile_turns_1_5
noncomputable def c_logfile_turns_1_7 : Code := Code.r c_logfile_turns_1_4
noncomputable def c_logfile_turns_1_8 : Code := Code.l c_logfile_turns_1_7
noncomputable def r_logfile_turns_1_8 : Array Oper := Code.ops c_logfile_turns_1_8
noncomputable def c_logfile_turns_1_10 : Code := Code.r c_logfile_turns_1_7
noncomputable def c_logfile_turns_1_11 : Code := Code.l c_logfile_turns_1_10
noncomputable def c_logfile_turns_1_12 : Code := Code.l c_logfile_turns_1_11
noncomputable def r_logfile_turns_1_12 : Array Oper := Code.ops c_logfile_turns_1_12
noncomputable def c_logfile_turns_1_14 : Code := Code.r c_logfile_turns_1_11
noncomputable def c_logfile_turns_1_15 : Code := Code.r c_logfile_turns_1_10
noncomputable def c_logfile_turns_1_16 : Code := Code.r c_logfile_turns_1_3
noncomputable def c_logfile_turns_1_17 : Code := Code.l c_logfile_turns_1_16
noncomputable def c_logfile_turns_1_18 : Code := Code.l c_logfile_turns_1_17
noncomputable def r_logfile_turns_1_18 : Array Oper := Code.ops c_logfile_turns_1_18
noncomputable def c_logfile_turns_1_20 : Code := Code.r c_logfile_turns_1_17
noncomputable def c_logfile_turns_1_21 : Code := Code.l c_logfile_turns_1_20
noncomputable def c_logfile_turns_1_22 : Code := Code.l c_logfile_turns_1_21
noncomputable def r_logfile_turns_1_22 : Array Oper := Code.ops c_logfile_turns_1_22
noncomputable def c_logfile_turns_1_24 : Code := Code.r c_logfile_turns_1_21
noncomputable def c_logfile_turns_1_25 : Code := Code.r c_logfile_turns_1_20
noncomputable def c_logfile_turns_1_26 : Code := Code.r c_logfile_turns_1_16
noncomputable def c_logfile_turns_1_27 : Code := Code.l c_logfile_turns_1_26
noncomputable def r_logfile_turns_1_27 : Array Oper := Code.ops c_logfile_turns_1_27
noncomputable def c_logfile_turns_1_29 : Code := Code.r c_logfile_turns_1_26
noncomputable def c_logfile_turns_1_30 : Code := Code.l c_logfile_turns_1_29
noncomputable def r_logfile_turns_1_30 : Array Oper := Code.ops c_logfile_turns_1_30
noncomputable def c_logfile_turns_1_32 : Code := Code.r c_logfile_turns_1_29

set_option maxRecDepth 100000 in
set_option maxHeartbeats 4000000 in
theorem S_logfile_turns_1 {t_ : T_api_Txn} {t1 : Option Addr} {w : World} {R : Int → World → Prop} (h : F_logfile_turns_1 t_ t1 R w) : C_logfile_turns_1 t_ t1 w R := by
  unfold F_logfile_turns_1 at h
  unfold C_logfile_turns_1
  refine Calls.mono (calls_of_wpE (args := [Value.agg #[Value.int .i64 t_.Number, Value.slice t_.Writes.ptr t_.Writes.len t_.Writes.cap], Value.pointer t1]) (R := fun v w' => ∃ (r0 : Int), v = Value.int .i64 r0 ∧ R r0 w') Try.func122 (c := c_logfile_turns_1_0) (by kernel_rfl) 16 (by kernel_rfl) (by kernel_rfl) [(0, Value.agg #[Value.int .i64 t_.Number, Value.slice t_.Writes.ptr t_.Writes.len t_.Writes.cap]), (1, Value.pointer t1)] (by kernel_rfl) ?_) ?_
  · refine wpE_seq (x := c_logfile_turns_1_1) (y := c_logfile_turns_1_3) (by kernel_rfl) ?_
    refine wpE_region (id := 0) (ops := r_logfile_turns_1_1) (by kernel_rfl) ?_
    refine reg_run [] 0 [(0, [], Value.agg #[Value.int .i64 t_.Number, Value.slice t_.Writes.ptr t_.Writes.len t_.Writes.cap]), (1, [], Value.pointer t1)] (by kernel_rfl) (by kernel_rfl) ?_
    refine reg_new (op := (Go.Op.box 42 (Go.Operand.tmp 0))) (ty := 0) (dst := some 2) (fun bb => Value.pointer (some ⟨bb, 0, none⟩)) (Obj.cells ([Value.int .i64 t_.Number, Value.slice t_.Writes.ptr t_.Writes.len t_.Writes.cap]).toArray ty_api_Txn (0, 0)) (by kernel_rfl) (by kernel_rfl) (fun b_ w1 hb hw => ?_)
    replace h := h b_ w1 hb hw
    clear hb hw
    refine reg_run [.plain] 2 [(1, [], Value.pointer t1), (2, [], Value.pointer (some ⟨b_, 0, none⟩))] (by kernel_rfl) (by kernel_rfl) ?_
    refine reg_end [(1, Value.pointer t1), (2, Value.pointer (some ⟨b_, 0, none⟩))] (by kernel_rfl) (by kernel_rfl) ?_
    change WpE _ _ c_logfile_turns_1_3 _ _ _
    refine wpE_seq (x := c_logfile_turns_1_4) (y := c_logfile_turns_1_16) (by kernel_rfl) ?_
    refine wpE_seq (x := c_logfile_turns_1_5) (y := c_logfile_turns_1_7) (by kernel_rfl) ?_
    refine wpE_region (id := 1) (ops := r_logfile_turns_1_5) (by kernel_rfl) ?_
    refine reg_run [] 0 [(1, [], Value.pointer t1), (2, [], Value.pointer (some ⟨b_, 0, none⟩))] (by kernel_rfl) (by kernel_rfl) ?_
    obtain ⟨v5, hc, h⟩ := h
    refine reg_loadN (t := 42) (a := (Go.Operand.tmp 2)) (b := b_) (o := 0) (ty := 42) (dst := some 5) [Value.int .i64 v5.Number, Value.slice v5.Writes.ptr v5.Writes.len v5.Writes.cap] (by kernel_rfl) (by kernel_rfl) (by kernel_rfl) (k := 2) (by kernel_rfl) (by kernel_rfl) hc ?_
    refine reg_run [] 1 [(1, [], Value.pointer t1), (2, [], Value.pointer (some ⟨b_, 0, none⟩)), (5, [], Value.agg #[Value.int .i64 v5.Number, Value.slice v5.Writes.ptr v5.Writes.len v5.Writes.cap])] (by kernel_rfl) (by kernel_rfl) ?_
    refine reg_enter (op := (Go.Op.call (Go.Call.mk (Go.Callee.value (Go.Operand.func 123)) #[(Go.Operand.tmp 5)] #[42]))) (ty := 32) (dst := some 6) 123 #[Value.agg #[Value.int .i64 v5.Number, Value.slice v5.Writes.ptr v5.Writes.len v5.Writes.cap]] (by kernel_rfl) (fun ww => by kernel_rfl) (Calls.mono h ?_)
    rintro _ w2 ⟨v6, rfl, h⟩
    refine ⟨_, rfl, ?_⟩
    refine reg_run [.plain] 3 [(1, [], Value.pointer t1), (2, [], Value.pointer (some ⟨b_, 0, none⟩)), (4, [], Value.int .i64 v6)] (by kernel_rfl) (by kernel_rfl) ?_
    refine reg_end [(1, Value.pointer t1), (2, Value.pointer (some ⟨b_, 0, none⟩)), (4, Value.int .i64 v6)] (by kernel_rfl) (by kernel_rfl) ?_
    change WpE _ _ c_logfile_turns_1_7 _ _ _
    refine wpE_seq (x := c_logfile_turns_1_8) (y := c_logfile_turns_1_10) (by kernel_rfl) ?_
    refine wpE_region (id := 2) (ops := r_logfile_turns_1_8) (by kernel_rfl) ?_
    refine reg_run [.plain, .plain] 2 [(1, [], Value.pointer t1), (2, [], Value.pointer (some ⟨b_, 0, none⟩)), (4, [], Value.int .i64 v6), (8, [], Value.bool (v6 != 0))] (by kernel_rfl) (by kernel_rfl) ?_
    refine reg_end [(1, Value.pointer t1), (2, Value.pointer (some ⟨b_, 0, none⟩)), (4, Value.int .i64 v6), (8, Value.bool (v6 != 0))] (by kernel_rfl) (by kernel_rfl) ?_
    change WpE _ _ c_logfile_turns_1_10 _ _ _
    refine wpE_cond (o := (Operand.tmp 8)) (b := (v6 != 0)) (x := c_logfile_turns_1_11) (y := c_logfile_turns_1_15) (by kernel_rfl) (by kernel_rfl) (fun hb => ?_) (fun hb => ?_)
    · replace h := h.1 hb
      refine wpE_seq (x := c_logfile_turns_1_12) (y := c_logfile_turns_1_14) (by kernel_rfl) ?_
      refine wpE_region (id := 3) (ops := r_logfile_turns_1_12) (by kernel_rfl) ?_
      refine reg_run [.plain, .plain] 2 [(3, [], Value.int .i64 v6)] (by kernel_rfl) (by kernel_rfl) ?_
      refine reg_end [(3, Value.int .i64 v6)] (by kernel_rfl) (by kernel_rfl) ?_
      change WpE _ _ c_logfile_turns_1_14 _ _ _
      refine wpE_ret (by kernel_rfl) ?_
      repeat (first | refine seqQ_ret ?_ | refine blockQ_ret ?_ | refine loopQ_ret ?_ | refine cutQ_ret ?_)
      exact retS (rs := [(Go.ResultVar.tmp 3)]) (v := Value.int .i64 v6) (by kernel_rfl) (⟨by kernel_rfl, trivial⟩) ⟨v6, rfl, h⟩
    · replace h := h.2 hb
      refine wpE_skip (by kernel_rfl) ?_
      change WpE _ _ c_logfile_turns_1_16 _ _ _
      refine wpE_seq (x := c_logfile_turns_1_17) (y := c_logfile_turns_1_26) (by kernel_rfl) ?_
      refine wpE_seq (x := c_logfile_turns_1_18) (y := c_logfile_turns_1_20) (by kernel_rfl) ?_
      refine wpE_region (id := 4) (ops := r_logfile_turns_1_18) (by kernel_rfl) ?_
      refine reg_run [.plain] 1 [(1, [], Value.pointer t1), (10, [], Value.pointer (some ⟨b_, 0, none⟩))] (by kernel_rfl) (by kernel_rfl) ?_
      obtain ⟨v11, hc, h⟩ := h
      refine reg_load1 (t := 3) (a := (Go.Operand.tmp 10)) (b := b_) (o := 0) (ty := 3) (dst := some 11) (by kernel_rfl) (by kernel_rfl) (by kernel_rfl) hc ?_
      refine reg_run [] 2 [(1, [], Value.pointer t1), (11, [], Value.int .i64 v11)] (by kernel_rfl) (by kernel_rfl) ?_
      obtain ⟨hp_3, h⟩ := h
      refine reg_conv [(1, [], Value.pointer (some ⟨(pblk t1), (poff t1), none⟩)), (11, [], Value.int .i64 v11)] (congrArg (fun pp => ([(1, [], Value.pointer pp), (11, [], Value.int .i64 v11)] : GEnv)) hp_3) ?_
      obtain ⟨v12, hc, h⟩ := h
      refine reg_load1 (t := 3) (a := (Go.Operand.tmp 1)) (b := (pblk t1)) (o := (poff t1)) (ty := 3) (dst := some 12) (by kernel_rfl) (by kernel_rfl) (by kernel_rfl) hc ?_
      refine reg_run [.plain] 4 [(1, [], Value.pointer (some ⟨(pblk t1), (poff t1), none⟩)), (13, [], Value.bool (v11 != v12))] (by kernel_rfl) (by kernel_rfl) ?_
      refine reg_conv [(1, [], Value.pointer t1), (13, [], Value.bool (v11 != v12))] (congrArg (fun pp => ([(1, [], Value.pointer pp), (13, [], Value.bool (v11 != v12))] : GEnv)) hp_3.symm) ?_
      refine reg_end [(1, Value.pointer t1), (13, Value.bool (v11 != v12))] (by kernel_rfl) (by kernel_rfl) ?_
      change WpE _ _ c_logfile_turns_1_20 _ _ _
      refine wpE_cond (o := (Operand.tmp 13)) (b := (v11 != v12)) (x := c_logfile_turns_1_21) (y := c_logfile_turns_1_25) (by kernel_rfl) (by kernel_rfl) (fun hb => ?_) (fun hb => ?_)
      · replace h := h.1 hb
        refine wpE_seq (x := c_logfile_turns_1_22) (y := c_logfile_turns_1_24) (by kernel_rfl) ?_
        refine wpE_region (id := 5) (ops := r_logfile_turns_1_22) (by kernel_rfl) ?_
        refine reg_run [.plain] 1 [(3, [], Value.int .i64 6)] (by kernel_rfl) (by kernel_rfl) ?_
        refine reg_end [(3, Value.int .i64 6)] (by kernel_rfl) (by kernel_rfl) ?_
        change WpE _ _ c_logfile_turns_1_24 _ _ _
        refine wpE_ret (by kernel_rfl) ?_
        repeat (first | refine seqQ_ret ?_ | refine blockQ_ret ?_ | refine loopQ_ret ?_ | refine cutQ_ret ?_)
        exact retS (rs := [(Go.ResultVar.tmp 3)]) (v := Value.int .i64 6) (by kernel_rfl) (⟨by kernel_rfl, trivial⟩) ⟨6, rfl, h⟩
      · replace h := h.2 hb
        refine wpE_skip (by kernel_rfl) ?_
        change WpE _ _ c_logfile_turns_1_26 _ _ _
        refine wpE_seq (x := c_logfile_turns_1_27) (y := c_logfile_turns_1_29) (by kernel_rfl) ?_
        refine wpE_region (id := 6) (ops := r_logfile_turns_1_27) (by kernel_rfl) ?_
        refine reg_run [] 0 [(1, [], Value.pointer t1)] (by kernel_rfl) (by kernel_rfl) ?_
        obtain ⟨hp_5, h⟩ := h
        refine reg_conv [(1, [], Value.pointer (some ⟨(pblk t1), (poff t1), none⟩))] (congrArg (fun pp => ([(1, [], Value.pointer pp)] : GEnv)) hp_5) ?_
        obtain ⟨v14, hc, h⟩ := h
        refine reg_load1 (t := 3) (a := (Go.Operand.tmp 1)) (b := (pblk t1)) (o := (poff t1)) (ty := 3) (dst := some 14) (by kernel_rfl) (by kernel_rfl) (by kernel_rfl) hc ?_
        refine reg_run [.plain] 2 [(1, [], Value.pointer (some ⟨(pblk t1), (poff t1), none⟩)), (15, [], Value.int .i64 (IntKind.i64.wrap (v14 + 1)))] (by kernel_rfl) (by kernel_rfl) ?_
        obtain ⟨hc, h⟩ := h
        refine reg_store (t := 3) (a := (Go.Operand.tmp 1)) (x := (Go.Operand.tmp 15)) (b := (pblk t1)) (o := (poff t1)) (ty := 0) (dst := none) [Value.int .i64 (IntKind.i64.wrap (v14 + 1))] (by kernel_rfl) (by kernel_rfl) (by kernel_rfl) (k := 1) (by kernel_rfl) (by kernel_rfl) (by kernel_rfl) hc (fun w3 hw => ?_)
        replace h := h w3 hw
        clear hw
        refine reg_end [] (by kernel_rfl) (by kernel_rfl) ?_
        change WpE _ _ c_logfile_turns_1_29 _ _ _
        refine wpE_seq (x := c_logfile_turns_1_30) (y := c_logfile_turns_1_32) (by kernel_rfl) ?_
        refine wpE_region (id := 7) (ops := r_logfile_turns_1_30) (by kernel_rfl) ?_
        refine reg_run [.plain] 1 [(3, [], Value.int .i64 0)] (by kernel_rfl) (by kernel_rfl) ?_
        refine reg_end [(3, Value.int .i64 0)] (by kernel_rfl) (by kernel_rfl) ?_
        change WpE _ _ c_logfile_turns_1_32 _ _ _
        refine wpE_ret (by kernel_rfl) ?_
        repeat (first | refine seqQ_ret ?_ | refine blockQ_ret ?_ | refine loopQ_ret ?_ | refine cutQ_ret ?_)
        exact retS (rs := [(Go.ResultVar.tmp 3)]) (v := Value.int .i64 0) (by kernel_rfl) (⟨by kernel_rfl, trivial⟩) ⟨0, rfl, h⟩
  · rintro e w' ⟨v, rfl, r0, rfl, h⟩; exact ⟨r0, rfl, h⟩
end Go.Proofs.Ytpedclhflmhakaa
