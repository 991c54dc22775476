/- WRITTEN BY PROGRAM (dec.py): for each Go function the clean formula F, the call's contract C, and the proof S that F gives C. -/
import Derived.Test.YtckmganidgbpgaaDoorRows
import Derived.Test.YtckmganidgbpgaaDoorGF
namespace Go.Proofs.YtckmganidgbpgaaDoor
open Go
set_option linter.unusedVariables false

/-! ### towpath/codec.NewWriter (function 5) -/
noncomputable def c_codec_NewWriter_0 : Code := (Tryd.f5.body).getD Code.skip
noncomputable def c_codec_NewWriter_1 : Code := Code.l c_codec_NewWriter_0
noncomputable def r_codec_NewWriter_1 : Array Oper := Code.ops c_codec_NewWriter_1
noncomputable def c_codec_NewWriter_3 : Code := Code.r c_codec_NewWriter_0
noncomputable def c_codec_NewWriter_4 : Code := Code.l c_codec_NewWriter_3
noncomputable def r_codec_NewWriter_4 : Array Oper := Code.ops c_codec_NewWriter_4
noncomputable def c_codec_NewWriter_6 : Code := Code.r c_codec_NewWriter_3

set_option maxRecDepth 100000 in
set_option maxHeartbeats 4000000 in
theorem S_codec_NewWriter {w : World} {R : Option Addr → World → Prop} (h : F_codec_NewWriter R w) : C_codec_NewWriter w R := by
  unfold F_codec_NewWriter at h
  unfold C_codec_NewWriter
  refine Calls.mono (calls_of_wpE (args := []) (R := fun v w' => ∃ (r0 : Option Addr), v = Value.pointer r0 ∧ R r0 w') Tryd.func5 (c := c_codec_NewWriter_0) (by kernel_rfl) 3 (by kernel_rfl) (by kernel_rfl) [] (by kernel_rfl) ?_) ?_
  · refine wpE_seq (x := c_codec_NewWriter_1) (y := c_codec_NewWriter_3) (by kernel_rfl) ?_
    refine wpE_region (id := 0) (ops := r_codec_NewWriter_1) (by kernel_rfl) ?_
    refine reg_run [.plain] 1 [] (by kernel_rfl) (by kernel_rfl) ?_
    refine reg_end [] (by kernel_rfl) (by kernel_rfl) ?_
    change WpE _ _ c_codec_NewWriter_3 _ _ _
    refine wpE_seq (x := c_codec_NewWriter_4) (y := c_codec_NewWriter_6) (by kernel_rfl) ?_
    refine wpE_region (id := 1) (ops := r_codec_NewWriter_4) (by kernel_rfl) ?_
    refine reg_run [.plain] 1 [(1, [], Value.agg #[Value.bool true, Value.slice none 0 0])] (by kernel_rfl) (by kernel_rfl) ?_
    refine reg_new (op := (Go.Op.box 28 (Go.Operand.tmp 1))) (ty := 24) (dst := some 2) (fun bb => Value.pointer (some ⟨bb, 0, none⟩)) (Obj.cells ([Value.bool true, Value.slice none 0 0]).toArray ty_codec_Writer (0, 0)) (by kernel_rfl) (by kernel_rfl) (fun b_ w1 hb hw => ?_)
    replace h := h b_ w1 hb hw
    clear hb hw
    refine reg_run [.plain] 3 [(0, [], Value.pointer (some ⟨b_, 0, none⟩))] (by kernel_rfl) (by kernel_rfl) ?_
    refine reg_end [(0, Value.pointer (some ⟨b_, 0, none⟩))] (by kernel_rfl) (by kernel_rfl) ?_
    change WpE _ _ c_codec_NewWriter_6 _ _ _
    refine wpE_ret (by kernel_rfl) ?_
    repeat (first | refine seqQ_ret ?_ | refine blockQ_ret ?_ | refine loopQ_ret ?_ | refine cutQ_ret ?_)
    exact retS (rs := [(Go.ResultVar.tmp 0)]) (v := Value.pointer (some ⟨b_, 0, none⟩)) (by kernel_rfl) (⟨by kernel_rfl, trivial⟩) ⟨(some ⟨b_, 0, none⟩), rfl, h⟩
  · rintro e w' ⟨v, rfl, r0, rfl, h⟩; exact ⟨r0, rfl, h⟩

/-! ### (*towpath/codec.Writer).Fixed (function 7) -/
noncomputable def c_codec_Writer_Fixed_0 : Code := (Tryd.f7.body).getD Code.skip
noncomputable def c_codec_Writer_Fixed_1 : Code := Code.l c_codec_Writer_Fixed_0
noncomputable def r_codec_Writer_Fixed_1 : Array Oper := Code.ops c_codec_Writer_Fixed_1
noncomputable def c_codec_Writer_Fixed_3 : Code := Code.r c_codec_Writer_Fixed_0
noncomputable def c_codec_Writer_Fixed_4 : Code := Code.l c_codec_Writer_Fixed_3
noncomputable def c_codec_Writer_Fixed_5 : Code := Code.l c_codec_Writer_Fixed_4
noncomputable def c_codec_Writer_Fixed_6 : Code := Code.l c_codec_Writer_Fixed_5
noncomputable def r_codec_Writer_Fixed_6 : Array Oper := Code.ops c_codec_Writer_Fixed_6
noncomputable def c_codec_Writer_Fixed_8 : Code := Code.r c_codec_Writer_Fixed_5
noncomputable def c_codec_Writer_Fixed_9 : Code := Code.l c_codec_Writer_Fixed_8
noncomputable def c_codec_Writer_Fixed_10 : Code := Code.l c_codec_Writer_Fixed_9
noncomputable def r_codec_Writer_Fixed_10 : Array Oper := Code.ops c_codec_Writer_Fixed_10
noncomputable def c_codec_Writer_Fixed_12 : Code := Code.r c_codec_Writer_Fixed_9
noncomputable def c_codec_Writer_Fixed_13 : Code := Code.r c_codec_Writer_Fixed_8
noncomputable def c_codec_Writer_Fixed_14 : Code := Code.l c_codec_Writer_Fixed_13
noncomputable def r_codec_Writer_Fixed_14 : Array Oper := Code.ops c_codec_Writer_Fixed_14
noncomputable def c_codec_Writer_Fixed_16 : Code := Code.r c_codec_Writer_Fixed_13
noncomputable def c_codec_Writer_Fixed_17 : Code := Code.l c_codec_Writer_Fixed_16
noncomputable def c_codec_Writer_Fixed_18 : Code := Code.l c_codec_Writer_Fixed_17
noncomputable def r_codec_Writer_Fixed_18 : Array Oper := Code.ops c_codec_Writer_Fixed_18
noncomputable def c_codec_Writer_Fixed_20 : Code := Code.r c_codec_Writer_Fixed_17
noncomputable def c_codec_Writer_Fixed_21 : Code := Code.r c_codec_Writer_Fixed_16
noncomputable def c_codec_Writer_Fixed_22 : Code := Code.l c_codec_Writer_Fixed_21
noncomputable def r_codec_Writer_Fixed_22 : Array Oper := Code.ops c_codec_Writer_Fixed_22
noncomputable def c_codec_Writer_Fixed_24 : Code := Code.r c_codec_Writer_Fixed_21
noncomputable def c_codec_Writer_Fixed_25 : Code := Code.l c_codec_Writer_Fixed_24
noncomputable def c_codec_Writer_Fixed_26 : Code := Code.l c_codec_Writer_Fixed_25
noncomputable def r_codec_Writer_Fixed_26 : Array Oper := Code.ops c_codec_Writer_Fixed_26
noncomputable def c_codec_Writer_Fixed_28 : Code := Code.r c_codec_Writer_Fixed_25
noncomputable def c_codec_Writer_Fixed_29 : Code := Code.r c_codec_Writer_Fixed_24
noncomputable def c_codec_Writer_Fixed_30 : Code := Code.r c_codec_Writer_Fixed_3
noncomputable def c_codec_Writer_Fixed_31 : Code := Code.l c_codec_Writer_Fixed_30
noncomputable def c_codec_Writer_Fixed_32 : Code := Code.l c_codec_Writer_Fixed_31
noncomputable def r_codec_Writer_Fixed_32 : Array Oper := Code.ops c_codec_Writer_Fixed_32
noncomputable def c_codec_Writer_Fixed_34 : Code := Code.r c_codec_Writer_Fixed_31
noncomputable def c_codec_Writer_Fixed_35 : Code := Code.l c_codec_Writer_Fixed_34
noncomputable def c_codec_Writer_Fixed_36 : Code := Code.l c_codec_Writer_Fixed_35
noncomputable def c_codec_Writer_Fixed_37 : Code := Code.l c_codec_Writer_Fixed_36
noncomputable def r_codec_Writer_Fixed_37 : Array Oper := Code.ops c_codec_Writer_Fixed_37
noncomputable def c_codec_Writer_Fixed_39 : Code := Code.r c_codec_Writer_Fixed_36
noncomputable def c_codec_Writer_Fixed_40 : Code := Code.l c_codec_Writer_Fixed_39
noncomputable def c_codec_Writer_Fixed_41 : Code := Code.l c_codec_Writer_Fixed_40
noncomputable def c_codec_Writer_Fixed_42 : Code := Code.r c_codec_Writer_Fixed_40
noncomputable def c_codec_Writer_Fixed_43 : Code := Code.r c_codec_Writer_Fixed_39
noncomputable def c_codec_Writer_Fixed_44 : Code := Code.l c_codec_Writer_Fixed_43
noncomputable def c_codec_Writer_Fixed_45 : Code := Code.l c_codec_Writer_Fixed_44
noncomputable def c_codec_Writer_Fixed_46 : Code := Code.l c_codec_Writer_Fixed_45
noncomputable def r_codec_Writer_Fixed_46 : Array Oper := Code.ops c_codec_Writer_Fixed_46
noncomputable def c_codec_Writer_Fixed_48 : Code := Code.r c_codec_Writer_Fixed_45
noncomputable def r_codec_Writer_Fixed_48 : Array Oper := Code.ops c_codec_Writer_Fixed_48
noncomputable def c_codec_Writer_Fixed_50 : Code := Code.r c_codec_Writer_Fixed_43
noncomputable def r_codec_Writer_Fixed_50 : Array Oper := Code.ops c_codec_Writer_Fixed_50
noncomputable def c_codec_Writer_Fixed_52 : Code := Code.r c_codec_Writer_Fixed_30
noncomputable def c_codec_Writer_Fixed_53 : Code := Code.l c_codec_Writer_Fixed_52
noncomputable def r_codec_Writer_Fixed_53 : Array Oper := Code.ops c_codec_Writer_Fixed_53
noncomputable def c_codec_Writer_Fixed_55 : Code := Code.r c_codec_Writer_Fixed_52

set_option maxRecDepth 100000 in
set_option maxHeartbeats 4000000 in
theorem S_codec_Writer_Fixed {w_ : Option Addr} {n_ : Int} {width : Int} {w : World} {R : Int → World → Prop} (h : F_codec_Writer_Fixed w_ n_ width R w) : C_codec_Writer_Fixed w_ n_ width w R := by
  unfold F_codec_Writer_Fixed at h
  unfold C_codec_Writer_Fixed
  refine Calls.mono (calls_of_wpE (args := [Value.pointer w_, Value.int .u64 n_, Value.int .i64 width]) (R := fun v w' => ∃ (r0 : Int), v = Value.int .i64 r0 ∧ R r0 w') Tryd.func7 (c := c_codec_Writer_Fixed_0) (by kernel_rfl) 40 (by kernel_rfl) (by kernel_rfl) [(0, Value.pointer w_), (1, Value.int .u64 n_), (2, Value.int .i64 width)] (by kernel_rfl) ?_) ?_
  · refine wpE_seq (x := c_codec_Writer_Fixed_1) (y := c_codec_Writer_Fixed_3) (by kernel_rfl) ?_
    refine wpE_region (id := 0) (ops := r_codec_Writer_Fixed_1) (by kernel_rfl) ?_
    refine reg_run [.plain] 1 [(0, [], Value.pointer w_), (1, [], Value.int .u64 n_), (2, [], Value.int .i64 width)] (by kernel_rfl) (by kernel_rfl) ?_
    refine reg_end [(0, Value.pointer w_), (1, Value.int .u64 n_), (2, Value.int .i64 width)] (by kernel_rfl) (by kernel_rfl) ?_
    change WpE _ _ c_codec_Writer_Fixed_3 _ _ _
    refine wpE_seq (x := c_codec_Writer_Fixed_4) (y := c_codec_Writer_Fixed_30) (by kernel_rfl) ?_
    refine wpE_block (id := 0) (x := c_codec_Writer_Fixed_5) (by kernel_rfl) ?_
    refine wpE_seq (x := c_codec_Writer_Fixed_6) (y := c_codec_Writer_Fixed_8) (by kernel_rfl) ?_
    refine wpE_region (id := 1) (ops := r_codec_Writer_Fixed_6) (by kernel_rfl) ?_
    refine reg_run [.plain] 1 [(0, [], Value.pointer w_), (1, [], Value.int .u64 n_), (2, [], Value.int .i64 width), (8, [], Value.pointer w_)] (by kernel_rfl) (by kernel_rfl) ?_
    refine reg_enter (op := (Go.Op.call (Go.Call.mk (Go.Callee.value (Go.Operand.func 19)) #[(Go.Operand.tmp 8)] #[24]))) (ty := 4) (dst := some 9) 19 #[Value.pointer w_] (by kernel_rfl) (fun ww => by kernel_rfl) (Calls.mono h ?_)
    rintro _ w1 ⟨v9, rfl, h⟩
    refine ⟨_, rfl, ?_⟩
    refine reg_run [.plain] 3 [(0, [], Value.pointer w_), (1, [], Value.int .u64 n_), (2, [], Value.int .i64 width), (7, [], Value.bool v9)] (by kernel_rfl) (by kernel_rfl) ?_
    refine reg_end [(0, Value.pointer w_), (1, Value.int .u64 n_), (2, Value.int .i64 width), (7, Value.bool v9)] (by kernel_rfl) (by kernel_rfl) ?_
    change WpE _ _ c_codec_Writer_Fixed_8 _ _ _
    refine wpE_cond (o := (Operand.tmp 7)) (b := v9) (x := c_codec_Writer_Fixed_9) (y := c_codec_Writer_Fixed_13) (by kernel_rfl) (by kernel_rfl) (fun hb => ?_) (fun hb => ?_)
    · replace h := h.1 hb
      refine wpE_seq (x := c_codec_Writer_Fixed_10) (y := c_codec_Writer_Fixed_12) (by kernel_rfl) ?_
      refine wpE_region (id := 2) (ops := r_codec_Writer_Fixed_10) (by kernel_rfl) ?_
      refine reg_run [.plain] 1 [(6, [], Value.int .i64 2)] (by kernel_rfl) (by kernel_rfl) ?_
      refine reg_end [(6, Value.int .i64 2)] (by kernel_rfl) (by kernel_rfl) ?_
      change WpE _ _ c_codec_Writer_Fixed_12 _ _ _
      refine wpE_ret (by kernel_rfl) ?_
      repeat (first | refine seqQ_ret ?_ | refine blockQ_ret ?_ | refine loopQ_ret ?_ | refine cutQ_ret ?_)
      exact retS (rs := [(Go.ResultVar.tmp 6)]) (v := Value.int .i64 2) (by kernel_rfl) (⟨by kernel_rfl, trivial⟩) ⟨2, rfl, h⟩
    · replace h := h.2 hb
      refine wpE_seq (x := c_codec_Writer_Fixed_14) (y := c_codec_Writer_Fixed_16) (by kernel_rfl) ?_
      refine wpE_region (id := 3) (ops := r_codec_Writer_Fixed_14) (by kernel_rfl) ?_
      refine reg_run [.plain, .plain, .plain, .plain, .plain, .pick, .plain] 7 [(0, [], Value.pointer w_), (1, [], Value.int .u64 n_), (2, [], Value.int .i64 width), (10, [], Value.bool ((decide (width < 1)) || (decide (width > 8))))] (by kernel_rfl) (by kernel_rfl) ?_
      refine reg_end [(0, Value.pointer w_), (1, Value.int .u64 n_), (2, Value.int .i64 width), (10, Value.bool ((decide (width < 1)) || (decide (width > 8))))] (by kernel_rfl) (by kernel_rfl) ?_
      change WpE _ _ c_codec_Writer_Fixed_16 _ _ _
      refine wpE_cond (o := (Operand.tmp 10)) (b := ((decide (width < 1)) || (decide (width > 8)))) (x := c_codec_Writer_Fixed_17) (y := c_codec_Writer_Fixed_21) (by kernel_rfl) (by kernel_rfl) (fun hb => ?_) (fun hb => ?_)
      · replace h := h.1 hb
        refine wpE_seq (x := c_codec_Writer_Fixed_18) (y := c_codec_Writer_Fixed_20) (by kernel_rfl) ?_
        refine wpE_region (id := 4) (ops := r_codec_Writer_Fixed_18) (by kernel_rfl) ?_
        refine reg_run [.plain] 1 [(6, [], Value.int .i64 1)] (by kernel_rfl) (by kernel_rfl) ?_
        refine reg_end [(6, Value.int .i64 1)] (by kernel_rfl) (by kernel_rfl) ?_
        change WpE _ _ c_codec_Writer_Fixed_20 _ _ _
        refine wpE_ret (by kernel_rfl) ?_
        repeat (first | refine seqQ_ret ?_ | refine blockQ_ret ?_ | refine loopQ_ret ?_ | refine cutQ_ret ?_)
        exact retS (rs := [(Go.ResultVar.tmp 6)]) (v := Value.int .i64 1) (by kernel_rfl) (⟨by kernel_rfl, trivial⟩) ⟨1, rfl, h⟩
      · replace h := h.2 hb
        refine wpE_seq (x := c_codec_Writer_Fixed_22) (y := c_codec_Writer_Fixed_24) (by kernel_rfl) ?_
        refine wpE_region (id := 5) (ops := r_codec_Writer_Fixed_22) (by kernel_rfl) ?_
        refine reg_run [.plain, .plain, .plain] 3 [(0, [], Value.pointer w_), (1, [], Value.int .u64 n_), (2, [], Value.int .i64 width), (18, [], Value.int .u64 n_), (20, [], Value.int .i64 (IntKind.i64.wrap (8 * width)))] (by kernel_rfl) (by kernel_rfl) ?_
        obtain ⟨h0, h⟩ := h
        refine reg_val (op := (Go.Op.binOp Go.BinOp.shr 42 (Go.Operand.tmp 18) (Go.Operand.tmp 20) 3)) (ty := 42) (dst := some 21) (Value.int .u64 (Int.fdiv n_ (2 ^ (min (IntKind.i64.wrap (8 * width)).toNat 64)))) (by kernel_rfl) (fun ww => run_shr (k' := .i64) (by kernel_rfl) (by kernel_rfl) (by kernel_rfl) h0 ww) ?_
        refine reg_run [.plain, .plain] 6 [(0, [], Value.pointer w_), (1, [], Value.int .u64 n_), (2, [], Value.int .i64 width), (17, [], Value.bool ((Int.fdiv n_ (2 ^ (min (IntKind.i64.wrap (8 * width)).toNat 64))) != 0))] (by kernel_rfl) (by kernel_rfl) ?_
        refine reg_end [(0, Value.pointer w_), (1, Value.int .u64 n_), (2, Value.int .i64 width), (17, Value.bool ((Int.fdiv n_ (2 ^ (min (IntKind.i64.wrap (8 * width)).toNat 64))) != 0))] (by kernel_rfl) (by kernel_rfl) ?_
        change WpE _ _ c_codec_Writer_Fixed_24 _ _ _
        refine wpE_cond (o := (Operand.tmp 17)) (b := ((Int.fdiv n_ (2 ^ (min (IntKind.i64.wrap (8 * width)).toNat 64))) != 0)) (x := c_codec_Writer_Fixed_25) (y := c_codec_Writer_Fixed_29) (by kernel_rfl) (by kernel_rfl) (fun hb => ?_) (fun hb => ?_)
        · replace h := h.1 hb
          refine wpE_seq (x := c_codec_Writer_Fixed_26) (y := c_codec_Writer_Fixed_28) (by kernel_rfl) ?_
          refine wpE_region (id := 6) (ops := r_codec_Writer_Fixed_26) (by kernel_rfl) ?_
          refine reg_run [.plain] 1 [(6, [], Value.int .i64 3)] (by kernel_rfl) (by kernel_rfl) ?_
          refine reg_end [(6, Value.int .i64 3)] (by kernel_rfl) (by kernel_rfl) ?_
          change WpE _ _ c_codec_Writer_Fixed_28 _ _ _
          refine wpE_ret (by kernel_rfl) ?_
          repeat (first | refine seqQ_ret ?_ | refine blockQ_ret ?_ | refine loopQ_ret ?_ | refine cutQ_ret ?_)
          exact retS (rs := [(Go.ResultVar.tmp 6)]) (v := Value.int .i64 3) (by kernel_rfl) (⟨by kernel_rfl, trivial⟩) ⟨3, rfl, h⟩
        · replace h := h.2 hb
          refine wpE_skip (by kernel_rfl) ?_
          change WpE _ _ c_codec_Writer_Fixed_30 _ _ _
          refine wpE_seq (x := c_codec_Writer_Fixed_31) (y := c_codec_Writer_Fixed_52) (by kernel_rfl) ?_
          refine wpE_seq (x := c_codec_Writer_Fixed_32) (y := c_codec_Writer_Fixed_34) (by kernel_rfl) ?_
          refine wpE_region (id := 7) (ops := r_codec_Writer_Fixed_32) (by kernel_rfl) ?_
          refine reg_run [.plain, .plain] 2 [(0, [], Value.pointer w_), (1, [], Value.int .u64 n_), (23, [], Value.int .i64 width), (24, [], Value.int .i64 0)] (by kernel_rfl) (by kernel_rfl) ?_
          refine reg_end [(0, Value.pointer w_), (1, Value.int .u64 n_), (23, Value.int .i64 width), (24, Value.int .i64 0)] (by kernel_rfl) (by kernel_rfl) ?_
          change WpE _ _ c_codec_Writer_Fixed_34 _ _ _
          refine wpE_block (id := 1) (x := c_codec_Writer_Fixed_35) (by kernel_rfl) ?_
          obtain ⟨I, μ, h0, hr⟩ := h
          refine wpE_loop (x := c_codec_Writer_Fixed_36) (by kernel_rfl) (fun m l w => ∃ (n_1 : Int) (t24 : Int), l = [(0, Value.pointer w_), (1, Value.int .u64 n_1), (23, Value.int .i64 width), (24, Value.int .i64 t24)] ∧ I n_1 t24 w ∧ μ n_1 t24 w = m) (l' := [(0, Value.pointer w_), (1, Value.int .u64 n_), (23, Value.int .i64 width), (24, Value.int .i64 0)]) (Sub.mk (by kernel_rfl)) ⟨n_, 0, rfl, h0, rfl⟩ ?_
          rintro _ _ w2 ⟨n_1, t24, rfl, hI, rfl⟩
          obtain ⟨again_, again__h, h⟩ : ∃ again_ : Int → Int → World → Prop, (∀ n_1' t24' w', again_ n_1' t24' w' → I n_1' t24' w' ∧ μ n_1' t24' w' < μ n_1 t24 w2) ∧ F_codec_Writer_Fixed_L0 w_ width R again_ n_1 t24 w2 := ⟨_, fun _ _ _ h => h, hr n_1 t24 w2 hI⟩
          clear h0 hI
          unfold F_codec_Writer_Fixed_L0 at h
          refine wpE_seq (x := c_codec_Writer_Fixed_37) (y := c_codec_Writer_Fixed_39) (by kernel_rfl) ?_
          refine wpE_region (id := 8) (ops := r_codec_Writer_Fixed_37) (by kernel_rfl) ?_
          refine reg_run [.plain] 1 [(0, [], Value.pointer w_), (1, [], Value.int .u64 n_1), (23, [], Value.int .i64 width), (24, [], Value.int .i64 t24), (25, [], Value.bool (decide (t24 < width)))] (by kernel_rfl) (by kernel_rfl) ?_
          refine reg_end [(0, Value.pointer w_), (1, Value.int .u64 n_1), (23, Value.int .i64 width), (24, Value.int .i64 t24), (25, Value.bool (decide (t24 < width)))] (by kernel_rfl) (by kernel_rfl) ?_
          change WpE _ _ c_codec_Writer_Fixed_39 _ _ _
          refine wpE_seq (x := c_codec_Writer_Fixed_40) (y := c_codec_Writer_Fixed_43) (by kernel_rfl) ?_
          refine wpE_cond (o := (Operand.tmp 25)) (b := (decide (t24 < width))) (x := c_codec_Writer_Fixed_41) (y := c_codec_Writer_Fixed_42) (by kernel_rfl) (by kernel_rfl) (fun hb => ?_) (fun hb => ?_)
          · replace h := h.1 hb
            refine wpE_skip (by kernel_rfl) ?_
            change WpE _ _ c_codec_Writer_Fixed_43 _ _ _
            refine wpE_seq (x := c_codec_Writer_Fixed_44) (y := c_codec_Writer_Fixed_50) (by kernel_rfl) ?_
            refine wpE_block (id := 2) (x := c_codec_Writer_Fixed_45) (by kernel_rfl) ?_
            refine wpE_seq (x := c_codec_Writer_Fixed_46) (y := c_codec_Writer_Fixed_48) (by kernel_rfl) ?_
            refine wpE_region (id := 9) (ops := r_codec_Writer_Fixed_46) (by kernel_rfl) ?_
            refine reg_run [.plain, .plain] 2 [(0, [], Value.pointer w_), (1, [], Value.int .u64 n_1), (23, [], Value.int .i64 width), (24, [], Value.int .i64 t24), (26, [], Value.pointer w_), (27, [], Value.pointer w_)] (by kernel_rfl) (by kernel_rfl) ?_
            obtain ⟨hp_14, h⟩ := h
            refine reg_conv [(0, [], Value.pointer w_), (1, [], Value.int .u64 n_1), (23, [], Value.int .i64 width), (24, [], Value.int .i64 t24), (26, [], Value.pointer w_), (27, [], Value.pointer (some ⟨(pblk w_), (poff w_), none⟩))] (congrArg (fun pp => ([(0, [], Value.pointer w_), (1, [], Value.int .u64 n_1), (23, [], Value.int .i64 width), (24, [], Value.int .i64 t24), (26, [], Value.pointer w_), (27, [], Value.pointer pp)] : GEnv)) hp_14) ?_
            refine reg_run [.plain] 3 [(0, [], Value.pointer w_), (1, [], Value.int .u64 n_1), (23, [], Value.int .i64 width), (24, [], Value.int .i64 t24), (26, [], Value.pointer w_), (27, [], Value.pointer (some ⟨(pblk w_), (poff w_), none⟩)), (28, [], Value.pointer (some ⟨(pblk w_), (poff w_), none⟩))] (by kernel_rfl) (by kernel_rfl) ?_
            refine reg_run [.plain] 4 [(0, [], Value.pointer w_), (1, [], Value.int .u64 n_1), (23, [], Value.int .i64 width), (24, [], Value.int .i64 t24), (26, [], Value.pointer w_), (29, [], Value.pointer (some ⟨(pblk w_), (poff w_) + 1, none⟩))] (by kernel_rfl) (by kernel_rfl) ?_
            obtain ⟨v30, hc, h⟩ := h
            refine reg_load1 (t := 26) (a := (Go.Operand.tmp 29)) (b := (pblk w_)) (o := ((poff w_) + 1)) (ty := 26) (dst := some 30) (by kernel_rfl) (by kernel_rfl) (by kernel_rfl) hc ?_
            refine reg_run [.plain, .plain] 7 [(0, [], Value.pointer w_), (1, [], Value.int .u64 n_1), (23, [], Value.int .i64 width), (24, [], Value.int .i64 t24), (26, [], Value.pointer w_), (30, [], Value.slice v30.ptr v30.len v30.cap), (32, [], Value.int .u8 (IntKind.u8.wrap n_1))] (by kernel_rfl) (by kernel_rfl) ?_
            refine reg_new (op := (Go.Op.buildSlice 26 1 #[(0, (Go.Operand.tmp 32))])) (ty := 26) (dst := some 33) (fun bb => Value.slice (some ⟨bb, 0, none⟩) 1 1) (Obj.cells ([Value.int .u8 (IntKind.u8.wrap n_1)]).toArray ty_uint8 (0, 0)) (by kernel_rfl) (by kernel_rfl) (fun b_ w3 hb hw => ?_)
            replace h := h b_ w3 hb hw
            clear hb hw
            refine reg_run [] 8 [(0, [], Value.pointer w_), (1, [], Value.int .u64 n_1), (23, [], Value.int .i64 width), (24, [], Value.int .i64 t24), (26, [], Value.pointer w_), (30, [], Value.slice v30.ptr v30.len v30.cap), (33, [], Value.slice (some ⟨b_, 0, none⟩) 1 1)] (by kernel_rfl) (by kernel_rfl) ?_
            obtain ⟨src, hs, h⟩ := h
            refine reg_append (t := 26) (tx := 26) (e := 5) (a := (Go.Operand.tmp 30)) (xo := (Go.Operand.tmp 33)) (s := v30) (x := (Slc.mk (some ⟨b_, 0, none⟩) 1 1)) (sz := 1) (by_ := 1) (zs := [Value.int .u8 0]) (ty := 26) (dst := some 34)  src (by kernel_rfl) (by kernel_rfl) (by kernel_rfl) (by kernel_rfl) (by kernel_rfl) (by kernel_rfl) (by kernel_rfl) (by kernel_rfl) (by kernel_rfl) hs (AppendW.mono h (fun v34 w4 h => ?_))
            refine reg_run [] 9 [(0, [], Value.pointer w_), (1, [], Value.int .u64 n_1), (23, [], Value.int .i64 width), (24, [], Value.int .i64 t24), (26, [], Value.pointer w_), (34, [], Value.slice v34.ptr v34.len v34.cap)] (by kernel_rfl) (by kernel_rfl) ?_
            obtain ⟨hp_15, h⟩ := h
            refine reg_conv [(0, [], Value.pointer w_), (1, [], Value.int .u64 n_1), (23, [], Value.int .i64 width), (24, [], Value.int .i64 t24), (26, [], Value.pointer (some ⟨(pblk w_), (poff w_), none⟩)), (34, [], Value.slice v34.ptr v34.len v34.cap)] (congrArg (fun pp => ([(0, [], Value.pointer w_), (1, [], Value.int .u64 n_1), (23, [], Value.int .i64 width), (24, [], Value.int .i64 t24), (26, [], Value.pointer pp), (34, [], Value.slice v34.ptr v34.len v34.cap)] : GEnv)) hp_15) ?_
            refine reg_run [.plain] 10 [(0, [], Value.pointer w_), (1, [], Value.int .u64 n_1), (23, [], Value.int .i64 width), (24, [], Value.int .i64 t24), (26, [], Value.pointer (some ⟨(pblk w_), (poff w_), none⟩)), (34, [], Value.slice v34.ptr v34.len v34.cap), (35, [], Value.pointer (some ⟨(pblk w_), (poff w_), none⟩))] (by kernel_rfl) (by kernel_rfl) ?_
            refine reg_run [.plain] 11 [(0, [], Value.pointer w_), (1, [], Value.int .u64 n_1), (23, [], Value.int .i64 width), (24, [], Value.int .i64 t24), (34, [], Value.slice v34.ptr v34.len v34.cap), (36, [], Value.pointer (some ⟨(pblk w_), (poff w_) + 1, none⟩))] (by kernel_rfl) (by kernel_rfl) ?_
            obtain ⟨hc, h⟩ := h
            refine reg_store (t := 26) (a := (Go.Operand.tmp 36)) (x := (Go.Operand.tmp 34)) (b := (pblk w_)) (o := ((poff w_) + 1)) (ty := 0) (dst := none) [Value.slice v34.ptr v34.len v34.cap] (by kernel_rfl) (by kernel_rfl) (by kernel_rfl) (k := 1) (by kernel_rfl) (by kernel_rfl) (by kernel_rfl) hc (fun w5 hw => ?_)
            replace h := h w5 hw
            clear hw
            refine reg_end [(0, Value.pointer w_), (1, Value.int .u64 n_1), (23, Value.int .i64 width), (24, Value.int .i64 t24)] (by kernel_rfl) (by kernel_rfl) ?_
            change WpE _ _ c_codec_Writer_Fixed_48 _ _ _
            refine wpE_region (id := 10) (ops := r_codec_Writer_Fixed_48) (by kernel_rfl) ?_
            refine reg_run [.plain, .plain, .plain] 3 [(0, [], Value.pointer w_), (1, [], Value.int .u64 (Int.fdiv n_1 (2 ^ 8))), (23, [], Value.int .i64 width), (24, [], Value.int .i64 t24)] (by kernel_rfl) (by kernel_rfl) ?_
            refine reg_end [(0, Value.pointer w_), (1, Value.int .u64 (Int.fdiv n_1 (2 ^ 8))), (23, Value.int .i64 width), (24, Value.int .i64 t24)] (by kernel_rfl) (by kernel_rfl) ?_
            change WpE _ _ c_codec_Writer_Fixed_50 _ _ _
            refine wpE_region (id := 11) (ops := r_codec_Writer_Fixed_50) (by kernel_rfl) ?_
            refine reg_run [.plain, .plain] 2 [(0, [], Value.pointer w_), (1, [], Value.int .u64 (Int.fdiv n_1 (2 ^ 8))), (23, [], Value.int .i64 width), (24, [], Value.int .i64 (IntKind.i64.wrap (t24 + 1)))] (by kernel_rfl) (by kernel_rfl) ?_
            refine reg_end [(0, Value.pointer w_), (1, Value.int .u64 (Int.fdiv n_1 (2 ^ 8))), (23, Value.int .i64 width), (24, Value.int .i64 (IntKind.i64.wrap (t24 + 1)))] (by kernel_rfl) (by kernel_rfl) ?_
            have hb_ := again__h _ _ _ h
            exact ⟨_, hb_.2, [(0, Value.pointer w_), (1, Value.int .u64 (Int.fdiv n_1 (2 ^ 8))), (23, Value.int .i64 width), (24, Value.int .i64 (IntKind.i64.wrap (t24 + 1)))], Sub.mk (by kernel_rfl), (Int.fdiv n_1 (2 ^ 8)), (IntKind.i64.wrap (t24 + 1)), rfl, hb_.1, rfl⟩
          · replace h := h.2 hb
            refine wpE_exit (id := 1) (by kernel_rfl) ?_
            change WpE _ _ c_codec_Writer_Fixed_52 _ _ _
            refine wpE_seq (x := c_codec_Writer_Fixed_53) (y := c_codec_Writer_Fixed_55) (by kernel_rfl) ?_
            refine wpE_region (id := 12) (ops := r_codec_Writer_Fixed_53) (by kernel_rfl) ?_
            refine reg_run [.plain] 1 [(6, [], Value.int .i64 0)] (by kernel_rfl) (by kernel_rfl) ?_
            refine reg_end [(6, Value.int .i64 0)] (by kernel_rfl) (by kernel_rfl) ?_
            change WpE _ _ c_codec_Writer_Fixed_55 _ _ _
            refine wpE_ret (by kernel_rfl) ?_
            repeat (first | refine seqQ_ret ?_ | refine blockQ_ret ?_ | refine loopQ_ret ?_ | refine cutQ_ret ?_)
            exact retS (rs := [(Go.ResultVar.tmp 6)]) (v := Value.int .i64 0) (by kernel_rfl) (⟨by kernel_rfl, trivial⟩) ⟨0, rfl, h⟩
  · rintro e w' ⟨v, rfl, r0, rfl, h⟩; exact ⟨r0, rfl, h⟩

/-! ### (*towpath/codec.Writer).Int (function 9) -/
noncomputable def c_codec_Writer_Int_0 : Code := (Tryd.f9.body).getD Code.skip
noncomputable def r_codec_Writer_Int_0 : Array Oper := Code.ops c_codec_Writer_Int_0

set_option maxRecDepth 100000 in
set_option maxHeartbeats 4000000 in
theorem S_codec_Writer_Int {w_ : Option Addr} {n_ : Int} {w : World} {R : World → Prop} (h : F_codec_Writer_Int w_ n_ R w) : C_codec_Writer_Int w_ n_ w R := by
  unfold F_codec_Writer_Int at h
  unfold C_codec_Writer_Int
  refine Calls.mono (calls_of_wpE (args := [Value.pointer w_, Value.int .i64 n_]) (R := fun v w' => v = Value.tuple #[] ∧ R w') Tryd.func9 (c := c_codec_Writer_Int_0) (by kernel_rfl) 8 (by kernel_rfl) (by kernel_rfl) [(0, Value.pointer w_), (1, Value.int .i64 n_)] (by kernel_rfl) ?_) ?_
  · refine wpE_region (id := 0) (ops := r_codec_Writer_Int_0) (by kernel_rfl) ?_
    refine reg_run [.plain, .plain] 2 [(4, [], Value.pointer w_), (5, [], Value.int .i64 n_)] (by kernel_rfl) (by kernel_rfl) ?_
    refine reg_enter (op := (Go.Op.call (Go.Call.mk (Go.Callee.value (Go.Operand.func 21)) #[(Go.Operand.tmp 5)] #[2]))) (ty := 42) (dst := some 6) 21 #[Value.int .i64 n_] (by kernel_rfl) (fun ww => by kernel_rfl) (Calls.mono h ?_)
    rintro _ w1 ⟨v6, rfl, h⟩
    refine ⟨_, rfl, ?_⟩
    refine reg_run [] 3 [(4, [], Value.pointer w_), (6, [], Value.int .u64 v6)] (by kernel_rfl) (by kernel_rfl) ?_
    refine reg_enter (op := (Go.Op.call (Go.Call.mk (Go.Callee.value (Go.Operand.func 13)) #[(Go.Operand.tmp 4), (Go.Operand.tmp 6)] #[24, 42]))) (ty := 0) (dst := some 7) 13 #[Value.pointer w_, Value.int .u64 v6] (by kernel_rfl) (fun ww => by kernel_rfl) (Calls.mono h ?_)
    rintro _ w2 ⟨rfl, h⟩
    refine ⟨_, rfl, ?_⟩
    refine reg_end [] (by kernel_rfl) (by kernel_rfl) ?_
    repeat (first | refine seqQ_exit ?_ | refine loopQ_exit ?_ | refine cutQ_exit ?_ | refine blockQ_hit ?_ | refine blockQ_miss (by kernel_rfl) ?_)
    refine retQ_normal ?_
    repeat (first | refine seqQ_ret ?_ | refine blockQ_ret ?_ | refine loopQ_ret ?_ | refine cutQ_ret ?_)
    exact retT (rs := []) (vs := []) (by kernel_rfl) (trivial) (by kernel_rfl) ⟨rfl, h⟩
  · rintro e w' ⟨v, rfl, rfl, h⟩; exact ⟨rfl, h⟩

/-! ### (*towpath/codec.Writer).Text (function 11) -/
noncomputable def c_codec_Writer_Text_0 : Code := (Tryd.f11.body).getD Code.skip
noncomputable def c_codec_Writer_Text_1 : Code := Code.l c_codec_Writer_Text_0
noncomputable def c_codec_Writer_Text_2 : Code := Code.l c_codec_Writer_Text_1
noncomputable def r_codec_Writer_Text_2 : Array Oper := Code.ops c_codec_Writer_Text_2
noncomputable def c_codec_Writer_Text_4 : Code := Code.r c_codec_Writer_Text_1
noncomputable def c_codec_Writer_Text_5 : Code := Code.l c_codec_Writer_Text_4
noncomputable def c_codec_Writer_Text_6 : Code := Code.r c_codec_Writer_Text_4
noncomputable def c_codec_Writer_Text_7 : Code := Code.r c_codec_Writer_Text_0
noncomputable def c_codec_Writer_Text_8 : Code := Code.l c_codec_Writer_Text_7
noncomputable def r_codec_Writer_Text_8 : Array Oper := Code.ops c_codec_Writer_Text_8
noncomputable def c_codec_Writer_Text_10 : Code := Code.r c_codec_Writer_Text_7
noncomputable def r_codec_Writer_Text_10 : Array Oper := Code.ops c_codec_Writer_Text_10

set_option maxRecDepth 100000 in
set_option maxHeartbeats 4000000 in
theorem S_codec_Writer_Text {w_ : Option Addr} {s : ByteArray} {w : World} {R : World → Prop} (h : F_codec_Writer_Text w_ s R w) : C_codec_Writer_Text w_ s w R := by
  unfold F_codec_Writer_Text at h
  unfold C_codec_Writer_Text
  refine Calls.mono (calls_of_wpE (args := [Value.pointer w_, Value.string s]) (R := fun v w' => v = Value.tuple #[] ∧ R w') Tryd.func11 (c := c_codec_Writer_Text_0) (by kernel_rfl) 20 (by kernel_rfl) (by kernel_rfl) [(0, Value.pointer w_), (1, Value.string s)] (by kernel_rfl) ?_) ?_
  · refine wpE_seq (x := c_codec_Writer_Text_1) (y := c_codec_Writer_Text_7) (by kernel_rfl) ?_
    refine wpE_seq (x := c_codec_Writer_Text_2) (y := c_codec_Writer_Text_4) (by kernel_rfl) ?_
    refine wpE_region (id := 0) (ops := r_codec_Writer_Text_2) (by kernel_rfl) ?_
    refine reg_run [.plain] 1 [(0, [], Value.pointer w_), (1, [], Value.string s), (4, [], Value.pointer w_)] (by kernel_rfl) (by kernel_rfl) ?_
    refine reg_enter (op := (Go.Op.call (Go.Call.mk (Go.Callee.value (Go.Operand.func 19)) #[(Go.Operand.tmp 4)] #[24]))) (ty := 4) (dst := some 5) 19 #[Value.pointer w_] (by kernel_rfl) (fun ww => by kernel_rfl) (Calls.mono h ?_)
    rintro _ w1 ⟨v5, rfl, h⟩
    refine ⟨_, rfl, ?_⟩
    refine reg_end [(0, Value.pointer w_), (1, Value.string s), (5, Value.bool v5)] (by kernel_rfl) (by kernel_rfl) ?_
    change WpE _ _ c_codec_Writer_Text_4 _ _ _
    refine wpE_cond (o := (Operand.tmp 5)) (b := v5) (x := c_codec_Writer_Text_5) (y := c_codec_Writer_Text_6) (by kernel_rfl) (by kernel_rfl) (fun hb => ?_) (fun hb => ?_)
    · replace h := h.1 hb
      refine wpE_ret (by kernel_rfl) ?_
      repeat (first | refine seqQ_ret ?_ | refine blockQ_ret ?_ | refine loopQ_ret ?_ | refine cutQ_ret ?_)
      exact retT (rs := []) (vs := []) (by kernel_rfl) (trivial) (by kernel_rfl) ⟨rfl, h⟩
    · replace h := h.2 hb
      refine wpE_skip (by kernel_rfl) ?_
      change WpE _ _ c_codec_Writer_Text_7 _ _ _
      refine wpE_seq (x := c_codec_Writer_Text_8) (y := c_codec_Writer_Text_10) (by kernel_rfl) ?_
      refine wpE_region (id := 1) (ops := r_codec_Writer_Text_8) (by kernel_rfl) ?_
      refine reg_run [.plain, .plain, .plain, .plain] 4 [(0, [], Value.pointer w_), (1, [], Value.string s), (6, [], Value.pointer w_), (9, [], Value.int .u64 (IntKind.u64.wrap ((s.size : Nat) : Int)))] (by kernel_rfl) (by kernel_rfl) ?_
      refine reg_enter (op := (Go.Op.call (Go.Call.mk (Go.Callee.value (Go.Operand.func 13)) #[(Go.Operand.tmp 6), (Go.Operand.tmp 9)] #[24, 42]))) (ty := 0) (dst := some 10) 13 #[Value.pointer w_, Value.int .u64 (IntKind.u64.wrap ((s.size : Nat) : Int))] (by kernel_rfl) (fun ww => by kernel_rfl) (Calls.mono h ?_)
      rintro _ w2 ⟨rfl, h⟩
      refine ⟨_, rfl, ?_⟩
      refine reg_end [(0, Value.pointer w_), (1, Value.string s)] (by kernel_rfl) (by kernel_rfl) ?_
      change WpE _ _ c_codec_Writer_Text_10 _ _ _
      refine wpE_region (id := 2) (ops := r_codec_Writer_Text_10) (by kernel_rfl) ?_
      refine reg_run [.plain, .plain] 2 [(1, [], Value.string s), (11, [], Value.pointer w_), (12, [], Value.pointer w_)] (by kernel_rfl) (by kernel_rfl) ?_
      obtain ⟨hp_0, h⟩ := h
      refine reg_conv [(1, [], Value.string s), (11, [], Value.pointer w_), (12, [], Value.pointer (some ⟨(pblk w_), (poff w_), none⟩))] (congrArg (fun pp => ([(1, [], Value.string s), (11, [], Value.pointer w_), (12, [], Value.pointer pp)] : GEnv)) hp_0) ?_
      refine reg_run [.plain] 3 [(1, [], Value.string s), (11, [], Value.pointer w_), (12, [], Value.pointer (some ⟨(pblk w_), (poff w_), none⟩)), (13, [], Value.pointer (some ⟨(pblk w_), (poff w_), none⟩))] (by kernel_rfl) (by kernel_rfl) ?_
      refine reg_run [.plain] 4 [(1, [], Value.string s), (11, [], Value.pointer w_), (14, [], Value.pointer (some ⟨(pblk w_), (poff w_) + 1, none⟩))] (by kernel_rfl) (by kernel_rfl) ?_
      obtain ⟨v15, hc, h⟩ := h
      refine reg_load1 (t := 26) (a := (Go.Operand.tmp 14)) (b := (pblk w_)) (o := ((poff w_) + 1)) (ty := 26) (dst := some 15) (by kernel_rfl) (by kernel_rfl) (by kernel_rfl) hc ?_
      refine reg_run [.plain] 6 [(11, [], Value.pointer w_), (15, [], Value.slice v15.ptr v15.len v15.cap), (16, [], Value.string s)] (by kernel_rfl) (by kernel_rfl) ?_
      refine reg_appendStr (t := 26) (tx := 9) (e := 5) (a := (Go.Operand.tmp 15)) (xo := (Go.Operand.tmp 16)) (s := v15) (str := s) (by_ := 1) (zs := [Value.int .u8 0]) (ty := 26) (dst := some 17)  (by kernel_rfl) (by kernel_rfl) (by kernel_rfl) (by kernel_rfl) (by kernel_rfl) (by kernel_rfl) (by kernel_rfl) (by kernel_rfl) (by kernel_rfl) (AppendW.mono h (fun v17 w3 h => ?_))
      refine reg_run [] 7 [(11, [], Value.pointer w_), (17, [], Value.slice v17.ptr v17.len v17.cap)] (by kernel_rfl) (by kernel_rfl) ?_
      obtain ⟨hp_1, h⟩ := h
      refine reg_conv [(11, [], Value.pointer (some ⟨(pblk w_), (poff w_), none⟩)), (17, [], Value.slice v17.ptr v17.len v17.cap)] (congrArg (fun pp => ([(11, [], Value.pointer pp), (17, [], Value.slice v17.ptr v17.len v17.cap)] : GEnv)) hp_1) ?_
      refine reg_run [.plain] 8 [(11, [], Value.pointer (some ⟨(pblk w_), (poff w_), none⟩)), (17, [], Value.slice v17.ptr v17.len v17.cap), (18, [], Value.pointer (some ⟨(pblk w_), (poff w_), none⟩))] (by kernel_rfl) (by kernel_rfl) ?_
      refine reg_run [.plain] 9 [(17, [], Value.slice v17.ptr v17.len v17.cap), (19, [], Value.pointer (some ⟨(pblk w_), (poff w_) + 1, none⟩))] (by kernel_rfl) (by kernel_rfl) ?_
      obtain ⟨hc, h⟩ := h
      refine reg_store (t := 26) (a := (Go.Operand.tmp 19)) (x := (Go.Operand.tmp 17)) (b := (pblk w_)) (o := ((poff w_) + 1)) (ty := 0) (dst := none) [Value.slice v17.ptr v17.len v17.cap] (by kernel_rfl) (by kernel_rfl) (by kernel_rfl) (k := 1) (by kernel_rfl) (by kernel_rfl) (by kernel_rfl) hc (fun w4 hw => ?_)
      replace h := h w4 hw
      clear hw
      refine reg_end [] (by kernel_rfl) (by kernel_rfl) ?_
      repeat (first | refine seqQ_exit ?_ | refine loopQ_exit ?_ | refine cutQ_exit ?_ | refine blockQ_hit ?_ | refine blockQ_miss (by kernel_rfl) ?_)
      refine retQ_normal ?_
      repeat (first | refine seqQ_ret ?_ | refine blockQ_ret ?_ | refine loopQ_ret ?_ | refine cutQ_ret ?_)
      exact retT (rs := []) (vs := []) (by kernel_rfl) (trivial) (by kernel_rfl) ⟨rfl, h⟩
  · rintro e w' ⟨v, rfl, rfl, h⟩; exact ⟨rfl, h⟩

/-! ### (*towpath/codec.Writer).Var (function 13) -/
noncomputable def c_codec_Writer_Var_0 : Code := (Tryd.f13.body).getD Code.skip
noncomputable def c_codec_Writer_Var_1 : Code := Code.l c_codec_Writer_Var_0
noncomputable def c_codec_Writer_Var_2 : Code := Code.l c_codec_Writer_Var_1
noncomputable def r_codec_Writer_Var_2 : Array Oper := Code.ops c_codec_Writer_Var_2
noncomputable def c_codec_Writer_Var_4 : Code := Code.r c_codec_Writer_Var_1
noncomputable def c_codec_Writer_Var_5 : Code := Code.l c_codec_Writer_Var_4
noncomputable def c_codec_Writer_Var_6 : Code := Code.r c_codec_Writer_Var_4
noncomputable def c_codec_Writer_Var_7 : Code := Code.r c_codec_Writer_Var_0
noncomputable def c_codec_Writer_Var_8 : Code := Code.l c_codec_Writer_Var_7
noncomputable def c_codec_Writer_Var_9 : Code := Code.l c_codec_Writer_Var_8
noncomputable def c_codec_Writer_Var_10 : Code := Code.l c_codec_Writer_Var_9
noncomputable def c_codec_Writer_Var_11 : Code := Code.l c_codec_Writer_Var_10
noncomputable def c_codec_Writer_Var_12 : Code := Code.l c_codec_Writer_Var_11
noncomputable def r_codec_Writer_Var_12 : Array Oper := Code.ops c_codec_Writer_Var_12
noncomputable def c_codec_Writer_Var_14 : Code := Code.r c_codec_Writer_Var_11
noncomputable def c_codec_Writer_Var_15 : Code := Code.l c_codec_Writer_Var_14
noncomputable def c_codec_Writer_Var_16 : Code := Code.r c_codec_Writer_Var_14
noncomputable def c_codec_Writer_Var_17 : Code := Code.r c_codec_Writer_Var_10
noncomputable def c_codec_Writer_Var_18 : Code := Code.l c_codec_Writer_Var_17
noncomputable def c_codec_Writer_Var_19 : Code := Code.l c_codec_Writer_Var_18
noncomputable def r_codec_Writer_Var_19 : Array Oper := Code.ops c_codec_Writer_Var_19
noncomputable def c_codec_Writer_Var_21 : Code := Code.r c_codec_Writer_Var_17
noncomputable def r_codec_Writer_Var_21 : Array Oper := Code.ops c_codec_Writer_Var_21
noncomputable def c_codec_Writer_Var_23 : Code := Code.r c_codec_Writer_Var_7
noncomputable def r_codec_Writer_Var_23 : Array Oper := Code.ops c_codec_Writer_Var_23

set_option maxRecDepth 100000 in
set_option maxHeartbeats 4000000 in
theorem S_codec_Writer_Var {w_ : Option Addr} {n_ : Int} {w : World} {R : World → Prop} (h : F_codec_Writer_Var w_ n_ R w) : C_codec_Writer_Var w_ n_ w R := by
  unfold F_codec_Writer_Var at h
  unfold C_codec_Writer_Var
  refine Calls.mono (calls_of_wpE (args := [Value.pointer w_, Value.int .u64 n_]) (R := fun v w' => v = Value.tuple #[] ∧ R w') Tryd.func13 (c := c_codec_Writer_Var_0) (by kernel_rfl) 33 (by kernel_rfl) (by kernel_rfl) [(0, Value.pointer w_), (1, Value.int .u64 n_)] (by kernel_rfl) ?_) ?_
  · refine wpE_seq (x := c_codec_Writer_Var_1) (y := c_codec_Writer_Var_7) (by kernel_rfl) ?_
    refine wpE_seq (x := c_codec_Writer_Var_2) (y := c_codec_Writer_Var_4) (by kernel_rfl) ?_
    refine wpE_region (id := 0) (ops := r_codec_Writer_Var_2) (by kernel_rfl) ?_
    refine reg_run [.plain] 1 [(0, [], Value.pointer w_), (1, [], Value.int .u64 n_), (4, [], Value.pointer w_)] (by kernel_rfl) (by kernel_rfl) ?_
    refine reg_enter (op := (Go.Op.call (Go.Call.mk (Go.Callee.value (Go.Operand.func 19)) #[(Go.Operand.tmp 4)] #[24]))) (ty := 4) (dst := some 5) 19 #[Value.pointer w_] (by kernel_rfl) (fun ww => by kernel_rfl) (Calls.mono h ?_)
    rintro _ w1 ⟨v5, rfl, h⟩
    refine ⟨_, rfl, ?_⟩
    refine reg_end [(0, Value.pointer w_), (1, Value.int .u64 n_), (5, Value.bool v5)] (by kernel_rfl) (by kernel_rfl) ?_
    change WpE _ _ c_codec_Writer_Var_4 _ _ _
    refine wpE_cond (o := (Operand.tmp 5)) (b := v5) (x := c_codec_Writer_Var_5) (y := c_codec_Writer_Var_6) (by kernel_rfl) (by kernel_rfl) (fun hb => ?_) (fun hb => ?_)
    · replace h := h.1 hb
      refine wpE_ret (by kernel_rfl) ?_
      repeat (first | refine seqQ_ret ?_ | refine blockQ_ret ?_ | refine loopQ_ret ?_ | refine cutQ_ret ?_)
      exact retT (rs := []) (vs := []) (by kernel_rfl) (trivial) (by kernel_rfl) ⟨rfl, h⟩
    · replace h := h.2 hb
      refine wpE_skip (by kernel_rfl) ?_
      change WpE _ _ c_codec_Writer_Var_7 _ _ _
      refine wpE_seq (x := c_codec_Writer_Var_8) (y := c_codec_Writer_Var_23) (by kernel_rfl) ?_
      refine wpE_block (id := 0) (x := c_codec_Writer_Var_9) (by kernel_rfl) ?_
      obtain ⟨I, μ, h0, hr⟩ := h
      refine wpE_loop (x := c_codec_Writer_Var_10) (by kernel_rfl) (fun m l w => ∃ (n_1 : Int), l = [(0, Value.pointer w_), (1, Value.int .u64 n_1)] ∧ I n_1 w ∧ μ n_1 w = m) (l' := [(0, Value.pointer w_), (1, Value.int .u64 n_)]) (Sub.mk (by kernel_rfl)) ⟨n_, rfl, h0, rfl⟩ ?_
      rintro _ _ w2 ⟨n_1, rfl, hI, rfl⟩
      obtain ⟨again_, again__h, h⟩ : ∃ again_ : Int → World → Prop, (∀ n_1' w', again_ n_1' w' → I n_1' w' ∧ μ n_1' w' < μ n_1 w2) ∧ F_codec_Writer_Var_L0 w_ R again_ n_1 w2 := ⟨_, fun _ _ h => h, hr n_1 w2 hI⟩
      clear h0 hI
      unfold F_codec_Writer_Var_L0 at h
      refine wpE_seq (x := c_codec_Writer_Var_11) (y := c_codec_Writer_Var_17) (by kernel_rfl) ?_
      refine wpE_seq (x := c_codec_Writer_Var_12) (y := c_codec_Writer_Var_14) (by kernel_rfl) ?_
      refine wpE_region (id := 1) (ops := r_codec_Writer_Var_12) (by kernel_rfl) ?_
      refine reg_run [.plain, .plain] 2 [(0, [], Value.pointer w_), (1, [], Value.int .u64 n_1), (7, [], Value.bool (decide (n_1 ≥ 128)))] (by kernel_rfl) (by kernel_rfl) ?_
      refine reg_end [(0, Value.pointer w_), (1, Value.int .u64 n_1), (7, Value.bool (decide (n_1 ≥ 128)))] (by kernel_rfl) (by kernel_rfl) ?_
      change WpE _ _ c_codec_Writer_Var_14 _ _ _
      refine wpE_cond (o := (Operand.tmp 7)) (b := (decide (n_1 ≥ 128))) (x := c_codec_Writer_Var_15) (y := c_codec_Writer_Var_16) (by kernel_rfl) (by kernel_rfl) (fun hb => ?_) (fun hb => ?_)
      · replace h := h.1 hb
        refine wpE_skip (by kernel_rfl) ?_
        change WpE _ _ c_codec_Writer_Var_17 _ _ _
        refine wpE_seq (x := c_codec_Writer_Var_18) (y := c_codec_Writer_Var_21) (by kernel_rfl) ?_
        refine wpE_block (id := 1) (x := c_codec_Writer_Var_19) (by kernel_rfl) ?_
        refine wpE_region (id := 3) (ops := r_codec_Writer_Var_19) (by kernel_rfl) ?_
        refine reg_run [.plain, .plain] 2 [(0, [], Value.pointer w_), (1, [], Value.int .u64 n_1), (10, [], Value.pointer w_), (11, [], Value.pointer w_)] (by kernel_rfl) (by kernel_rfl) ?_
        obtain ⟨hp_6, h⟩ := h
        refine reg_conv [(0, [], Value.pointer w_), (1, [], Value.int .u64 n_1), (10, [], Value.pointer w_), (11, [], Value.pointer (some ⟨(pblk w_), (poff w_), none⟩))] (congrArg (fun pp => ([(0, [], Value.pointer w_), (1, [], Value.int .u64 n_1), (10, [], Value.pointer w_), (11, [], Value.pointer pp)] : GEnv)) hp_6) ?_
        refine reg_run [.plain] 3 [(0, [], Value.pointer w_), (1, [], Value.int .u64 n_1), (10, [], Value.pointer w_), (11, [], Value.pointer (some ⟨(pblk w_), (poff w_), none⟩)), (12, [], Value.pointer (some ⟨(pblk w_), (poff w_), none⟩))] (by kernel_rfl) (by kernel_rfl) ?_
        refine reg_run [.plain] 4 [(0, [], Value.pointer w_), (1, [], Value.int .u64 n_1), (10, [], Value.pointer w_), (13, [], Value.pointer (some ⟨(pblk w_), (poff w_) + 1, none⟩))] (by kernel_rfl) (by kernel_rfl) ?_
        obtain ⟨v14, hc, h⟩ := h
        refine reg_load1 (t := 26) (a := (Go.Operand.tmp 13)) (b := (pblk w_)) (o := ((poff w_) + 1)) (ty := 26) (dst := some 14) (by kernel_rfl) (by kernel_rfl) (by kernel_rfl) hc ?_
        refine reg_run [.plain, .plain, .plain] 8 [(0, [], Value.pointer w_), (1, [], Value.int .u64 n_1), (10, [], Value.pointer w_), (14, [], Value.slice v14.ptr v14.len v14.cap), (17, [], Value.int .u8 (bor .u8 (IntKind.u8.wrap n_1) 128))] (by kernel_rfl) (by kernel_rfl) ?_
        refine reg_new (op := (Go.Op.buildSlice 26 1 #[(0, (Go.Operand.tmp 17))])) (ty := 26) (dst := some 18) (fun bb => Value.slice (some ⟨bb, 0, none⟩) 1 1) (Obj.cells ([Value.int .u8 (bor .u8 (IntKind.u8.wrap n_1) 128)]).toArray ty_uint8 (0, 0)) (by kernel_rfl) (by kernel_rfl) (fun b_ w3 hb hw => ?_)
        replace h := h b_ w3 hb hw
        clear hb hw
        refine reg_run [] 9 [(0, [], Value.pointer w_), (1, [], Value.int .u64 n_1), (10, [], Value.pointer w_), (14, [], Value.slice v14.ptr v14.len v14.cap), (18, [], Value.slice (some ⟨b_, 0, none⟩) 1 1)] (by kernel_rfl) (by kernel_rfl) ?_
        obtain ⟨src, hs, h⟩ := h
        refine reg_append (t := 26) (tx := 26) (e := 5) (a := (Go.Operand.tmp 14)) (xo := (Go.Operand.tmp 18)) (s := v14) (x := (Slc.mk (some ⟨b_, 0, none⟩) 1 1)) (sz := 1) (by_ := 1) (zs := [Value.int .u8 0]) (ty := 26) (dst := some 19)  src (by kernel_rfl) (by kernel_rfl) (by kernel_rfl) (by kernel_rfl) (by kernel_rfl) (by kernel_rfl) (by kernel_rfl) (by kernel_rfl) (by kernel_rfl) hs (AppendW.mono h (fun v19 w4 h => ?_))
        refine reg_run [] 10 [(0, [], Value.pointer w_), (1, [], Value.int .u64 n_1), (10, [], Value.pointer w_), (19, [], Value.slice v19.ptr v19.len v19.cap)] (by kernel_rfl) (by kernel_rfl) ?_
        obtain ⟨hp_7, h⟩ := h
        refine reg_conv [(0, [], Value.pointer w_), (1, [], Value.int .u64 n_1), (10, [], Value.pointer (some ⟨(pblk w_), (poff w_), none⟩)), (19, [], Value.slice v19.ptr v19.len v19.cap)] (congrArg (fun pp => ([(0, [], Value.pointer w_), (1, [], Value.int .u64 n_1), (10, [], Value.pointer pp), (19, [], Value.slice v19.ptr v19.len v19.cap)] : GEnv)) hp_7) ?_
        refine reg_run [.plain] 11 [(0, [], Value.pointer w_), (1, [], Value.int .u64 n_1), (10, [], Value.pointer (some ⟨(pblk w_), (poff w_), none⟩)), (19, [], Value.slice v19.ptr v19.len v19.cap), (20, [], Value.pointer (some ⟨(pblk w_), (poff w_), none⟩))] (by kernel_rfl) (by kernel_rfl) ?_
        refine reg_run [.plain] 12 [(0, [], Value.pointer w_), (1, [], Value.int .u64 n_1), (19, [], Value.slice v19.ptr v19.len v19.cap), (21, [], Value.pointer (some ⟨(pblk w_), (poff w_) + 1, none⟩))] (by kernel_rfl) (by kernel_rfl) ?_
        obtain ⟨hc, h⟩ := h
        refine reg_store (t := 26) (a := (Go.Operand.tmp 21)) (x := (Go.Operand.tmp 19)) (b := (pblk w_)) (o := ((poff w_) + 1)) (ty := 0) (dst := none) [Value.slice v19.ptr v19.len v19.cap] (by kernel_rfl) (by kernel_rfl) (by kernel_rfl) (k := 1) (by kernel_rfl) (by kernel_rfl) (by kernel_rfl) hc (fun w5 hw => ?_)
        replace h := h w5 hw
        clear hw
        refine reg_end [(0, Value.pointer w_), (1, Value.int .u64 n_1)] (by kernel_rfl) (by kernel_rfl) ?_
        change WpE _ _ c_codec_Writer_Var_21 _ _ _
        refine wpE_region (id := 2) (ops := r_codec_Writer_Var_21) (by kernel_rfl) ?_
        refine reg_run [.plain, .plain, .plain] 3 [(0, [], Value.pointer w_), (1, [], Value.int .u64 (Int.fdiv n_1 (2 ^ 7)))] (by kernel_rfl) (by kernel_rfl) ?_
        refine reg_end [(0, Value.pointer w_), (1, Value.int .u64 (Int.fdiv n_1 (2 ^ 7)))] (by kernel_rfl) (by kernel_rfl) ?_
        have hb_ := again__h _ _ h
        exact ⟨_, hb_.2, [(0, Value.pointer w_), (1, Value.int .u64 (Int.fdiv n_1 (2 ^ 7)))], Sub.mk (by kernel_rfl), (Int.fdiv n_1 (2 ^ 7)), rfl, hb_.1, rfl⟩
      · replace h := h.2 hb
        refine wpE_exit (id := 0) (by kernel_rfl) ?_
        change WpE _ _ c_codec_Writer_Var_23 _ _ _
        refine wpE_region (id := 4) (ops := r_codec_Writer_Var_23) (by kernel_rfl) ?_
        refine reg_run [.plain, .plain] 2 [(1, [], Value.int .u64 n_1), (22, [], Value.pointer w_), (23, [], Value.pointer w_)] (by kernel_rfl) (by kernel_rfl) ?_
        obtain ⟨hp_8, h⟩ := h
        refine reg_conv [(1, [], Value.int .u64 n_1), (22, [], Value.pointer w_), (23, [], Value.pointer (some ⟨(pblk w_), (poff w_), none⟩))] (congrArg (fun pp => ([(1, [], Value.int .u64 n_1), (22, [], Value.pointer w_), (23, [], Value.pointer pp)] : GEnv)) hp_8) ?_
        refine reg_run [.plain] 3 [(1, [], Value.int .u64 n_1), (22, [], Value.pointer w_), (23, [], Value.pointer (some ⟨(pblk w_), (poff w_), none⟩)), (24, [], Value.pointer (some ⟨(pblk w_), (poff w_), none⟩))] (by kernel_rfl) (by kernel_rfl) ?_
        refine reg_run [.plain] 4 [(1, [], Value.int .u64 n_1), (22, [], Value.pointer w_), (25, [], Value.pointer (some ⟨(pblk w_), (poff w_) + 1, none⟩))] (by kernel_rfl) (by kernel_rfl) ?_
        obtain ⟨v26, hc, h⟩ := h
        refine reg_load1 (t := 26) (a := (Go.Operand.tmp 25)) (b := (pblk w_)) (o := ((poff w_) + 1)) (ty := 26) (dst := some 26) (by kernel_rfl) (by kernel_rfl) (by kernel_rfl) hc ?_
        refine reg_run [.plain, .plain] 7 [(22, [], Value.pointer w_), (26, [], Value.slice v26.ptr v26.len v26.cap), (28, [], Value.int .u8 (IntKind.u8.wrap n_1))] (by kernel_rfl) (by kernel_rfl) ?_
        refine reg_new (op := (Go.Op.buildSlice 26 1 #[(0, (Go.Operand.tmp 28))])) (ty := 26) (dst := some 29) (fun bb => Value.slice (some ⟨bb, 0, none⟩) 1 1) (Obj.cells ([Value.int .u8 (IntKind.u8.wrap n_1)]).toArray ty_uint8 (0, 0)) (by kernel_rfl) (by kernel_rfl) (fun b_1 w6 hb hw => ?_)
        replace h := h b_1 w6 hb hw
        clear hb hw
        refine reg_run [] 8 [(22, [], Value.pointer w_), (26, [], Value.slice v26.ptr v26.len v26.cap), (29, [], Value.slice (some ⟨b_1, 0, none⟩) 1 1)] (by kernel_rfl) (by kernel_rfl) ?_
        obtain ⟨src, hs, h⟩ := h
        refine reg_append (t := 26) (tx := 26) (e := 5) (a := (Go.Operand.tmp 26)) (xo := (Go.Operand.tmp 29)) (s := v26) (x := (Slc.mk (some ⟨b_1, 0, none⟩) 1 1)) (sz := 1) (by_ := 1) (zs := [Value.int .u8 0]) (ty := 26) (dst := some 30)  src (by kernel_rfl) (by kernel_rfl) (by kernel_rfl) (by kernel_rfl) (by kernel_rfl) (by kernel_rfl) (by kernel_rfl) (by kernel_rfl) (by kernel_rfl) hs (AppendW.mono h (fun v30 w7 h => ?_))
        refine reg_run [] 9 [(22, [], Value.pointer w_), (30, [], Value.slice v30.ptr v30.len v30.cap)] (by kernel_rfl) (by kernel_rfl) ?_
        obtain ⟨hp_9, h⟩ := h
        refine reg_conv [(22, [], Value.pointer (some ⟨(pblk w_), (poff w_), none⟩)), (30, [], Value.slice v30.ptr v30.len v30.cap)] (congrArg (fun pp => ([(22, [], Value.pointer pp), (30, [], Value.slice v30.ptr v30.len v30.cap)] : GEnv)) hp_9) ?_
        refine reg_run [.plain] 10 [(22, [], Value.pointer (some ⟨(pblk w_), (poff w_), none⟩)), (30, [], Value.slice v30.ptr v30.len v30.cap), (31, [], Value.pointer (some ⟨(pblk w_), (poff w_), none⟩))] (by kernel_rfl) (by kernel_rfl) ?_
        refine reg_run [.plain] 11 [(30, [], Value.slice v30.ptr v30.len v30.cap), (32, [], Value.pointer (some ⟨(pblk w_), (poff w_) + 1, none⟩))] (by kernel_rfl) (by kernel_rfl) ?_
        obtain ⟨hc, h⟩ := h
        refine reg_store (t := 26) (a := (Go.Operand.tmp 32)) (x := (Go.Operand.tmp 30)) (b := (pblk w_)) (o := ((poff w_) + 1)) (ty := 0) (dst := none) [Value.slice v30.ptr v30.len v30.cap] (by kernel_rfl) (by kernel_rfl) (by kernel_rfl) (k := 1) (by kernel_rfl) (by kernel_rfl) (by kernel_rfl) hc (fun w8 hw => ?_)
        replace h := h w8 hw
        clear hw
        refine reg_end [] (by kernel_rfl) (by kernel_rfl) ?_
        repeat (first | refine seqQ_exit ?_ | refine loopQ_exit ?_ | refine cutQ_exit ?_ | refine blockQ_hit ?_ | refine blockQ_miss (by kernel_rfl) ?_)
        refine retQ_normal ?_
        repeat (first | refine seqQ_ret ?_ | refine blockQ_ret ?_ | refine loopQ_ret ?_ | refine cutQ_ret ?_)
        exact retT (rs := []) (vs := []) (by kernel_rfl) (trivial) (by kernel_rfl) ⟨rfl, h⟩
  · rintro e w' ⟨v, rfl, rfl, h⟩; exact ⟨rfl, h⟩

/-! ### (*towpath/codec.Writer).Done (function 15) -/
noncomputable def c_codec_Writer_Done_0 : Code := (Tryd.f15.body).getD Code.skip
noncomputable def c_codec_Writer_Done_1 : Code := Code.l c_codec_Writer_Done_0
noncomputable def r_codec_Writer_Done_1 : Array Oper := Code.ops c_codec_Writer_Done_1
noncomputable def c_codec_Writer_Done_3 : Code := Code.r c_codec_Writer_Done_0
noncomputable def c_codec_Writer_Done_4 : Code := Code.l c_codec_Writer_Done_3
noncomputable def c_codec_Writer_Done_5 : Code := Code.l c_codec_Writer_Done_4
noncomputable def r_codec_Writer_Done_5 : Array Oper := Code.ops c_codec_Writer_Done_5
noncomputable def c_codec_Writer_Done_7 : Code := Code.r c_codec_Writer_Done_4
noncomputable def c_codec_Writer_Done_8 : Code := Code.l c_codec_Writer_Done_7
noncomputable def c_codec_Writer_Done_9 : Code := Code.l c_codec_Writer_Done_8
noncomputable def r_codec_Writer_Done_9 : Array Oper := Code.ops c_codec_Writer_Done_9
noncomputable def c_codec_Writer_Done_11 : Code := Code.r c_codec_Writer_Done_8
noncomputable def c_codec_Writer_Done_12 : Code := Code.r c_codec_Writer_Done_7
noncomputable def c_codec_Writer_Done_13 : Code := Code.r c_codec_Writer_Done_3
noncomputable def c_codec_Writer_Done_14 : Code := Code.l c_codec_Writer_Done_13
noncomputable def r_codec_Writer_Done_14 : Array Oper := Code.ops c_codec_Writer_Done_14
noncomputable def c_codec_Writer_Done_16 : Code := Code.r c_codec_Writer_Done_13

set_option maxRecDepth 100000 in
set_option maxHeartbeats 4000000 in
theorem S_codec_Writer_Done {w_ : Option Addr} {w : World} {R : Slc → World → Prop} (h : F_codec_Writer_Done w_ R w) : C_codec_Writer_Done w_ w R := by
  unfold F_codec_Writer_Done at h
  unfold C_codec_Writer_Done
  refine Calls.mono (calls_of_wpE (args := [Value.pointer w_]) (R := fun v w' => ∃ (r0 : Slc), v = Value.slice r0.ptr r0.len r0.cap ∧ R r0 w') Tryd.func15 (c := c_codec_Writer_Done_0) (by kernel_rfl) 10 (by kernel_rfl) (by kernel_rfl) [(0, Value.pointer w_)] (by kernel_rfl) ?_) ?_
  · refine wpE_seq (x := c_codec_Writer_Done_1) (y := c_codec_Writer_Done_3) (by kernel_rfl) ?_
    refine wpE_region (id := 0) (ops := r_codec_Writer_Done_1) (by kernel_rfl) ?_
    refine reg_run [.plain] 1 [(0, [], Value.pointer w_)] (by kernel_rfl) (by kernel_rfl) ?_
    refine reg_end [(0, Value.pointer w_)] (by kernel_rfl) (by kernel_rfl) ?_
    change WpE _ _ c_codec_Writer_Done_3 _ _ _
    refine wpE_seq (x := c_codec_Writer_Done_4) (y := c_codec_Writer_Done_13) (by kernel_rfl) ?_
    refine wpE_seq (x := c_codec_Writer_Done_5) (y := c_codec_Writer_Done_7) (by kernel_rfl) ?_
    refine wpE_region (id := 1) (ops := r_codec_Writer_Done_5) (by kernel_rfl) ?_
    refine reg_run [.plain] 1 [(0, [], Value.pointer w_), (3, [], Value.pointer w_)] (by kernel_rfl) (by kernel_rfl) ?_
    refine reg_enter (op := (Go.Op.call (Go.Call.mk (Go.Callee.value (Go.Operand.func 19)) #[(Go.Operand.tmp 3)] #[24]))) (ty := 4) (dst := some 4) 19 #[Value.pointer w_] (by kernel_rfl) (fun ww => by kernel_rfl) (Calls.mono h ?_)
    rintro _ w1 ⟨v4, rfl, h⟩
    refine ⟨_, rfl, ?_⟩
    refine reg_end [(0, Value.pointer w_), (4, Value.bool v4)] (by kernel_rfl) (by kernel_rfl) ?_
    change WpE _ _ c_codec_Writer_Done_7 _ _ _
    refine wpE_cond (o := (Operand.tmp 4)) (b := v4) (x := c_codec_Writer_Done_8) (y := c_codec_Writer_Done_12) (by kernel_rfl) (by kernel_rfl) (fun hb => ?_) (fun hb => ?_)
    · replace h := h.1 hb
      refine wpE_seq (x := c_codec_Writer_Done_9) (y := c_codec_Writer_Done_11) (by kernel_rfl) ?_
      refine wpE_region (id := 2) (ops := r_codec_Writer_Done_9) (by kernel_rfl) ?_
      refine reg_run [.plain] 1 [(2, [], Value.slice none 0 0)] (by kernel_rfl) (by kernel_rfl) ?_
      refine reg_end [(2, Value.slice none 0 0)] (by kernel_rfl) (by kernel_rfl) ?_
      change WpE _ _ c_codec_Writer_Done_11 _ _ _
      refine wpE_ret (by kernel_rfl) ?_
      repeat (first | refine seqQ_ret ?_ | refine blockQ_ret ?_ | refine loopQ_ret ?_ | refine cutQ_ret ?_)
      exact retS (rs := [(Go.ResultVar.tmp 2)]) (v := Value.slice none 0 0) (by kernel_rfl) (⟨by kernel_rfl, trivial⟩) ⟨(Slc.mk none 0 0), rfl, h⟩
    · replace h := h.2 hb
      refine wpE_skip (by kernel_rfl) ?_
      change WpE _ _ c_codec_Writer_Done_13 _ _ _
      refine wpE_seq (x := c_codec_Writer_Done_14) (y := c_codec_Writer_Done_16) (by kernel_rfl) ?_
      refine wpE_region (id := 3) (ops := r_codec_Writer_Done_14) (by kernel_rfl) ?_
      refine reg_run [.plain] 1 [(5, [], Value.pointer w_)] (by kernel_rfl) (by kernel_rfl) ?_
      obtain ⟨hp_0, h⟩ := h
      refine reg_conv [(5, [], Value.pointer (some ⟨(pblk w_), (poff w_), none⟩))] (congrArg (fun pp => ([(5, [], Value.pointer pp)] : GEnv)) hp_0) ?_
      refine reg_run [.plain] 2 [(5, [], Value.pointer (some ⟨(pblk w_), (poff w_), none⟩)), (6, [], Value.pointer (some ⟨(pblk w_), (poff w_), none⟩))] (by kernel_rfl) (by kernel_rfl) ?_
      refine reg_run [.plain] 3 [(7, [], Value.pointer (some ⟨(pblk w_), (poff w_) + 1, none⟩))] (by kernel_rfl) (by kernel_rfl) ?_
      obtain ⟨v8, hc, h⟩ := h
      refine reg_load1 (t := 26) (a := (Go.Operand.tmp 7)) (b := (pblk w_)) (o := ((poff w_) + 1)) (ty := 26) (dst := some 8) (by kernel_rfl) (by kernel_rfl) (by kernel_rfl) hc ?_
      refine reg_run [] 4 [(8, [], Value.slice v8.ptr v8.len v8.cap)] (by kernel_rfl) (by kernel_rfl) ?_
      refine reg_enter (op := (Go.Op.call (Go.Call.mk (Go.Callee.value (Go.Operand.func 23)) #[(Go.Operand.tmp 8)] #[26]))) (ty := 26) (dst := some 9) 23 #[Value.slice v8.ptr v8.len v8.cap] (by kernel_rfl) (fun ww => by kernel_rfl) (Calls.mono h ?_)
      rintro _ w2 ⟨v9, rfl, h⟩
      refine ⟨_, rfl, ?_⟩
      refine reg_run [.plain] 6 [(2, [], Value.slice v9.ptr v9.len v9.cap)] (by kernel_rfl) (by kernel_rfl) ?_
      refine reg_end [(2, Value.slice v9.ptr v9.len v9.cap)] (by kernel_rfl) (by kernel_rfl) ?_
      change WpE _ _ c_codec_Writer_Done_16 _ _ _
      refine wpE_ret (by kernel_rfl) ?_
      repeat (first | refine seqQ_ret ?_ | refine blockQ_ret ?_ | refine loopQ_ret ?_ | refine cutQ_ret ?_)
      exact retS (rs := [(Go.ResultVar.tmp 2)]) (v := Value.slice v9.ptr v9.len v9.cap) (by kernel_rfl) (⟨by kernel_rfl, trivial⟩) ⟨v9, rfl, h⟩
  · rintro e w' ⟨v, rfl, r0, rfl, h⟩; exact ⟨r0, rfl, h⟩

/-! ### (*towpath/codec.Writer).gone (function 19) -/
noncomputable def c_codec_Writer_gone_0 : Code := (Tryd.f19.body).getD Code.skip
noncomputable def c_codec_Writer_gone_1 : Code := Code.l c_codec_Writer_gone_0
noncomputable def r_codec_Writer_gone_1 : Array Oper := Code.ops c_codec_Writer_gone_1
noncomputable def c_codec_Writer_gone_3 : Code := Code.r c_codec_Writer_gone_0
noncomputable def c_codec_Writer_gone_4 : Code := Code.l c_codec_Writer_gone_3
noncomputable def r_codec_Writer_gone_4 : Array Oper := Code.ops c_codec_Writer_gone_4
noncomputable def c_codec_Writer_gone_6 : Code := Code.r c_codec_Writer_gone_3

set_option maxRecDepth 100000 in
set_option maxHeartbeats 4000000 in
theorem S_codec_Writer_gone {w_ : Option Addr} {w : World} {R : Bool → World → Prop} (h : F_codec_Writer_gone w_ R w) : C_codec_Writer_gone w_ w R := by
  unfold F_codec_Writer_gone at h
  unfold C_codec_Writer_gone
  refine Calls.mono (calls_of_wpE (args := [Value.pointer w_]) (R := fun v w' => ∃ (r0 : Bool), v = Value.bool r0 ∧ R r0 w') Tryd.func19 (c := c_codec_Writer_gone_0) (by kernel_rfl) 12 (by kernel_rfl) (by kernel_rfl) [(0, Value.pointer w_)] (by kernel_rfl) ?_) ?_
  · refine wpE_seq (x := c_codec_Writer_gone_1) (y := c_codec_Writer_gone_3) (by kernel_rfl) ?_
    refine wpE_region (id := 0) (ops := r_codec_Writer_gone_1) (by kernel_rfl) ?_
    refine reg_run [.plain] 1 [(0, [], Value.pointer w_)] (by kernel_rfl) (by kernel_rfl) ?_
    refine reg_end [(0, Value.pointer w_)] (by kernel_rfl) (by kernel_rfl) ?_
    change WpE _ _ c_codec_Writer_gone_3 _ _ _
    refine wpE_seq (x := c_codec_Writer_gone_4) (y := c_codec_Writer_gone_6) (by kernel_rfl) ?_
    refine wpE_region (id := 1) (ops := r_codec_Writer_gone_4) (by kernel_rfl) ?_
    refine reg_run [.plain] 1 [(0, [], Value.pointer w_), (3, [], Value.pointer w_)] (by kernel_rfl) (by kernel_rfl) ?_
    refine reg_val (op := (Go.Op.binOp Go.BinOp.eql 24 (Go.Operand.tmp 3) (Go.Operand.const (Go.Value.pointer none)) 24)) (ty := 4) (dst := some 4) (Value.bool w_.isNone) (by kernel_rfl) (fun ww => run_ptr_eql_R (p := w_) (by kernel_rfl) (by kernel_rfl) (by kernel_rfl) ww) ?_
    refine reg_run [.plain, .plain] 4 [(5, [], Value.bool w_.isNone), (6, [(5, false)], Value.pointer w_)] (by kernel_rfl) (by kernel_rfl) ?_
    refine reg_split 5 w_.isNone (by kernel_rfl) (fun hb => ?_) (fun hb => ?_)
    · replace h := h.1 hb
      refine reg_run [] 4 [(5, [], Value.bool true), (6, [], undef)] (by kernel_rfl) (by kernel_rfl) ?_
      refine reg_run [.skip, .skip, .skip, .skip, .plain, .plain] 10 [(2, [], Value.bool true)] (by kernel_rfl) (by kernel_rfl) ?_
      refine reg_end [(2, Value.bool true)] (by kernel_rfl) (by kernel_rfl) ?_
      change WpE _ _ c_codec_Writer_gone_6 _ _ _
      refine wpE_ret (by kernel_rfl) ?_
      repeat (first | refine seqQ_ret ?_ | refine blockQ_ret ?_ | refine loopQ_ret ?_ | refine cutQ_ret ?_)
      exact retS (rs := [(Go.ResultVar.tmp 2)]) (v := Value.bool true) (by kernel_rfl) (⟨by kernel_rfl, trivial⟩) ⟨true, rfl, h⟩
    · replace h := h.2 hb
      refine reg_run [] 4 [(5, [], Value.bool false), (6, [], Value.pointer w_)] (by kernel_rfl) (by kernel_rfl) ?_
      refine reg_run [] 4 [(5, [], Value.bool false), (6, [], Value.pointer w_)] (by kernel_rfl) (by kernel_rfl) ?_
      obtain ⟨hp_0, h⟩ := h
      refine reg_conv [(5, [], Value.bool false), (6, [], Value.pointer (some ⟨(pblk w_), (poff w_), none⟩))] (congrArg (fun pp => ([(5, [], Value.bool false), (6, [], Value.pointer pp)] : GEnv)) hp_0) ?_
      refine reg_run [.sure] 5 [(5, [], Value.bool false), (6, [], Value.pointer (some ⟨(pblk w_), (poff w_), none⟩)), (7, [], Value.pointer (some ⟨(pblk w_), (poff w_), none⟩))] (by kernel_rfl) (by kernel_rfl) ?_
      refine reg_run [.sure] 6 [(5, [], Value.bool false), (8, [], Value.pointer (some ⟨(pblk w_), (poff w_), none⟩))] (by kernel_rfl) (by kernel_rfl) ?_
      obtain ⟨v9, hc, h⟩ := h
      refine reg_load1 (t := 4) (a := (Go.Operand.tmp 8)) (b := (pblk w_)) (o := (poff w_)) (ty := 4) (dst := some 9) (by kernel_rfl) (by kernel_rfl) (by kernel_rfl) hc ?_
      refine reg_run [.sure, .plain, .plain] 10 [(2, [], Value.bool (!v9))] (by kernel_rfl) (by kernel_rfl) ?_
      refine reg_end [(2, Value.bool (!v9))] (by kernel_rfl) (by kernel_rfl) ?_
      change WpE _ _ c_codec_Writer_gone_6 _ _ _
      refine wpE_ret (by kernel_rfl) ?_
      repeat (first | refine seqQ_ret ?_ | refine blockQ_ret ?_ | refine loopQ_ret ?_ | refine cutQ_ret ?_)
      exact retS (rs := [(Go.ResultVar.tmp 2)]) (v := Value.bool (!v9)) (by kernel_rfl) (⟨by kernel_rfl, trivial⟩) ⟨(!v9), rfl, h⟩
  · rintro e w' ⟨v, rfl, r0, rfl, h⟩; exact ⟨r0, rfl, h⟩
end Go.Proofs.YtckmganidgbpgaaDoor
