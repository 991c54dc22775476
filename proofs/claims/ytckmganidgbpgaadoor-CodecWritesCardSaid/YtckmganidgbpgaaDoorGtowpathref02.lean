/- WRITTEN BY PROGRAM (dec.py): for each Go function the clean formula F, the call's contract C, and the proof S that F gives C. -/
import Derived.Test.YtckmganidgbpgaaDoorRows
import Derived.Test.YtckmganidgbpgaaDoorGF
namespace Go.Proofs.YtckmganidgbpgaaDoor
open Go
set_option linter.unusedVariables false

/-! ### towpath/towpathref02.Fixed (function 6) -/
noncomputable def c_towpathref02_Fixed_0 : Code := (Tryd.f6.body).getD Code.skip
noncomputable def c_towpathref02_Fixed_1 : Code := Code.l c_towpathref02_Fixed_0
noncomputable def r_towpathref02_Fixed_1 : Array Oper := Code.ops c_towpathref02_Fixed_1
noncomputable def c_towpathref02_Fixed_3 : Code := Code.r c_towpathref02_Fixed_0
noncomputable def c_towpathref02_Fixed_4 : Code := Code.l c_towpathref02_Fixed_3
noncomputable def c_towpathref02_Fixed_5 : Code := Code.l c_towpathref02_Fixed_4
noncomputable def r_towpathref02_Fixed_5 : Array Oper := Code.ops c_towpathref02_Fixed_5
noncomputable def c_towpathref02_Fixed_7 : Code := Code.r c_towpathref02_Fixed_4
noncomputable def c_towpathref02_Fixed_8 : Code := Code.l c_towpathref02_Fixed_7
noncomputable def c_towpathref02_Fixed_9 : Code := Code.l c_towpathref02_Fixed_8
noncomputable def r_towpathref02_Fixed_9 : Array Oper := Code.ops c_towpathref02_Fixed_9
noncomputable def c_towpathref02_Fixed_11 : Code := Code.r c_towpathref02_Fixed_8
noncomputable def c_towpathref02_Fixed_12 : Code := Code.r c_towpathref02_Fixed_7
noncomputable def c_towpathref02_Fixed_13 : Code := Code.r c_towpathref02_Fixed_3
noncomputable def c_towpathref02_Fixed_14 : Code := Code.l c_towpathref02_Fixed_13
noncomputable def c_towpathref02_Fixed_15 : Code := Code.l c_towpathref02_Fixed_14
noncomputable def r_towpathref02_Fixed_15 : Array Oper := Code.ops c_towpathref02_Fixed_15
noncomputable def c_towpathref02_Fixed_17 : Code := Code.r c_towpathref02_Fixed_14
noncomputable def c_towpathref02_Fixed_18 : Code := Code.l c_towpathref02_Fixed_17
noncomputable def c_towpathref02_Fixed_19 : Code := Code.l c_towpathref02_Fixed_18
noncomputable def r_towpathref02_Fixed_19 : Array Oper := Code.ops c_towpathref02_Fixed_19
noncomputable def c_towpathref02_Fixed_21 : Code := Code.r c_towpathref02_Fixed_18
noncomputable def c_towpathref02_Fixed_22 : Code := Code.r c_towpathref02_Fixed_17
noncomputable def c_towpathref02_Fixed_23 : Code := Code.r c_towpathref02_Fixed_13
noncomputable def c_towpathref02_Fixed_24 : Code := Code.l c_towpathref02_Fixed_23
noncomputable def c_towpathref02_Fixed_25 : Code := Code.l c_towpathref02_Fixed_24
noncomputable def r_towpathref02_Fixed_25 : Array Oper := Code.ops c_towpathref02_Fixed_25
noncomputable def c_towpathref02_Fixed_27 : Code := Code.r c_towpathref02_Fixed_24
noncomputable def c_towpathref02_Fixed_28 : Code := Code.l c_towpathref02_Fixed_27
noncomputable def c_towpathref02_Fixed_29 : Code := Code.l c_towpathref02_Fixed_28
noncomputable def c_towpathref02_Fixed_30 : Code := Code.l c_towpathref02_Fixed_29
noncomputable def c_towpathref02_Fixed_31 : Code := Code.l c_towpathref02_Fixed_30
noncomputable def r_towpathref02_Fixed_31 : Array Oper := Code.ops c_towpathref02_Fixed_31
noncomputable def c_towpathref02_Fixed_33 : Code := Code.r c_towpathref02_Fixed_30
noncomputable def c_towpathref02_Fixed_34 : Code := Code.l c_towpathref02_Fixed_33
noncomputable def c_towpathref02_Fixed_35 : Code := Code.r c_towpathref02_Fixed_33
noncomputable def c_towpathref02_Fixed_36 : Code := Code.r c_towpathref02_Fixed_29
noncomputable def c_towpathref02_Fixed_37 : Code := Code.l c_towpathref02_Fixed_36
noncomputable def c_towpathref02_Fixed_38 : Code := Code.l c_towpathref02_Fixed_37
noncomputable def c_towpathref02_Fixed_39 : Code := Code.l c_towpathref02_Fixed_38
noncomputable def r_towpathref02_Fixed_39 : Array Oper := Code.ops c_towpathref02_Fixed_39
noncomputable def c_towpathref02_Fixed_41 : Code := Code.r c_towpathref02_Fixed_38
noncomputable def r_towpathref02_Fixed_41 : Array Oper := Code.ops c_towpathref02_Fixed_41
noncomputable def c_towpathref02_Fixed_43 : Code := Code.r c_towpathref02_Fixed_36
noncomputable def r_towpathref02_Fixed_43 : Array Oper := Code.ops c_towpathref02_Fixed_43
noncomputable def c_towpathref02_Fixed_45 : Code := Code.r c_towpathref02_Fixed_23
noncomputable def c_towpathref02_Fixed_46 : Code := Code.l c_towpathref02_Fixed_45
noncomputable def r_towpathref02_Fixed_46 : Array Oper := Code.ops c_towpathref02_Fixed_46
noncomputable def c_towpathref02_Fixed_48 : Code := Code.r c_towpathref02_Fixed_45

set_option maxRecDepth 100000 in
set_option maxHeartbeats 4000000 in
theorem S_towpathref02_Fixed {b_ : Slc} {n_ : Int} {width : Int} {w : World} {R : Slc → Int → World → Prop} (h : F_towpathref02_Fixed b_ n_ width R w) : C_towpathref02_Fixed b_ n_ width w R := by
  unfold F_towpathref02_Fixed at h
  unfold C_towpathref02_Fixed
  refine Calls.mono (calls_of_wpE (args := [Value.slice b_.ptr b_.len b_.cap, Value.int .u64 n_, Value.int .i64 width]) (R := fun v w' => ∃ (r0 : Slc) (r1 : Int), v = Value.tuple #[Value.slice r0.ptr r0.len r0.cap, Value.int .i64 r1] ∧ R r0 r1 w') Tryd.func6 (c := c_towpathref02_Fixed_0) (by kernel_rfl) 40 (by kernel_rfl) (by kernel_rfl) [(0, Value.slice b_.ptr b_.len b_.cap), (1, Value.int .u64 n_), (2, Value.int .i64 width)] (by kernel_rfl) ?_) ?_
  · refine wpE_seq (x := c_towpathref02_Fixed_1) (y := c_towpathref02_Fixed_3) (by kernel_rfl) ?_
    refine wpE_region (id := 0) (ops := r_towpathref02_Fixed_1) (by kernel_rfl) ?_
    refine reg_run [.plain, .plain] 2 [(0, [], Value.slice b_.ptr b_.len b_.cap), (1, [], Value.int .u64 n_), (2, [], Value.int .i64 width)] (by kernel_rfl) (by kernel_rfl) ?_
    refine reg_end [(0, Value.slice b_.ptr b_.len b_.cap), (1, Value.int .u64 n_), (2, Value.int .i64 width)] (by kernel_rfl) (by kernel_rfl) ?_
    change WpE _ _ c_towpathref02_Fixed_3 _ _ _
    refine wpE_seq (x := c_towpathref02_Fixed_4) (y := c_towpathref02_Fixed_13) (by kernel_rfl) ?_
    refine wpE_seq (x := c_towpathref02_Fixed_5) (y := c_towpathref02_Fixed_7) (by kernel_rfl) ?_
    refine wpE_region (id := 1) (ops := r_towpathref02_Fixed_5) (by kernel_rfl) ?_
    refine reg_run [.plain, .plain, .plain, .plain, .plain, .pick] 6 [(0, [], Value.slice b_.ptr b_.len b_.cap), (1, [], Value.int .u64 n_), (2, [], Value.int .i64 width), (14, [], Value.bool ((decide (width < 1)) || (decide (width > 8))))] (by kernel_rfl) (by kernel_rfl) ?_
    refine reg_end [(0, Value.slice b_.ptr b_.len b_.cap), (1, Value.int .u64 n_), (2, Value.int .i64 width), (14, Value.bool ((decide (width < 1)) || (decide (width > 8))))] (by kernel_rfl) (by kernel_rfl) ?_
    change WpE _ _ c_towpathref02_Fixed_7 _ _ _
    refine wpE_cond (o := (Operand.tmp 14)) (b := ((decide (width < 1)) || (decide (width > 8)))) (x := c_towpathref02_Fixed_8) (y := c_towpathref02_Fixed_12) (by kernel_rfl) (by kernel_rfl) (fun hb => ?_) (fun hb => ?_)
    · replace h := h.1 hb
      refine wpE_seq (x := c_towpathref02_Fixed_9) (y := c_towpathref02_Fixed_11) (by kernel_rfl) ?_
      refine wpE_region (id := 2) (ops := r_towpathref02_Fixed_9) (by kernel_rfl) ?_
      refine reg_run [.plain, .plain, .plain] 3 [(6, [], Value.slice b_.ptr b_.len b_.cap), (7, [], Value.int .i64 1)] (by kernel_rfl) (by kernel_rfl) ?_
      refine reg_end [(6, Value.slice b_.ptr b_.len b_.cap), (7, Value.int .i64 1)] (by kernel_rfl) (by kernel_rfl) ?_
      change WpE _ _ c_towpathref02_Fixed_11 _ _ _
      refine wpE_ret (by kernel_rfl) ?_
      repeat (first | refine seqQ_ret ?_ | refine blockQ_ret ?_ | refine loopQ_ret ?_ | refine cutQ_ret ?_)
      exact retT (rs := [(Go.ResultVar.tmp 6), (Go.ResultVar.tmp 7)]) (vs := [Value.slice b_.ptr b_.len b_.cap, Value.int .i64 1]) (by kernel_rfl) (⟨by kernel_rfl, ⟨by kernel_rfl, trivial⟩⟩) (by kernel_rfl) ⟨b_, 1, rfl, h⟩
    · replace h := h.2 hb
      refine wpE_skip (by kernel_rfl) ?_
      change WpE _ _ c_towpathref02_Fixed_13 _ _ _
      refine wpE_seq (x := c_towpathref02_Fixed_14) (y := c_towpathref02_Fixed_23) (by kernel_rfl) ?_
      refine wpE_seq_cut (x := c_towpathref02_Fixed_15) (y := c_towpathref02_Fixed_17) (by kernel_rfl) (fun l w => ∃ (t24 : Bool), l = [(0, Value.slice b_.ptr b_.len b_.cap), (1, Value.int .u64 n_), (2, Value.int .i64 width), (24, Value.bool t24)] ∧ F_towpathref02_Fixed_k0 b_ n_ width R t24 w) ?_ ?_
      · refine wpE_region (id := 3) (ops := r_towpathref02_Fixed_15) (by kernel_rfl) ?_
        refine reg_run [.plain, .plain, .plain, .plain, .plain, .plain] 6 [(0, [], Value.slice b_.ptr b_.len b_.cap), (1, [], Value.int .u64 n_), (2, [], Value.int .i64 width), (18, [], Value.bool (decide (width < 8))), (19, [(18, true)], Value.int .u64 n_), (21, [(18, true)], Value.int .i64 (IntKind.i64.wrap (8 * width)))] (by kernel_rfl) (by kernel_rfl) ?_
        refine reg_split 18 (decide (width < 8)) (by kernel_rfl) (fun hb => ?_) (fun hb => ?_)
        · replace h := h.1 hb
          refine reg_run [] 6 [(0, [], Value.slice b_.ptr b_.len b_.cap), (1, [], Value.int .u64 n_), (2, [], Value.int .i64 width), (18, [], Value.bool true), (19, [], Value.int .u64 n_), (21, [], Value.int .i64 (IntKind.i64.wrap (8 * width)))] (by kernel_rfl) (by kernel_rfl) ?_
          refine reg_run [] 6 [(0, [], Value.slice b_.ptr b_.len b_.cap), (1, [], Value.int .u64 n_), (2, [], Value.int .i64 width), (18, [], Value.bool true), (19, [], Value.int .u64 n_), (21, [], Value.int .i64 (IntKind.i64.wrap (8 * width)))] (by kernel_rfl) (by kernel_rfl) ?_
          refine reg_enter (op := (Go.Op.call (Go.Call.mk (Go.Callee.value (Go.Operand.func 18)) #[(Go.Operand.tmp 21)] #[3]))) (ty := 42) (dst := some 22) 18 #[Value.int .i64 (IntKind.i64.wrap (8 * width))] (by kernel_rfl) (fun ww => by kernel_rfl) (Calls.mono h ?_)
          rintro _ w5 ⟨v22, rfl, h⟩
          refine ⟨_, rfl, ?_⟩
          refine reg_run [.sure, .plain] 9 [(0, [], Value.slice b_.ptr b_.len b_.cap), (1, [], Value.int .u64 n_), (2, [], Value.int .i64 width), (24, [], Value.bool (decide (n_ ≥ v22)))] (by kernel_rfl) (by kernel_rfl) ?_
          refine reg_end [(0, Value.slice b_.ptr b_.len b_.cap), (1, Value.int .u64 n_), (2, Value.int .i64 width), (24, Value.bool (decide (n_ ≥ v22)))] (by kernel_rfl) (by kernel_rfl) ?_
          exact ⟨[(0, Value.slice b_.ptr b_.len b_.cap), (1, Value.int .u64 n_), (2, Value.int .i64 width), (24, Value.bool (decide (n_ ≥ v22)))], Sub.mk (by kernel_rfl), (decide (n_ ≥ v22)), rfl, h⟩
        · replace h := h.2 hb
          refine reg_run [] 6 [(0, [], Value.slice b_.ptr b_.len b_.cap), (1, [], Value.int .u64 n_), (2, [], Value.int .i64 width), (18, [], Value.bool false), (19, [], undef), (21, [], undef)] (by kernel_rfl) (by kernel_rfl) ?_
          refine reg_run [.skip, .skip, .plain] 9 [(0, [], Value.slice b_.ptr b_.len b_.cap), (1, [], Value.int .u64 n_), (2, [], Value.int .i64 width), (24, [], Value.bool false)] (by kernel_rfl) (by kernel_rfl) ?_
          refine reg_end [(0, Value.slice b_.ptr b_.len b_.cap), (1, Value.int .u64 n_), (2, Value.int .i64 width), (24, Value.bool false)] (by kernel_rfl) (by kernel_rfl) ?_
          exact ⟨[(0, Value.slice b_.ptr b_.len b_.cap), (1, Value.int .u64 n_), (2, Value.int .i64 width), (24, Value.bool false)], Sub.mk (by kernel_rfl), false, rfl, h⟩
      · rintro _ w1 ⟨t24, rfl, h⟩
        unfold F_towpathref02_Fixed_k0 at h
        refine wpE_cond (o := (Operand.tmp 24)) (b := t24) (x := c_towpathref02_Fixed_18) (y := c_towpathref02_Fixed_22) (by kernel_rfl) (by kernel_rfl) (fun hb => ?_) (fun hb => ?_)
        · replace h := h.1 hb
          refine wpE_seq (x := c_towpathref02_Fixed_19) (y := c_towpathref02_Fixed_21) (by kernel_rfl) ?_
          refine wpE_region (id := 4) (ops := r_towpathref02_Fixed_19) (by kernel_rfl) ?_
          refine reg_run [.plain, .plain, .plain] 3 [(6, [], Value.slice b_.ptr b_.len b_.cap), (7, [], Value.int .i64 3)] (by kernel_rfl) (by kernel_rfl) ?_
          refine reg_end [(6, Value.slice b_.ptr b_.len b_.cap), (7, Value.int .i64 3)] (by kernel_rfl) (by kernel_rfl) ?_
          change WpE _ _ c_towpathref02_Fixed_21 _ _ _
          refine wpE_ret (by kernel_rfl) ?_
          repeat (first | refine seqQ_ret ?_ | refine blockQ_ret ?_ | refine loopQ_ret ?_ | refine cutQ_ret ?_)
          exact retT (rs := [(Go.ResultVar.tmp 6), (Go.ResultVar.tmp 7)]) (vs := [Value.slice b_.ptr b_.len b_.cap, Value.int .i64 3]) (by kernel_rfl) (⟨by kernel_rfl, ⟨by kernel_rfl, trivial⟩⟩) (by kernel_rfl) ⟨b_, 3, rfl, h⟩
        · replace h := h.2 hb
          refine wpE_skip (by kernel_rfl) ?_
          change WpE _ _ c_towpathref02_Fixed_23 _ _ _
          refine wpE_seq (x := c_towpathref02_Fixed_24) (y := c_towpathref02_Fixed_45) (by kernel_rfl) ?_
          refine wpE_seq (x := c_towpathref02_Fixed_25) (y := c_towpathref02_Fixed_27) (by kernel_rfl) ?_
          refine wpE_region (id := 5) (ops := r_towpathref02_Fixed_25) (by kernel_rfl) ?_
          refine reg_run [.plain] 1 [(0, [], Value.slice b_.ptr b_.len b_.cap), (1, [], Value.int .u64 n_), (2, [], Value.int .i64 width), (8, [], Value.int .i64 0)] (by kernel_rfl) (by kernel_rfl) ?_
          refine reg_end [(0, Value.slice b_.ptr b_.len b_.cap), (1, Value.int .u64 n_), (2, Value.int .i64 width), (8, Value.int .i64 0)] (by kernel_rfl) (by kernel_rfl) ?_
          change WpE _ _ c_towpathref02_Fixed_27 _ _ _
          refine wpE_block (id := 0) (x := c_towpathref02_Fixed_28) (by kernel_rfl) ?_
          obtain ⟨I, μ, h0, hr⟩ := h
          refine wpE_loop (x := c_towpathref02_Fixed_29) (by kernel_rfl) (fun m l w => ∃ (b_1 : Slc) (n_1 : Int) (i : Int), l = [(0, Value.slice b_1.ptr b_1.len b_1.cap), (1, Value.int .u64 n_1), (2, Value.int .i64 width), (8, Value.int .i64 i)] ∧ I b_1 n_1 i w ∧ μ b_1 n_1 i w = m) (l' := [(0, Value.slice b_.ptr b_.len b_.cap), (1, Value.int .u64 n_), (2, Value.int .i64 width), (8, Value.int .i64 0)]) (Sub.mk (by kernel_rfl)) ⟨b_, n_, 0, rfl, h0, rfl⟩ ?_
          rintro _ _ w2 ⟨b_1, n_1, i, rfl, hI, rfl⟩
          obtain ⟨again_, again__h, h⟩ : ∃ again_ : Slc → Int → Int → World → Prop, (∀ b_1' n_1' i' w', again_ b_1' n_1' i' w' → I b_1' n_1' i' w' ∧ μ b_1' n_1' i' w' < μ b_1 n_1 i w2) ∧ F_towpathref02_Fixed_L1 width R again_ b_1 n_1 i w2 := ⟨_, fun _ _ _ _ h => h, hr b_1 n_1 i w2 hI⟩
          clear h0 hI
          unfold F_towpathref02_Fixed_L1 at h
          refine wpE_seq (x := c_towpathref02_Fixed_30) (y := c_towpathref02_Fixed_36) (by kernel_rfl) ?_
          refine wpE_seq (x := c_towpathref02_Fixed_31) (y := c_towpathref02_Fixed_33) (by kernel_rfl) ?_
          refine wpE_region (id := 6) (ops := r_towpathref02_Fixed_31) (by kernel_rfl) ?_
          refine reg_run [.plain, .plain, .plain] 3 [(0, [], Value.slice b_1.ptr b_1.len b_1.cap), (1, [], Value.int .u64 n_1), (2, [], Value.int .i64 width), (8, [], Value.int .i64 i), (28, [], Value.bool (decide (i < width)))] (by kernel_rfl) (by kernel_rfl) ?_
          refine reg_end [(0, Value.slice b_1.ptr b_1.len b_1.cap), (1, Value.int .u64 n_1), (2, Value.int .i64 width), (8, Value.int .i64 i), (28, Value.bool (decide (i < width)))] (by kernel_rfl) (by kernel_rfl) ?_
          change WpE _ _ c_towpathref02_Fixed_33 _ _ _
          refine wpE_cond (o := (Operand.tmp 28)) (b := (decide (i < width))) (x := c_towpathref02_Fixed_34) (y := c_towpathref02_Fixed_35) (by kernel_rfl) (by kernel_rfl) (fun hb => ?_) (fun hb => ?_)
          · replace h := h.1 hb
            refine wpE_skip (by kernel_rfl) ?_
            change WpE _ _ c_towpathref02_Fixed_36 _ _ _
            refine wpE_seq (x := c_towpathref02_Fixed_37) (y := c_towpathref02_Fixed_43) (by kernel_rfl) ?_
            refine wpE_block (id := 1) (x := c_towpathref02_Fixed_38) (by kernel_rfl) ?_
            refine wpE_seq (x := c_towpathref02_Fixed_39) (y := c_towpathref02_Fixed_41) (by kernel_rfl) ?_
            refine wpE_region (id := 8) (ops := r_towpathref02_Fixed_39) (by kernel_rfl) ?_
            refine reg_run [.plain, .plain, .plain, .plain] 4 [(0, [], Value.slice b_1.ptr b_1.len b_1.cap), (1, [], Value.int .u64 n_1), (2, [], Value.int .i64 width), (8, [], Value.int .i64 i), (31, [], Value.slice b_1.ptr b_1.len b_1.cap), (34, [], Value.int .u8 (IntKind.u8.wrap (Int.tmod n_1 256)))] (by kernel_rfl) (by kernel_rfl) ?_
            refine reg_new (op := (Go.Op.buildSlice 26 1 #[(0, (Go.Operand.tmp 34))])) (ty := 26) (dst := some 35) (fun bb => Value.slice (some ⟨bb, 0, none⟩) 1 1) (Obj.cells ([Value.int .u8 (IntKind.u8.wrap (Int.tmod n_1 256))]).toArray ty_uint8 (0, 0)) (by kernel_rfl) (by kernel_rfl) (fun b_2 w3 hb hw => ?_)
            replace h := h b_2 w3 hb hw
            clear hb hw
            refine reg_run [] 5 [(0, [], Value.slice b_1.ptr b_1.len b_1.cap), (1, [], Value.int .u64 n_1), (2, [], Value.int .i64 width), (8, [], Value.int .i64 i), (31, [], Value.slice b_1.ptr b_1.len b_1.cap), (35, [], Value.slice (some ⟨b_2, 0, none⟩) 1 1)] (by kernel_rfl) (by kernel_rfl) ?_
            obtain ⟨src, hs, h⟩ := h
            refine reg_append (t := 26) (tx := 26) (e := 5) (a := (Go.Operand.tmp 31)) (xo := (Go.Operand.tmp 35)) (s := b_1) (x := (Slc.mk (some ⟨b_2, 0, none⟩) 1 1)) (sz := 1) (by_ := 1) (zs := [Value.int .u8 0]) (ty := 26) (dst := some 36)  src (by kernel_rfl) (by kernel_rfl) (by kernel_rfl) (by kernel_rfl) (by kernel_rfl) (by kernel_rfl) (by kernel_rfl) (by kernel_rfl) (by kernel_rfl) hs (AppendW.mono h (fun b_3 w4 h => ?_))
            refine reg_run [.plain] 7 [(0, [], Value.slice b_3.ptr b_3.len b_3.cap), (1, [], Value.int .u64 n_1), (2, [], Value.int .i64 width), (8, [], Value.int .i64 i)] (by kernel_rfl) (by kernel_rfl) ?_
            refine reg_end [(0, Value.slice b_3.ptr b_3.len b_3.cap), (1, Value.int .u64 n_1), (2, Value.int .i64 width), (8, Value.int .i64 i)] (by kernel_rfl) (by kernel_rfl) ?_
            change WpE _ _ c_towpathref02_Fixed_41 _ _ _
            refine wpE_region (id := 9) (ops := r_towpathref02_Fixed_41) (by kernel_rfl) ?_
            refine reg_run [.plain, .plain, .plain] 3 [(0, [], Value.slice b_3.ptr b_3.len b_3.cap), (1, [], Value.int .u64 (IntKind.u64.wrap (Int.tdiv n_1 256))), (2, [], Value.int .i64 width), (8, [], Value.int .i64 i)] (by kernel_rfl) (by kernel_rfl) ?_
            refine reg_end [(0, Value.slice b_3.ptr b_3.len b_3.cap), (1, Value.int .u64 (IntKind.u64.wrap (Int.tdiv n_1 256))), (2, Value.int .i64 width), (8, Value.int .i64 i)] (by kernel_rfl) (by kernel_rfl) ?_
            change WpE _ _ c_towpathref02_Fixed_43 _ _ _
            refine wpE_region (id := 7) (ops := r_towpathref02_Fixed_43) (by kernel_rfl) ?_
            refine reg_run [.plain, .plain, .plain] 3 [(0, [], Value.slice b_3.ptr b_3.len b_3.cap), (1, [], Value.int .u64 (IntKind.u64.wrap (Int.tdiv n_1 256))), (2, [], Value.int .i64 width), (8, [], Value.int .i64 (IntKind.i64.wrap (i + 1)))] (by kernel_rfl) (by kernel_rfl) ?_
            refine reg_end [(0, Value.slice b_3.ptr b_3.len b_3.cap), (1, Value.int .u64 (IntKind.u64.wrap (Int.tdiv n_1 256))), (2, Value.int .i64 width), (8, Value.int .i64 (IntKind.i64.wrap (i + 1)))] (by kernel_rfl) (by kernel_rfl) ?_
            have hb_ := again__h _ _ _ _ h
            exact ⟨_, hb_.2, [(0, Value.slice b_3.ptr b_3.len b_3.cap), (1, Value.int .u64 (IntKind.u64.wrap (Int.tdiv n_1 256))), (2, Value.int .i64 width), (8, Value.int .i64 (IntKind.i64.wrap (i + 1)))], Sub.mk (by kernel_rfl), b_3, (IntKind.u64.wrap (Int.tdiv n_1 256)), (IntKind.i64.wrap (i + 1)), rfl, hb_.1, rfl⟩
          · replace h := h.2 hb
            refine wpE_exit (id := 0) (by kernel_rfl) ?_
            change WpE _ _ c_towpathref02_Fixed_45 _ _ _
            refine wpE_seq (x := c_towpathref02_Fixed_46) (y := c_towpathref02_Fixed_48) (by kernel_rfl) ?_
            refine wpE_region (id := 10) (ops := r_towpathref02_Fixed_46) (by kernel_rfl) ?_
            refine reg_run [.plain, .plain, .plain] 3 [(6, [], Value.slice b_1.ptr b_1.len b_1.cap), (7, [], Value.int .i64 0)] (by kernel_rfl) (by kernel_rfl) ?_
            refine reg_end [(6, Value.slice b_1.ptr b_1.len b_1.cap), (7, Value.int .i64 0)] (by kernel_rfl) (by kernel_rfl) ?_
            change WpE _ _ c_towpathref02_Fixed_48 _ _ _
            refine wpE_ret (by kernel_rfl) ?_
            repeat (first | refine seqQ_ret ?_ | refine blockQ_ret ?_ | refine loopQ_ret ?_ | refine cutQ_ret ?_)
            exact retT (rs := [(Go.ResultVar.tmp 6), (Go.ResultVar.tmp 7)]) (vs := [Value.slice b_1.ptr b_1.len b_1.cap, Value.int .i64 0]) (by kernel_rfl) (⟨by kernel_rfl, ⟨by kernel_rfl, trivial⟩⟩) (by kernel_rfl) ⟨b_1, 0, rfl, h⟩
  · rintro e w' ⟨v, rfl, r0, r1, rfl, h⟩; exact ⟨r0, r1, rfl, h⟩

/-! ### towpath/towpathref02.Int (function 8) -/
noncomputable def c_towpathref02_Int_0 : Code := (Tryd.f8.body).getD Code.skip
noncomputable def c_towpathref02_Int_1 : Code := Code.l c_towpathref02_Int_0
noncomputable def r_towpathref02_Int_1 : Array Oper := Code.ops c_towpathref02_Int_1
noncomputable def c_towpathref02_Int_3 : Code := Code.r c_towpathref02_Int_0
noncomputable def c_towpathref02_Int_4 : Code := Code.l c_towpathref02_Int_3
noncomputable def r_towpathref02_Int_4 : Array Oper := Code.ops c_towpathref02_Int_4
noncomputable def c_towpathref02_Int_6 : Code := Code.r c_towpathref02_Int_3

set_option maxRecDepth 100000 in
set_option maxHeartbeats 4000000 in
theorem S_towpathref02_Int {b_ : Slc} {n_ : Int} {w : World} {R : Slc → World → Prop} (h : F_towpathref02_Int b_ n_ R w) : C_towpathref02_Int b_ n_ w R := by
  unfold F_towpathref02_Int at h
  unfold C_towpathref02_Int
  refine Calls.mono (calls_of_wpE (args := [Value.slice b_.ptr b_.len b_.cap, Value.int .i64 n_]) (R := fun v w' => ∃ (r0 : Slc), v = Value.slice r0.ptr r0.len r0.cap ∧ R r0 w') Tryd.func8 (c := c_towpathref02_Int_0) (by kernel_rfl) 9 (by kernel_rfl) (by kernel_rfl) [(0, Value.slice b_.ptr b_.len b_.cap), (1, Value.int .i64 n_)] (by kernel_rfl) ?_) ?_
  · refine wpE_seq (x := c_towpathref02_Int_1) (y := c_towpathref02_Int_3) (by kernel_rfl) ?_
    refine wpE_region (id := 0) (ops := r_towpathref02_Int_1) (by kernel_rfl) ?_
    refine reg_run [.plain] 1 [(0, [], Value.slice b_.ptr b_.len b_.cap), (1, [], Value.int .i64 n_)] (by kernel_rfl) (by kernel_rfl) ?_
    refine reg_end [(0, Value.slice b_.ptr b_.len b_.cap), (1, Value.int .i64 n_)] (by kernel_rfl) (by kernel_rfl) ?_
    change WpE _ _ c_towpathref02_Int_3 _ _ _
    refine wpE_seq (x := c_towpathref02_Int_4) (y := c_towpathref02_Int_6) (by kernel_rfl) ?_
    refine wpE_region (id := 1) (ops := r_towpathref02_Int_4) (by kernel_rfl) ?_
    refine reg_run [.plain, .plain] 2 [(5, [], Value.slice b_.ptr b_.len b_.cap), (6, [], Value.int .i64 n_)] (by kernel_rfl) (by kernel_rfl) ?_
    refine reg_enter (op := (Go.Op.call (Go.Call.mk (Go.Callee.value (Go.Operand.func 20)) #[(Go.Operand.tmp 6)] #[2]))) (ty := 42) (dst := some 7) 20 #[Value.int .i64 n_] (by kernel_rfl) (fun ww => by kernel_rfl) (Calls.mono h ?_)
    rintro _ w1 ⟨v7, rfl, h⟩
    refine ⟨_, rfl, ?_⟩
    refine reg_run [] 3 [(5, [], Value.slice b_.ptr b_.len b_.cap), (7, [], Value.int .u64 v7)] (by kernel_rfl) (by kernel_rfl) ?_
    refine reg_enter (op := (Go.Op.call (Go.Call.mk (Go.Callee.value (Go.Operand.func 12)) #[(Go.Operand.tmp 5), (Go.Operand.tmp 7)] #[26, 42]))) (ty := 26) (dst := some 8) 12 #[Value.slice b_.ptr b_.len b_.cap, Value.int .u64 v7] (by kernel_rfl) (fun ww => by kernel_rfl) (Calls.mono h ?_)
    rintro _ w2 ⟨v8, rfl, h⟩
    refine ⟨_, rfl, ?_⟩
    refine reg_run [.plain] 5 [(4, [], Value.slice v8.ptr v8.len v8.cap)] (by kernel_rfl) (by kernel_rfl) ?_
    refine reg_end [(4, Value.slice v8.ptr v8.len v8.cap)] (by kernel_rfl) (by kernel_rfl) ?_
    change WpE _ _ c_towpathref02_Int_6 _ _ _
    refine wpE_ret (by kernel_rfl) ?_
    repeat (first | refine seqQ_ret ?_ | refine blockQ_ret ?_ | refine loopQ_ret ?_ | refine cutQ_ret ?_)
    exact retS (rs := [(Go.ResultVar.tmp 4)]) (v := Value.slice v8.ptr v8.len v8.cap) (by kernel_rfl) (⟨by kernel_rfl, trivial⟩) ⟨v8, rfl, h⟩
  · rintro e w' ⟨v, rfl, r0, rfl, h⟩; exact ⟨r0, rfl, h⟩

/-! ### towpath/towpathref02.Text (function 10) -/
noncomputable def c_towpathref02_Text_0 : Code := (Tryd.f10.body).getD Code.skip
noncomputable def c_towpathref02_Text_1 : Code := Code.l c_towpathref02_Text_0
noncomputable def r_towpathref02_Text_1 : Array Oper := Code.ops c_towpathref02_Text_1
noncomputable def c_towpathref02_Text_3 : Code := Code.r c_towpathref02_Text_0
noncomputable def c_towpathref02_Text_4 : Code := Code.l c_towpathref02_Text_3
noncomputable def r_towpathref02_Text_4 : Array Oper := Code.ops c_towpathref02_Text_4
noncomputable def c_towpathref02_Text_6 : Code := Code.r c_towpathref02_Text_3
noncomputable def c_towpathref02_Text_7 : Code := Code.l c_towpathref02_Text_6
noncomputable def c_towpathref02_Text_8 : Code := Code.l c_towpathref02_Text_7
noncomputable def r_towpathref02_Text_8 : Array Oper := Code.ops c_towpathref02_Text_8
noncomputable def c_towpathref02_Text_10 : Code := Code.r c_towpathref02_Text_7
noncomputable def c_towpathref02_Text_11 : Code := Code.l c_towpathref02_Text_10
noncomputable def c_towpathref02_Text_12 : Code := Code.l c_towpathref02_Text_11
noncomputable def c_towpathref02_Text_13 : Code := Code.l c_towpathref02_Text_12
noncomputable def c_towpathref02_Text_14 : Code := Code.l c_towpathref02_Text_13
noncomputable def r_towpathref02_Text_14 : Array Oper := Code.ops c_towpathref02_Text_14
noncomputable def c_towpathref02_Text_16 : Code := Code.r c_towpathref02_Text_13
noncomputable def c_towpathref02_Text_17 : Code := Code.l c_towpathref02_Text_16
noncomputable def c_towpathref02_Text_18 : Code := Code.r c_towpathref02_Text_16
noncomputable def c_towpathref02_Text_19 : Code := Code.r c_towpathref02_Text_12
noncomputable def c_towpathref02_Text_20 : Code := Code.l c_towpathref02_Text_19
noncomputable def c_towpathref02_Text_21 : Code := Code.l c_towpathref02_Text_20
noncomputable def r_towpathref02_Text_21 : Array Oper := Code.ops c_towpathref02_Text_21
noncomputable def c_towpathref02_Text_23 : Code := Code.r c_towpathref02_Text_19
noncomputable def r_towpathref02_Text_23 : Array Oper := Code.ops c_towpathref02_Text_23
noncomputable def c_towpathref02_Text_25 : Code := Code.r c_towpathref02_Text_6
noncomputable def c_towpathref02_Text_26 : Code := Code.l c_towpathref02_Text_25
noncomputable def r_towpathref02_Text_26 : Array Oper := Code.ops c_towpathref02_Text_26
noncomputable def c_towpathref02_Text_28 : Code := Code.r c_towpathref02_Text_25

set_option maxRecDepth 100000 in
set_option maxHeartbeats 4000000 in
theorem S_towpathref02_Text {b_ : Slc} {s : ByteArray} {w : World} {R : Slc → World → Prop} (h : F_towpathref02_Text b_ s R w) : C_towpathref02_Text b_ s w R := by
  unfold F_towpathref02_Text at h
  unfold C_towpathref02_Text
  refine Calls.mono (calls_of_wpE (args := [Value.slice b_.ptr b_.len b_.cap, Value.string s]) (R := fun v w' => ∃ (r0 : Slc), v = Value.slice r0.ptr r0.len r0.cap ∧ R r0 w') Tryd.func10 (c := c_towpathref02_Text_0) (by kernel_rfl) 24 (by kernel_rfl) (by kernel_rfl) [(0, Value.slice b_.ptr b_.len b_.cap), (1, Value.string s)] (by kernel_rfl) ?_) ?_
  · refine wpE_seq (x := c_towpathref02_Text_1) (y := c_towpathref02_Text_3) (by kernel_rfl) ?_
    refine wpE_region (id := 0) (ops := r_towpathref02_Text_1) (by kernel_rfl) ?_
    refine reg_run [.plain] 1 [(0, [], Value.slice b_.ptr b_.len b_.cap), (1, [], Value.string s)] (by kernel_rfl) (by kernel_rfl) ?_
    refine reg_end [(0, Value.slice b_.ptr b_.len b_.cap), (1, Value.string s)] (by kernel_rfl) (by kernel_rfl) ?_
    change WpE _ _ c_towpathref02_Text_3 _ _ _
    refine wpE_seq (x := c_towpathref02_Text_4) (y := c_towpathref02_Text_6) (by kernel_rfl) ?_
    refine wpE_region (id := 1) (ops := r_towpathref02_Text_4) (by kernel_rfl) ?_
    refine reg_run [.plain, .plain, .plain, .plain] 4 [(0, [], Value.slice b_.ptr b_.len b_.cap), (1, [], Value.string s), (6, [], Value.slice b_.ptr b_.len b_.cap), (9, [], Value.int .u64 (IntKind.u64.wrap ((s.size : Nat) : Int)))] (by kernel_rfl) (by kernel_rfl) ?_
    refine reg_enter (op := (Go.Op.call (Go.Call.mk (Go.Callee.value (Go.Operand.func 12)) #[(Go.Operand.tmp 6), (Go.Operand.tmp 9)] #[26, 42]))) (ty := 26) (dst := some 10) 12 #[Value.slice b_.ptr b_.len b_.cap, Value.int .u64 (IntKind.u64.wrap ((s.size : Nat) : Int))] (by kernel_rfl) (fun ww => by kernel_rfl) (Calls.mono h ?_)
    rintro _ w1 ⟨v10, rfl, h⟩
    refine ⟨_, rfl, ?_⟩
    refine reg_run [.plain] 6 [(0, [], Value.slice v10.ptr v10.len v10.cap), (1, [], Value.string s)] (by kernel_rfl) (by kernel_rfl) ?_
    refine reg_end [(0, Value.slice v10.ptr v10.len v10.cap), (1, Value.string s)] (by kernel_rfl) (by kernel_rfl) ?_
    change WpE _ _ c_towpathref02_Text_6 _ _ _
    refine wpE_seq (x := c_towpathref02_Text_7) (y := c_towpathref02_Text_25) (by kernel_rfl) ?_
    refine wpE_seq (x := c_towpathref02_Text_8) (y := c_towpathref02_Text_10) (by kernel_rfl) ?_
    refine wpE_region (id := 2) (ops := r_towpathref02_Text_8) (by kernel_rfl) ?_
    refine reg_run [.plain] 1 [(0, [], Value.slice v10.ptr v10.len v10.cap), (1, [], Value.string s), (5, [], Value.int .i64 0)] (by kernel_rfl) (by kernel_rfl) ?_
    refine reg_end [(0, Value.slice v10.ptr v10.len v10.cap), (1, Value.string s), (5, Value.int .i64 0)] (by kernel_rfl) (by kernel_rfl) ?_
    change WpE _ _ c_towpathref02_Text_10 _ _ _
    refine wpE_block (id := 0) (x := c_towpathref02_Text_11) (by kernel_rfl) ?_
    obtain ⟨I, μ, h0, hr⟩ := h
    refine wpE_loop (x := c_towpathref02_Text_12) (by kernel_rfl) (fun m l w => ∃ (b_1 : Slc) (i : Int), l = [(0, Value.slice b_1.ptr b_1.len b_1.cap), (1, Value.string s), (5, Value.int .i64 i)] ∧ I b_1 i w ∧ μ b_1 i w = m) (l' := [(0, Value.slice v10.ptr v10.len v10.cap), (1, Value.string s), (5, Value.int .i64 0)]) (Sub.mk (by kernel_rfl)) ⟨v10, 0, rfl, h0, rfl⟩ ?_
    rintro _ _ w2 ⟨b_1, i, rfl, hI, rfl⟩
    obtain ⟨again_, again__h, h⟩ : ∃ again_ : Slc → Int → World → Prop, (∀ b_1' i' w', again_ b_1' i' w' → I b_1' i' w' ∧ μ b_1' i' w' < μ b_1 i w2) ∧ F_towpathref02_Text_L0 s R again_ b_1 i w2 := ⟨_, fun _ _ _ h => h, hr b_1 i w2 hI⟩
    clear h0 hI
    unfold F_towpathref02_Text_L0 at h
    refine wpE_seq (x := c_towpathref02_Text_13) (y := c_towpathref02_Text_19) (by kernel_rfl) ?_
    refine wpE_seq (x := c_towpathref02_Text_14) (y := c_towpathref02_Text_16) (by kernel_rfl) ?_
    refine wpE_region (id := 3) (ops := r_towpathref02_Text_14) (by kernel_rfl) ?_
    refine reg_run [.plain, .plain, .plain, .plain] 4 [(0, [], Value.slice b_1.ptr b_1.len b_1.cap), (1, [], Value.string s), (5, [], Value.int .i64 i), (14, [], Value.bool (decide (i < ((s.size : Nat) : Int))))] (by kernel_rfl) (by kernel_rfl) ?_
    refine reg_end [(0, Value.slice b_1.ptr b_1.len b_1.cap), (1, Value.string s), (5, Value.int .i64 i), (14, Value.bool (decide (i < ((s.size : Nat) : Int))))] (by kernel_rfl) (by kernel_rfl) ?_
    change WpE _ _ c_towpathref02_Text_16 _ _ _
    refine wpE_cond (o := (Operand.tmp 14)) (b := (decide (i < ((s.size : Nat) : Int)))) (x := c_towpathref02_Text_17) (y := c_towpathref02_Text_18) (by kernel_rfl) (by kernel_rfl) (fun hb => ?_) (fun hb => ?_)
    · replace h := h.1 hb
      refine wpE_skip (by kernel_rfl) ?_
      change WpE _ _ c_towpathref02_Text_19 _ _ _
      refine wpE_seq (x := c_towpathref02_Text_20) (y := c_towpathref02_Text_23) (by kernel_rfl) ?_
      refine wpE_block (id := 1) (x := c_towpathref02_Text_21) (by kernel_rfl) ?_
      refine wpE_region (id := 5) (ops := r_towpathref02_Text_21) (by kernel_rfl) ?_
      refine reg_run [.plain, .plain, .plain] 3 [(0, [], Value.slice b_1.ptr b_1.len b_1.cap), (1, [], Value.string s), (5, [], Value.int .i64 i), (17, [], Value.slice b_1.ptr b_1.len b_1.cap), (18, [], Value.string s), (19, [], Value.int .i64 i)] (by kernel_rfl) (by kernel_rfl) ?_
      obtain ⟨h0, h1, h⟩ := h
      refine reg_indexStr (t := 9) (x := (Go.Operand.tmp 18)) (ix := (Go.Operand.tmp 19)) (s := s) (k := .i64) (j := i) (ty := 5) (dst := some 20) (by kernel_rfl) (by kernel_rfl) (by kernel_rfl) (by kernel_rfl) h0 h1 ?_
      refine reg_run [] 4 [(0, [], Value.slice b_1.ptr b_1.len b_1.cap), (1, [], Value.string s), (5, [], Value.int .i64 i), (17, [], Value.slice b_1.ptr b_1.len b_1.cap), (20, [], Value.int .u8 (byteAt s i))] (by kernel_rfl) (by kernel_rfl) ?_
      refine reg_new (op := (Go.Op.buildSlice 26 1 #[(0, (Go.Operand.tmp 20))])) (ty := 26) (dst := some 21) (fun bb => Value.slice (some ⟨bb, 0, none⟩) 1 1) (Obj.cells ([Value.int .u8 (byteAt s i)]).toArray ty_uint8 (0, 0)) (by kernel_rfl) (by kernel_rfl) (fun b_2 w3 hb hw => ?_)
      replace h := h b_2 w3 hb hw
      clear hb hw
      refine reg_run [] 5 [(0, [], Value.slice b_1.ptr b_1.len b_1.cap), (1, [], Value.string s), (5, [], Value.int .i64 i), (17, [], Value.slice b_1.ptr b_1.len b_1.cap), (21, [], Value.slice (some ⟨b_2, 0, none⟩) 1 1)] (by kernel_rfl) (by kernel_rfl) ?_
      obtain ⟨src, hs, h⟩ := h
      refine reg_append (t := 26) (tx := 26) (e := 5) (a := (Go.Operand.tmp 17)) (xo := (Go.Operand.tmp 21)) (s := b_1) (x := (Slc.mk (some ⟨b_2, 0, none⟩) 1 1)) (sz := 1) (by_ := 1) (zs := [Value.int .u8 0]) (ty := 26) (dst := some 22)  src (by kernel_rfl) (by kernel_rfl) (by kernel_rfl) (by kernel_rfl) (by kernel_rfl) (by kernel_rfl) (by kernel_rfl) (by kernel_rfl) (by kernel_rfl) hs (AppendW.mono h (fun b_3 w4 h => ?_))
      refine reg_run [.plain] 7 [(0, [], Value.slice b_3.ptr b_3.len b_3.cap), (1, [], Value.string s), (5, [], Value.int .i64 i)] (by kernel_rfl) (by kernel_rfl) ?_
      refine reg_end [(0, Value.slice b_3.ptr b_3.len b_3.cap), (1, Value.string s), (5, Value.int .i64 i)] (by kernel_rfl) (by kernel_rfl) ?_
      change WpE _ _ c_towpathref02_Text_23 _ _ _
      refine wpE_region (id := 4) (ops := r_towpathref02_Text_23) (by kernel_rfl) ?_
      refine reg_run [.plain, .plain, .plain] 3 [(0, [], Value.slice b_3.ptr b_3.len b_3.cap), (1, [], Value.string s), (5, [], Value.int .i64 (IntKind.i64.wrap (i + 1)))] (by kernel_rfl) (by kernel_rfl) ?_
      refine reg_end [(0, Value.slice b_3.ptr b_3.len b_3.cap), (1, Value.string s), (5, Value.int .i64 (IntKind.i64.wrap (i + 1)))] (by kernel_rfl) (by kernel_rfl) ?_
      have hb_ := again__h _ _ _ h
      exact ⟨_, hb_.2, [(0, Value.slice b_3.ptr b_3.len b_3.cap), (1, Value.string s), (5, Value.int .i64 (IntKind.i64.wrap (i + 1)))], Sub.mk (by kernel_rfl), b_3, (IntKind.i64.wrap (i + 1)), rfl, hb_.1, rfl⟩
    · replace h := h.2 hb
      refine wpE_exit (id := 0) (by kernel_rfl) ?_
      change WpE _ _ c_towpathref02_Text_25 _ _ _
      refine wpE_seq (x := c_towpathref02_Text_26) (y := c_towpathref02_Text_28) (by kernel_rfl) ?_
      refine wpE_region (id := 6) (ops := r_towpathref02_Text_26) (by kernel_rfl) ?_
      refine reg_run [.plain, .plain] 2 [(4, [], Value.slice b_1.ptr b_1.len b_1.cap)] (by kernel_rfl) (by kernel_rfl) ?_
      refine reg_end [(4, Value.slice b_1.ptr b_1.len b_1.cap)] (by kernel_rfl) (by kernel_rfl) ?_
      change WpE _ _ c_towpathref02_Text_28 _ _ _
      refine wpE_ret (by kernel_rfl) ?_
      repeat (first | refine seqQ_ret ?_ | refine blockQ_ret ?_ | refine loopQ_ret ?_ | refine cutQ_ret ?_)
      exact retS (rs := [(Go.ResultVar.tmp 4)]) (v := Value.slice b_1.ptr b_1.len b_1.cap) (by kernel_rfl) (⟨by kernel_rfl, trivial⟩) ⟨b_1, rfl, h⟩
  · rintro e w' ⟨v, rfl, r0, rfl, h⟩; exact ⟨r0, rfl, h⟩

/-! ### towpath/towpathref02.Var (function 12) -/
noncomputable def c_towpathref02_Var_0 : Code := (Tryd.f12.body).getD Code.skip
noncomputable def c_towpathref02_Var_1 : Code := Code.l c_towpathref02_Var_0
noncomputable def r_towpathref02_Var_1 : Array Oper := Code.ops c_towpathref02_Var_1
noncomputable def c_towpathref02_Var_3 : Code := Code.r c_towpathref02_Var_0
noncomputable def c_towpathref02_Var_4 : Code := Code.l c_towpathref02_Var_3
noncomputable def c_towpathref02_Var_5 : Code := Code.l c_towpathref02_Var_4
noncomputable def c_towpathref02_Var_6 : Code := Code.l c_towpathref02_Var_5
noncomputable def c_towpathref02_Var_7 : Code := Code.l c_towpathref02_Var_6
noncomputable def c_towpathref02_Var_8 : Code := Code.l c_towpathref02_Var_7
noncomputable def r_towpathref02_Var_8 : Array Oper := Code.ops c_towpathref02_Var_8
noncomputable def c_towpathref02_Var_10 : Code := Code.r c_towpathref02_Var_7
noncomputable def c_towpathref02_Var_11 : Code := Code.l c_towpathref02_Var_10
noncomputable def c_towpathref02_Var_12 : Code := Code.r c_towpathref02_Var_10
noncomputable def c_towpathref02_Var_13 : Code := Code.r c_towpathref02_Var_6
noncomputable def c_towpathref02_Var_14 : Code := Code.l c_towpathref02_Var_13
noncomputable def c_towpathref02_Var_15 : Code := Code.l c_towpathref02_Var_14
noncomputable def r_towpathref02_Var_15 : Array Oper := Code.ops c_towpathref02_Var_15
noncomputable def c_towpathref02_Var_17 : Code := Code.r c_towpathref02_Var_14
noncomputable def r_towpathref02_Var_17 : Array Oper := Code.ops c_towpathref02_Var_17
noncomputable def c_towpathref02_Var_19 : Code := Code.r c_towpathref02_Var_3
noncomputable def c_towpathref02_Var_20 : Code := Code.l c_towpathref02_Var_19
noncomputable def r_towpathref02_Var_20 : Array Oper := Code.ops c_towpathref02_Var_20
noncomputable def c_towpathref02_Var_22 : Code := Code.r c_towpathref02_Var_19

set_option maxRecDepth 100000 in
set_option maxHeartbeats 4000000 in
theorem S_towpathref02_Var {b_ : Slc} {n_ : Int} {w : World} {R : Slc → World → Prop} (h : F_towpathref02_Var b_ n_ R w) : C_towpathref02_Var b_ n_ w R := by
  unfold F_towpathref02_Var at h
  unfold C_towpathref02_Var
  refine Calls.mono (calls_of_wpE (args := [Value.slice b_.ptr b_.len b_.cap, Value.int .u64 n_]) (R := fun v w' => ∃ (r0 : Slc), v = Value.slice r0.ptr r0.len r0.cap ∧ R r0 w') Tryd.func12 (c := c_towpathref02_Var_0) (by kernel_rfl) 21 (by kernel_rfl) (by kernel_rfl) [(0, Value.slice b_.ptr b_.len b_.cap), (1, Value.int .u64 n_)] (by kernel_rfl) ?_) ?_
  · refine wpE_seq (x := c_towpathref02_Var_1) (y := c_towpathref02_Var_3) (by kernel_rfl) ?_
    refine wpE_region (id := 0) (ops := r_towpathref02_Var_1) (by kernel_rfl) ?_
    refine reg_run [.plain] 1 [(0, [], Value.slice b_.ptr b_.len b_.cap), (1, [], Value.int .u64 n_)] (by kernel_rfl) (by kernel_rfl) ?_
    refine reg_end [(0, Value.slice b_.ptr b_.len b_.cap), (1, Value.int .u64 n_)] (by kernel_rfl) (by kernel_rfl) ?_
    change WpE _ _ c_towpathref02_Var_3 _ _ _
    refine wpE_seq (x := c_towpathref02_Var_4) (y := c_towpathref02_Var_19) (by kernel_rfl) ?_
    refine wpE_block (id := 0) (x := c_towpathref02_Var_5) (by kernel_rfl) ?_
    obtain ⟨I, μ, h0, hr⟩ := h
    refine wpE_loop (x := c_towpathref02_Var_6) (by kernel_rfl) (fun m l w => ∃ (b_1 : Slc) (n_1 : Int), l = [(0, Value.slice b_1.ptr b_1.len b_1.cap), (1, Value.int .u64 n_1)] ∧ I b_1 n_1 w ∧ μ b_1 n_1 w = m) (l' := [(0, Value.slice b_.ptr b_.len b_.cap), (1, Value.int .u64 n_)]) (Sub.mk (by kernel_rfl)) ⟨b_, n_, rfl, h0, rfl⟩ ?_
    rintro _ _ w1 ⟨b_1, n_1, rfl, hI, rfl⟩
    obtain ⟨again_, again__h, h⟩ : ∃ again_ : Slc → Int → World → Prop, (∀ b_1' n_1' w', again_ b_1' n_1' w' → I b_1' n_1' w' ∧ μ b_1' n_1' w' < μ b_1 n_1 w1) ∧ F_towpathref02_Var_L0 R again_ b_1 n_1 w1 := ⟨_, fun _ _ _ h => h, hr b_1 n_1 w1 hI⟩
    clear h0 hI
    unfold F_towpathref02_Var_L0 at h
    refine wpE_seq (x := c_towpathref02_Var_7) (y := c_towpathref02_Var_13) (by kernel_rfl) ?_
    refine wpE_seq (x := c_towpathref02_Var_8) (y := c_towpathref02_Var_10) (by kernel_rfl) ?_
    refine wpE_region (id := 1) (ops := r_towpathref02_Var_8) (by kernel_rfl) ?_
    refine reg_run [.plain, .plain] 2 [(0, [], Value.slice b_1.ptr b_1.len b_1.cap), (1, [], Value.int .u64 n_1), (6, [], Value.bool (decide (n_1 ≥ 128)))] (by kernel_rfl) (by kernel_rfl) ?_
    refine reg_end [(0, Value.slice b_1.ptr b_1.len b_1.cap), (1, Value.int .u64 n_1), (6, Value.bool (decide (n_1 ≥ 128)))] (by kernel_rfl) (by kernel_rfl) ?_
    change WpE _ _ c_towpathref02_Var_10 _ _ _
    refine wpE_cond (o := (Operand.tmp 6)) (b := (decide (n_1 ≥ 128))) (x := c_towpathref02_Var_11) (y := c_towpathref02_Var_12) (by kernel_rfl) (by kernel_rfl) (fun hb => ?_) (fun hb => ?_)
    · replace h := h.1 hb
      refine wpE_skip (by kernel_rfl) ?_
      change WpE _ _ c_towpathref02_Var_13 _ _ _
      refine wpE_block (id := 1) (x := c_towpathref02_Var_14) (by kernel_rfl) ?_
      refine wpE_seq (x := c_towpathref02_Var_15) (y := c_towpathref02_Var_17) (by kernel_rfl) ?_
      refine wpE_region (id := 2) (ops := r_towpathref02_Var_15) (by kernel_rfl) ?_
      refine reg_run [.plain, .plain, .plain, .plain, .plain] 5 [(0, [], Value.slice b_1.ptr b_1.len b_1.cap), (1, [], Value.int .u64 n_1), (7, [], Value.slice b_1.ptr b_1.len b_1.cap), (11, [], Value.int .u8 (IntKind.u8.wrap (IntKind.u64.wrap (128 + (Int.tmod n_1 128)))))] (by kernel_rfl) (by kernel_rfl) ?_
      refine reg_new (op := (Go.Op.buildSlice 26 1 #[(0, (Go.Operand.tmp 11))])) (ty := 26) (dst := some 12) (fun bb => Value.slice (some ⟨bb, 0, none⟩) 1 1) (Obj.cells ([Value.int .u8 (IntKind.u8.wrap (IntKind.u64.wrap (128 + (Int.tmod n_1 128))))]).toArray ty_uint8 (0, 0)) (by kernel_rfl) (by kernel_rfl) (fun b_2 w2 hb hw => ?_)
      replace h := h b_2 w2 hb hw
      clear hb hw
      refine reg_run [] 6 [(0, [], Value.slice b_1.ptr b_1.len b_1.cap), (1, [], Value.int .u64 n_1), (7, [], Value.slice b_1.ptr b_1.len b_1.cap), (12, [], Value.slice (some ⟨b_2, 0, none⟩) 1 1)] (by kernel_rfl) (by kernel_rfl) ?_
      obtain ⟨src, hs, h⟩ := h
      refine reg_append (t := 26) (tx := 26) (e := 5) (a := (Go.Operand.tmp 7)) (xo := (Go.Operand.tmp 12)) (s := b_1) (x := (Slc.mk (some ⟨b_2, 0, none⟩) 1 1)) (sz := 1) (by_ := 1) (zs := [Value.int .u8 0]) (ty := 26) (dst := some 13)  src (by kernel_rfl) (by kernel_rfl) (by kernel_rfl) (by kernel_rfl) (by kernel_rfl) (by kernel_rfl) (by kernel_rfl) (by kernel_rfl) (by kernel_rfl) hs (AppendW.mono h (fun b_3 w3 h => ?_))
      refine reg_run [.plain] 8 [(0, [], Value.slice b_3.ptr b_3.len b_3.cap), (1, [], Value.int .u64 n_1)] (by kernel_rfl) (by kernel_rfl) ?_
      refine reg_end [(0, Value.slice b_3.ptr b_3.len b_3.cap), (1, Value.int .u64 n_1)] (by kernel_rfl) (by kernel_rfl) ?_
      change WpE _ _ c_towpathref02_Var_17 _ _ _
      refine wpE_region (id := 3) (ops := r_towpathref02_Var_17) (by kernel_rfl) ?_
      refine reg_run [.plain, .plain, .plain] 3 [(0, [], Value.slice b_3.ptr b_3.len b_3.cap), (1, [], Value.int .u64 (IntKind.u64.wrap (Int.tdiv n_1 128)))] (by kernel_rfl) (by kernel_rfl) ?_
      refine reg_end [(0, Value.slice b_3.ptr b_3.len b_3.cap), (1, Value.int .u64 (IntKind.u64.wrap (Int.tdiv n_1 128)))] (by kernel_rfl) (by kernel_rfl) ?_
      have hb_ := again__h _ _ _ h
      exact ⟨_, hb_.2, [(0, Value.slice b_3.ptr b_3.len b_3.cap), (1, Value.int .u64 (IntKind.u64.wrap (Int.tdiv n_1 128)))], Sub.mk (by kernel_rfl), b_3, (IntKind.u64.wrap (Int.tdiv n_1 128)), rfl, hb_.1, rfl⟩
    · replace h := h.2 hb
      refine wpE_exit (id := 0) (by kernel_rfl) ?_
      change WpE _ _ c_towpathref02_Var_19 _ _ _
      refine wpE_seq (x := c_towpathref02_Var_20) (y := c_towpathref02_Var_22) (by kernel_rfl) ?_
      refine wpE_region (id := 4) (ops := r_towpathref02_Var_20) (by kernel_rfl) ?_
      refine reg_run [.plain, .plain, .plain] 3 [(16, [], Value.slice b_1.ptr b_1.len b_1.cap), (18, [], Value.int .u8 (IntKind.u8.wrap n_1))] (by kernel_rfl) (by kernel_rfl) ?_
      refine reg_new (op := (Go.Op.buildSlice 26 1 #[(0, (Go.Operand.tmp 18))])) (ty := 26) (dst := some 19) (fun bb => Value.slice (some ⟨bb, 0, none⟩) 1 1) (Obj.cells ([Value.int .u8 (IntKind.u8.wrap n_1)]).toArray ty_uint8 (0, 0)) (by kernel_rfl) (by kernel_rfl) (fun b_4 w4 hb hw => ?_)
      replace h := h b_4 w4 hb hw
      clear hb hw
      refine reg_run [] 4 [(16, [], Value.slice b_1.ptr b_1.len b_1.cap), (19, [], Value.slice (some ⟨b_4, 0, none⟩) 1 1)] (by kernel_rfl) (by kernel_rfl) ?_
      obtain ⟨src, hs, h⟩ := h
      refine reg_append (t := 26) (tx := 26) (e := 5) (a := (Go.Operand.tmp 16)) (xo := (Go.Operand.tmp 19)) (s := b_1) (x := (Slc.mk (some ⟨b_4, 0, none⟩) 1 1)) (sz := 1) (by_ := 1) (zs := [Value.int .u8 0]) (ty := 26) (dst := some 20)  src (by kernel_rfl) (by kernel_rfl) (by kernel_rfl) (by kernel_rfl) (by kernel_rfl) (by kernel_rfl) (by kernel_rfl) (by kernel_rfl) (by kernel_rfl) hs (AppendW.mono h (fun v20 w5 h => ?_))
      refine reg_run [.plain] 6 [(4, [], Value.slice v20.ptr v20.len v20.cap)] (by kernel_rfl) (by kernel_rfl) ?_
      refine reg_end [(4, Value.slice v20.ptr v20.len v20.cap)] (by kernel_rfl) (by kernel_rfl) ?_
      change WpE _ _ c_towpathref02_Var_22 _ _ _
      refine wpE_ret (by kernel_rfl) ?_
      repeat (first | refine seqQ_ret ?_ | refine blockQ_ret ?_ | refine loopQ_ret ?_ | refine cutQ_ret ?_)
      exact retS (rs := [(Go.ResultVar.tmp 4)]) (v := Value.slice v20.ptr v20.len v20.cap) (by kernel_rfl) (⟨by kernel_rfl, trivial⟩) ⟨v20, rfl, h⟩
  · rintro e w' ⟨v, rfl, r0, rfl, h⟩; exact ⟨r0, rfl, h⟩

/-! ### towpath/towpathref02.power (function 18) -/
noncomputable def c_towpathref02_power_0 : Code := (Tryd.f18.body).getD Code.skip
noncomputable def c_towpathref02_power_1 : Code := Code.l c_towpathref02_power_0
noncomputable def r_towpathref02_power_1 : Array Oper := Code.ops c_towpathref02_power_1
noncomputable def c_towpathref02_power_3 : Code := Code.r c_towpathref02_power_0
noncomputable def c_towpathref02_power_4 : Code := Code.l c_towpathref02_power_3
noncomputable def r_towpathref02_power_4 : Array Oper := Code.ops c_towpathref02_power_4
noncomputable def c_towpathref02_power_6 : Code := Code.r c_towpathref02_power_3
noncomputable def c_towpathref02_power_7 : Code := Code.l c_towpathref02_power_6
noncomputable def c_towpathref02_power_8 : Code := Code.l c_towpathref02_power_7
noncomputable def r_towpathref02_power_8 : Array Oper := Code.ops c_towpathref02_power_8
noncomputable def c_towpathref02_power_10 : Code := Code.r c_towpathref02_power_7
noncomputable def c_towpathref02_power_11 : Code := Code.l c_towpathref02_power_10
noncomputable def c_towpathref02_power_12 : Code := Code.l c_towpathref02_power_11
noncomputable def c_towpathref02_power_13 : Code := Code.l c_towpathref02_power_12
noncomputable def c_towpathref02_power_14 : Code := Code.l c_towpathref02_power_13
noncomputable def r_towpathref02_power_14 : Array Oper := Code.ops c_towpathref02_power_14
noncomputable def c_towpathref02_power_16 : Code := Code.r c_towpathref02_power_13
noncomputable def c_towpathref02_power_17 : Code := Code.l c_towpathref02_power_16
noncomputable def c_towpathref02_power_18 : Code := Code.r c_towpathref02_power_16
noncomputable def c_towpathref02_power_19 : Code := Code.r c_towpathref02_power_12
noncomputable def c_towpathref02_power_20 : Code := Code.l c_towpathref02_power_19
noncomputable def c_towpathref02_power_21 : Code := Code.l c_towpathref02_power_20
noncomputable def r_towpathref02_power_21 : Array Oper := Code.ops c_towpathref02_power_21
noncomputable def c_towpathref02_power_23 : Code := Code.r c_towpathref02_power_19
noncomputable def r_towpathref02_power_23 : Array Oper := Code.ops c_towpathref02_power_23
noncomputable def c_towpathref02_power_25 : Code := Code.r c_towpathref02_power_6
noncomputable def c_towpathref02_power_26 : Code := Code.l c_towpathref02_power_25
noncomputable def r_towpathref02_power_26 : Array Oper := Code.ops c_towpathref02_power_26
noncomputable def c_towpathref02_power_28 : Code := Code.r c_towpathref02_power_25

set_option maxRecDepth 100000 in
set_option maxHeartbeats 4000000 in
theorem S_towpathref02_power {n_ : Int} {w : World} {R : Int → World → Prop} (h : F_towpathref02_power n_ R w) : C_towpathref02_power n_ w R := by
  unfold F_towpathref02_power at h
  unfold C_towpathref02_power
  refine Calls.mono (calls_of_wpE (args := [Value.int .i64 n_]) (R := fun v w' => ∃ (r0 : Int), v = Value.int .u64 r0 ∧ R r0 w') Tryd.func18 (c := c_towpathref02_power_0) (by kernel_rfl) 13 (by kernel_rfl) (by kernel_rfl) [(0, Value.int .i64 n_)] (by kernel_rfl) ?_) ?_
  · refine wpE_seq (x := c_towpathref02_power_1) (y := c_towpathref02_power_3) (by kernel_rfl) ?_
    refine wpE_region (id := 0) (ops := r_towpathref02_power_1) (by kernel_rfl) ?_
    refine reg_run [.plain] 1 [(0, [], Value.int .i64 n_)] (by kernel_rfl) (by kernel_rfl) ?_
    refine reg_end [(0, Value.int .i64 n_)] (by kernel_rfl) (by kernel_rfl) ?_
    change WpE _ _ c_towpathref02_power_3 _ _ _
    refine wpE_seq (x := c_towpathref02_power_4) (y := c_towpathref02_power_6) (by kernel_rfl) ?_
    refine wpE_region (id := 1) (ops := r_towpathref02_power_4) (by kernel_rfl) ?_
    refine reg_run [.plain] 1 [(0, [], Value.int .i64 n_), (3, [], Value.int .u64 1)] (by kernel_rfl) (by kernel_rfl) ?_
    refine reg_end [(0, Value.int .i64 n_), (3, Value.int .u64 1)] (by kernel_rfl) (by kernel_rfl) ?_
    change WpE _ _ c_towpathref02_power_6 _ _ _
    refine wpE_seq (x := c_towpathref02_power_7) (y := c_towpathref02_power_25) (by kernel_rfl) ?_
    refine wpE_seq (x := c_towpathref02_power_8) (y := c_towpathref02_power_10) (by kernel_rfl) ?_
    refine wpE_region (id := 2) (ops := r_towpathref02_power_8) (by kernel_rfl) ?_
    refine reg_run [.plain] 1 [(0, [], Value.int .i64 n_), (3, [], Value.int .u64 1), (4, [], Value.int .i64 0)] (by kernel_rfl) (by kernel_rfl) ?_
    refine reg_end [(0, Value.int .i64 n_), (3, Value.int .u64 1), (4, Value.int .i64 0)] (by kernel_rfl) (by kernel_rfl) ?_
    change WpE _ _ c_towpathref02_power_10 _ _ _
    refine wpE_block (id := 0) (x := c_towpathref02_power_11) (by kernel_rfl) ?_
    obtain ⟨I, μ, h0, hr⟩ := h
    refine wpE_loop (x := c_towpathref02_power_12) (by kernel_rfl) (fun m l w => ∃ (p : Int) (i : Int), l = [(0, Value.int .i64 n_), (3, Value.int .u64 p), (4, Value.int .i64 i)] ∧ I p i w ∧ μ p i w = m) (l' := [(0, Value.int .i64 n_), (3, Value.int .u64 1), (4, Value.int .i64 0)]) (Sub.mk (by kernel_rfl)) ⟨1, 0, rfl, h0, rfl⟩ ?_
    rintro _ _ w1 ⟨p, i, rfl, hI, rfl⟩
    obtain ⟨again_, again__h, h⟩ : ∃ again_ : Int → Int → World → Prop, (∀ p' i' w', again_ p' i' w' → I p' i' w' ∧ μ p' i' w' < μ p i w1) ∧ F_towpathref02_power_L0 n_ R again_ p i w1 := ⟨_, fun _ _ _ h => h, hr p i w1 hI⟩
    clear h0 hI
    unfold F_towpathref02_power_L0 at h
    refine wpE_seq (x := c_towpathref02_power_13) (y := c_towpathref02_power_19) (by kernel_rfl) ?_
    refine wpE_seq (x := c_towpathref02_power_14) (y := c_towpathref02_power_16) (by kernel_rfl) ?_
    refine wpE_region (id := 3) (ops := r_towpathref02_power_14) (by kernel_rfl) ?_
    refine reg_run [.plain, .plain, .plain] 3 [(0, [], Value.int .i64 n_), (3, [], Value.int .u64 p), (4, [], Value.int .i64 i), (7, [], Value.bool (decide (i < n_)))] (by kernel_rfl) (by kernel_rfl) ?_
    refine reg_end [(0, Value.int .i64 n_), (3, Value.int .u64 p), (4, Value.int .i64 i), (7, Value.bool (decide (i < n_)))] (by kernel_rfl) (by kernel_rfl) ?_
    change WpE _ _ c_towpathref02_power_16 _ _ _
    refine wpE_cond (o := (Operand.tmp 7)) (b := (decide (i < n_))) (x := c_towpathref02_power_17) (y := c_towpathref02_power_18) (by kernel_rfl) (by kernel_rfl) (fun hb => ?_) (fun hb => ?_)
    · replace h := h.1 hb
      refine wpE_skip (by kernel_rfl) ?_
      change WpE _ _ c_towpathref02_power_19 _ _ _
      refine wpE_seq (x := c_towpathref02_power_20) (y := c_towpathref02_power_23) (by kernel_rfl) ?_
      refine wpE_block (id := 1) (x := c_towpathref02_power_21) (by kernel_rfl) ?_
      refine wpE_region (id := 5) (ops := r_towpathref02_power_21) (by kernel_rfl) ?_
      refine reg_run [.plain, .plain, .plain] 3 [(0, [], Value.int .i64 n_), (3, [], Value.int .u64 (IntKind.u64.wrap (2 * p))), (4, [], Value.int .i64 i)] (by kernel_rfl) (by kernel_rfl) ?_
      refine reg_end [(0, Value.int .i64 n_), (3, Value.int .u64 (IntKind.u64.wrap (2 * p))), (4, Value.int .i64 i)] (by kernel_rfl) (by kernel_rfl) ?_
      change WpE _ _ c_towpathref02_power_23 _ _ _
      refine wpE_region (id := 4) (ops := r_towpathref02_power_23) (by kernel_rfl) ?_
      refine reg_run [.plain, .plain, .plain] 3 [(0, [], Value.int .i64 n_), (3, [], Value.int .u64 (IntKind.u64.wrap (2 * p))), (4, [], Value.int .i64 (IntKind.i64.wrap (i + 1)))] (by kernel_rfl) (by kernel_rfl) ?_
      refine reg_end [(0, Value.int .i64 n_), (3, Value.int .u64 (IntKind.u64.wrap (2 * p))), (4, Value.int .i64 (IntKind.i64.wrap (i + 1)))] (by kernel_rfl) (by kernel_rfl) ?_
      have hb_ := again__h _ _ _ h
      exact ⟨_, hb_.2, [(0, Value.int .i64 n_), (3, Value.int .u64 (IntKind.u64.wrap (2 * p))), (4, Value.int .i64 (IntKind.i64.wrap (i + 1)))], Sub.mk (by kernel_rfl), (IntKind.u64.wrap (2 * p)), (IntKind.i64.wrap (i + 1)), rfl, hb_.1, rfl⟩
    · replace h := h.2 hb
      refine wpE_exit (id := 0) (by kernel_rfl) ?_
      change WpE _ _ c_towpathref02_power_25 _ _ _
      refine wpE_seq (x := c_towpathref02_power_26) (y := c_towpathref02_power_28) (by kernel_rfl) ?_
      refine wpE_region (id := 6) (ops := r_towpathref02_power_26) (by kernel_rfl) ?_
      refine reg_run [.plain, .plain] 2 [(2, [], Value.int .u64 p)] (by kernel_rfl) (by kernel_rfl) ?_
      refine reg_end [(2, Value.int .u64 p)] (by kernel_rfl) (by kernel_rfl) ?_
      change WpE _ _ c_towpathref02_power_28 _ _ _
      refine wpE_ret (by kernel_rfl) ?_
      repeat (first | refine seqQ_ret ?_ | refine blockQ_ret ?_ | refine loopQ_ret ?_ | refine cutQ_ret ?_)
      exact retS (rs := [(Go.ResultVar.tmp 2)]) (v := Value.int .u64 p) (by kernel_rfl) (⟨by kernel_rfl, trivial⟩) ⟨p, rfl, h⟩
  · rintro e w' ⟨v, rfl, r0, rfl, h⟩; exact ⟨r0, rfl, h⟩
end Go.Proofs.YtckmganidgbpgaaDoor
