/- WRITTEN BY PROGRAM (dec.py): for each Go function the clean formula F, the call's contract C, and the proof S that F gives C. -/
import Derived.Test.YtpedclhflmhakaaRows
import Derived.Test.YtpedclhflmhakaaGF
namespace Go.Proofs.Ytpedclhflmhakaa
open Go
set_option linter.unusedVariables false

/-! ### towpath/towpathref16.New (function 43) -/
noncomputable def c_towpathref16_New_0 : Code := (Try.f43.body).getD Code.skip
noncomputable def c_towpathref16_New_1 : Code := Code.l c_towpathref16_New_0
noncomputable def r_towpathref16_New_1 : Array Oper := Code.ops c_towpathref16_New_1
noncomputable def c_towpathref16_New_3 : Code := Code.r c_towpathref16_New_0
noncomputable def c_towpathref16_New_4 : Code := Code.l c_towpathref16_New_3
noncomputable def c_towpathref16_New_5 : Code := Code.l c_towpathref16_New_4
noncomputable def r_towpathref16_New_5 : Array Oper := Code.ops c_towpathref16_New_5
noncomputable def c_towpathref16_New_7 : Code := Code.r c_towpathref16_New_4
noncomputable def c_towpathref16_New_8 : Code := Code.l c_towpathref16_New_7
noncomputable def c_towpathref16_New_9 : Code := Code.l c_towpathref16_New_8
noncomputable def r_towpathref16_New_9 : Array Oper := Code.ops c_towpathref16_New_9
noncomputable def c_towpathref16_New_11 : Code := Code.r c_towpathref16_New_8
noncomputable def c_towpathref16_New_12 : Code := Code.r c_towpathref16_New_7
noncomputable def c_towpathref16_New_13 : Code := Code.r c_towpathref16_New_3
noncomputable def c_towpathref16_New_14 : Code := Code.l c_towpathref16_New_13
noncomputable def c_towpathref16_New_15 : Code := Code.l c_towpathref16_New_14
noncomputable def r_towpathref16_New_15 : Array Oper := Code.ops c_towpathref16_New_15
noncomputable def c_towpathref16_New_17 : Code := Code.r c_towpathref16_New_14
noncomputable def c_towpathref16_New_18 : Code := Code.l c_towpathref16_New_17
noncomputable def c_towpathref16_New_19 : Code := Code.l c_towpathref16_New_18
noncomputable def r_towpathref16_New_19 : Array Oper := Code.ops c_towpathref16_New_19
noncomputable def c_towpathref16_New_21 : Code := Code.r c_towpathref16_New_18
noncomputable def c_towpathref16_New_22 : Code := Code.r c_towpathref16_New_17
noncomputable def c_towpathref16_New_23 : Code := Code.r c_towpathref16_New_13
noncomputable def c_towpathref16_New_24 : Code := Code.l c_towpathref16_New_23
noncomputable def c_towpathref16_New_25 : Code := Code.l c_towpathref16_New_24
noncomputable def r_towpathref16_New_25 : Array Oper := Code.ops c_towpathref16_New_25
noncomputable def c_towpathref16_New_27 : Code := Code.r c_towpathref16_New_24
noncomputable def c_towpathref16_New_28 : Code := Code.l c_towpathref16_New_27
noncomputable def c_towpathref16_New_29 : Code := Code.l c_towpathref16_New_28
noncomputable def c_towpathref16_New_30 : Code := Code.l c_towpathref16_New_29
noncomputable def c_towpathref16_New_31 : Code := Code.l c_towpathref16_New_30
noncomputable def r_towpathref16_New_31 : Array Oper := Code.ops c_towpathref16_New_31
noncomputable def c_towpathref16_New_33 : Code := Code.r c_towpathref16_New_30
noncomputable def c_towpathref16_New_34 : Code := Code.l c_towpathref16_New_33
noncomputable def c_towpathref16_New_35 : Code := Code.r c_towpathref16_New_33
noncomputable def c_towpathref16_New_36 : Code := Code.r c_towpathref16_New_29
noncomputable def c_towpathref16_New_37 : Code := Code.l c_towpathref16_New_36
noncomputable def c_towpathref16_New_38 : Code := Code.l c_towpathref16_New_37
noncomputable def c_towpathref16_New_39 : Code := Code.l c_towpathref16_New_38
noncomputable def r_towpathref16_New_39 : Array Oper := Code.ops c_towpathref16_New_39
noncomputable def c_towpathref16_New_41 : Code := Code.r c_towpathref16_New_38
noncomputable def c_towpathref16_New_42 : Code := Code.l c_towpathref16_New_41
noncomputable def c_towpathref16_New_43 : Code := Code.l c_towpathref16_New_42
noncomputable def r_towpathref16_New_43 : Array Oper := Code.ops c_towpathref16_New_43
noncomputable def c_towpathref16_New_45 : Code := Code.r c_towpathref16_New_42
noncomputable def c_towpathref16_New_46 : Code := Code.r c_towpathref16_New_41
noncomputable def c_towpathref16_New_47 : Code := Code.r c_towpathref16_New_36
noncomputable def r_towpathref16_New_47 : Array Oper := Code.ops c_towpathref16_New_47
noncomputable def c_towpathref16_New_49 : Code := Code.r c_towpathref16_New_23
noncomputable def c_towpathref16_New_50 : Code := Code.l c_towpathref16_New_49
noncomputable def r_towpathref16_New_50 : Array Oper := Code.ops c_towpathref16_New_50
noncomputable def c_towpathref16_New_52 : Code := Code.r c_towpathref16_New_49
noncomputable def c_towpathref16_New_53 : Code := Code.l c_towpathref16_New_52
noncomputable def c_towpathref16_New_54 : Code := Code.l c_towpathref16_New_53
noncomputable def r_towpathref16_New_54 : Array Oper := Code.ops c_towpathref16_New_54
noncomputable def c_towpathref16_New_56 : Code := Code.r c_towpathref16_New_53
noncomputable def c_towpathref16_New_57 : Code := Code.l c_towpathref16_New_56
noncomputable def c_towpathref16_New_58 : Code := Code.l c_towpathref16_New_57
noncomputable def r_towpathref16_New_58 : Array Oper := Code.ops c_towpathref16_New_58
noncomputable def c_towpathref16_New_60 : Code := Code.r c_towpathref16_New_57
noncomputable def c_towpathref16_New_61 : Code := Code.r c_towpathref16_New_56
noncomputable def c_towpathref16_New_62 : Code := Code.r c_towpathref16_New_52
noncomputable def c_towpathref16_New_63 : Code := Code.l c_towpathref16_New_62
noncomputable def r_towpathref16_New_63 : Array Oper := Code.ops c_towpathref16_New_63
noncomputable def c_towpathref16_New_65 : Code := Code.r c_towpathref16_New_62

set_option maxRecDepth 100000 in
set_option maxHeartbeats 4000000 in
theorem S_towpathref16_New {s : Option Addr} {mark : Int} {beyond : Slc} {window : Int} {w : World} {R : Option Addr → Int → World → Prop} (h : F_towpathref16_New s mark beyond window R w) : C_towpathref16_New s mark beyond window w R := by
  unfold F_towpathref16_New at h
  unfold C_towpathref16_New
  refine Calls.mono (calls_of_wpE (args := [Value.pointer s, Value.int .i64 mark, Value.slice beyond.ptr beyond.len beyond.cap, Value.int .i64 window]) (R := fun v w' => ∃ (r0 : Option Addr) (r1 : Int), v = Value.tuple #[Value.pointer r0, Value.int .i64 r1] ∧ R r0 r1 w') Try.func43 (c := c_towpathref16_New_0) (by kernel_rfl) 91 (by kernel_rfl) (by kernel_rfl) [(0, Value.pointer s), (1, Value.int .i64 mark), (2, Value.slice beyond.ptr beyond.len beyond.cap), (3, Value.int .i64 window)] (by kernel_rfl) ?_) ?_
  · refine wpE_seq (x := c_towpathref16_New_1) (y := c_towpathref16_New_3) (by kernel_rfl) ?_
    refine wpE_region (id := 0) (ops := r_towpathref16_New_1) (by kernel_rfl) ?_
    refine reg_run [.plain, .plain] 2 [(0, [], Value.pointer s), (1, [], Value.int .i64 mark), (2, [], Value.slice beyond.ptr beyond.len beyond.cap), (3, [], Value.int .i64 window)] (by kernel_rfl) (by kernel_rfl) ?_
    refine reg_end [(0, Value.pointer s), (1, Value.int .i64 mark), (2, Value.slice beyond.ptr beyond.len beyond.cap), (3, Value.int .i64 window)] (by kernel_rfl) (by kernel_rfl) ?_
    change WpE _ _ c_towpathref16_New_3 _ _ _
    refine wpE_seq (x := c_towpathref16_New_4) (y := c_towpathref16_New_13) (by kernel_rfl) ?_
    refine wpE_seq (x := c_towpathref16_New_5) (y := c_towpathref16_New_7) (by kernel_rfl) ?_
    refine wpE_region (id := 1) (ops := r_towpathref16_New_5) (by kernel_rfl) ?_
    refine reg_run [.plain] 1 [(0, [], Value.pointer s), (1, [], Value.int .i64 mark), (2, [], Value.slice beyond.ptr beyond.len beyond.cap), (3, [], Value.int .i64 window), (12, [], Value.pointer s)] (by kernel_rfl) (by kernel_rfl) ?_
    refine reg_val (op := (Go.Op.binOp Go.BinOp.eql 107 (Go.Operand.tmp 12) (Go.Operand.const (Go.Value.pointer none)) 107)) (ty := 4) (dst := some 13) (Value.bool s.isNone) (by kernel_rfl) (fun ww => run_ptr_eql_R (p := s) (by kernel_rfl) (by kernel_rfl) (by kernel_rfl) ww) ?_
    refine reg_end [(0, Value.pointer s), (1, Value.int .i64 mark), (2, Value.slice beyond.ptr beyond.len beyond.cap), (3, Value.int .i64 window), (13, Value.bool s.isNone)] (by kernel_rfl) (by kernel_rfl) ?_
    change WpE _ _ c_towpathref16_New_7 _ _ _
    refine wpE_cond (o := (Operand.tmp 13)) (b := s.isNone) (x := c_towpathref16_New_8) (y := c_towpathref16_New_12) (by kernel_rfl) (by kernel_rfl) (fun hb => ?_) (fun hb => ?_)
    · replace h := h.1 hb
      refine wpE_seq (x := c_towpathref16_New_9) (y := c_towpathref16_New_11) (by kernel_rfl) ?_
      refine wpE_region (id := 2) (ops := r_towpathref16_New_9) (by kernel_rfl) ?_
      refine reg_run [.plain, .plain] 2 [(8, [], Value.pointer none), (9, [], Value.int .i64 2)] (by kernel_rfl) (by kernel_rfl) ?_
      refine reg_end [(8, Value.pointer none), (9, Value.int .i64 2)] (by kernel_rfl) (by kernel_rfl) ?_
      change WpE _ _ c_towpathref16_New_11 _ _ _
      refine wpE_ret (by kernel_rfl) ?_
      repeat (first | refine seqQ_ret ?_ | refine blockQ_ret ?_ | refine loopQ_ret ?_ | refine cutQ_ret ?_)
      exact retT (rs := [(Go.ResultVar.tmp 8), (Go.ResultVar.tmp 9)]) (vs := [Value.pointer none, Value.int .i64 2]) (by kernel_rfl) (⟨by kernel_rfl, ⟨by kernel_rfl, trivial⟩⟩) (by kernel_rfl) ⟨none, 2, rfl, h⟩
    · replace h := h.2 hb
      refine wpE_skip (by kernel_rfl) ?_
      change WpE _ _ c_towpathref16_New_13 _ _ _
      refine wpE_seq (x := c_towpathref16_New_14) (y := c_towpathref16_New_23) (by kernel_rfl) ?_
      refine wpE_seq (x := c_towpathref16_New_15) (y := c_towpathref16_New_17) (by kernel_rfl) ?_
      refine wpE_region (id := 3) (ops := r_towpathref16_New_15) (by kernel_rfl) ?_
      refine reg_run [.plain, .plain, .plain, .plain, .plain, .pick, .plain, .plain, .plain, .pick] 10 [(0, [], Value.pointer s), (1, [], Value.int .i64 mark), (2, [], Value.slice beyond.ptr beyond.len beyond.cap), (3, [], Value.int .i64 window), (23, [], Value.bool (((decide (mark < 0)) || (decide (window < 1))) || (decide (window > 64))))] (by kernel_rfl) (by kernel_rfl) ?_
      refine reg_end [(0, Value.pointer s), (1, Value.int .i64 mark), (2, Value.slice beyond.ptr beyond.len beyond.cap), (3, Value.int .i64 window), (23, Value.bool (((decide (mark < 0)) || (decide (window < 1))) || (decide (window > 64))))] (by kernel_rfl) (by kernel_rfl) ?_
      change WpE _ _ c_towpathref16_New_17 _ _ _
      refine wpE_cond (o := (Operand.tmp 23)) (b := (((decide (mark < 0)) || (decide (window < 1))) || (decide (window > 64)))) (x := c_towpathref16_New_18) (y := c_towpathref16_New_22) (by kernel_rfl) (by kernel_rfl) (fun hb => ?_) (fun hb => ?_)
      · replace h := h.1 hb
        refine wpE_seq (x := c_towpathref16_New_19) (y := c_towpathref16_New_21) (by kernel_rfl) ?_
        refine wpE_region (id := 4) (ops := r_towpathref16_New_19) (by kernel_rfl) ?_
        refine reg_run [.plain, .plain] 2 [(8, [], Value.pointer none), (9, [], Value.int .i64 1)] (by kernel_rfl) (by kernel_rfl) ?_
        refine reg_end [(8, Value.pointer none), (9, Value.int .i64 1)] (by kernel_rfl) (by kernel_rfl) ?_
        change WpE _ _ c_towpathref16_New_21 _ _ _
        refine wpE_ret (by kernel_rfl) ?_
        repeat (first | refine seqQ_ret ?_ | refine blockQ_ret ?_ | refine loopQ_ret ?_ | refine cutQ_ret ?_)
        exact retT (rs := [(Go.ResultVar.tmp 8), (Go.ResultVar.tmp 9)]) (vs := [Value.pointer none, Value.int .i64 1]) (by kernel_rfl) (⟨by kernel_rfl, ⟨by kernel_rfl, trivial⟩⟩) (by kernel_rfl) ⟨none, 1, rfl, h⟩
      · replace h := h.2 hb
        refine wpE_skip (by kernel_rfl) ?_
        change WpE _ _ c_towpathref16_New_23 _ _ _
        refine wpE_seq (x := c_towpathref16_New_24) (y := c_towpathref16_New_49) (by kernel_rfl) ?_
        refine wpE_seq (x := c_towpathref16_New_25) (y := c_towpathref16_New_27) (by kernel_rfl) ?_
        refine wpE_region (id := 5) (ops := r_towpathref16_New_25) (by kernel_rfl) ?_
        refine reg_run [.plain] 1 [(0, [], Value.pointer s), (1, [], Value.int .i64 mark), (2, [], Value.slice beyond.ptr beyond.len beyond.cap), (3, [], Value.int .i64 window), (10, [], Value.int .i64 0)] (by kernel_rfl) (by kernel_rfl) ?_
        refine reg_end [(0, Value.pointer s), (1, Value.int .i64 mark), (2, Value.slice beyond.ptr beyond.len beyond.cap), (3, Value.int .i64 window), (10, Value.int .i64 0)] (by kernel_rfl) (by kernel_rfl) ?_
        change WpE _ _ c_towpathref16_New_27 _ _ _
        refine wpE_block (id := 0) (x := c_towpathref16_New_28) (by kernel_rfl) ?_
        obtain ⟨I, μ, h0, hr⟩ := h
        refine wpE_loop (x := c_towpathref16_New_29) (by kernel_rfl) (fun m l w => ∃ (i : Int), l = [(0, Value.pointer s), (1, Value.int .i64 mark), (2, Value.slice beyond.ptr beyond.len beyond.cap), (3, Value.int .i64 window), (10, Value.int .i64 i)] ∧ I i w ∧ μ i w = m) (l' := [(0, Value.pointer s), (1, Value.int .i64 mark), (2, Value.slice beyond.ptr beyond.len beyond.cap), (3, Value.int .i64 window), (10, Value.int .i64 0)]) (Sub.mk (by kernel_rfl)) ⟨0, rfl, h0, rfl⟩ ?_
        rintro _ _ w1 ⟨i, rfl, hI, rfl⟩
        obtain ⟨again_, again__h, h⟩ : ∃ again_ : Int → World → Prop, (∀ i' w', again_ i' w' → I i' w' ∧ μ i' w' < μ i w1) ∧ F_towpathref16_New_L0 s mark beyond window R again_ i w1 := ⟨_, fun _ _ h => h, hr i w1 hI⟩
        clear h0 hI
        unfold F_towpathref16_New_L0 at h
        refine wpE_seq (x := c_towpathref16_New_30) (y := c_towpathref16_New_36) (by kernel_rfl) ?_
        refine wpE_seq (x := c_towpathref16_New_31) (y := c_towpathref16_New_33) (by kernel_rfl) ?_
        refine wpE_region (id := 6) (ops := r_towpathref16_New_31) (by kernel_rfl) ?_
        refine reg_run [.plain, .plain, .plain, .plain] 4 [(0, [], Value.pointer s), (1, [], Value.int .i64 mark), (2, [], Value.slice beyond.ptr beyond.len beyond.cap), (3, [], Value.int .i64 window), (10, [], Value.int .i64 i), (27, [], Value.bool (decide (i < ((beyond.len : Nat) : Int))))] (by kernel_rfl) (by kernel_rfl) ?_
        refine reg_end [(0, Value.pointer s), (1, Value.int .i64 mark), (2, Value.slice beyond.ptr beyond.len beyond.cap), (3, Value.int .i64 window), (10, Value.int .i64 i), (27, Value.bool (decide (i < ((beyond.len : Nat) : Int))))] (by kernel_rfl) (by kernel_rfl) ?_
        change WpE _ _ c_towpathref16_New_33 _ _ _
        refine wpE_cond (o := (Operand.tmp 27)) (b := (decide (i < ((beyond.len : Nat) : Int)))) (x := c_towpathref16_New_34) (y := c_towpathref16_New_35) (by kernel_rfl) (by kernel_rfl) (fun hb => ?_) (fun hb => ?_)
        · replace h := h.1 hb
          refine wpE_skip (by kernel_rfl) ?_
          change WpE _ _ c_towpathref16_New_36 _ _ _
          refine wpE_seq (x := c_towpathref16_New_37) (y := c_towpathref16_New_47) (by kernel_rfl) ?_
          refine wpE_block (id := 1) (x := c_towpathref16_New_38) (by kernel_rfl) ?_
          refine wpE_seq_cut (x := c_towpathref16_New_39) (y := c_towpathref16_New_41) (by kernel_rfl) (fun l w => ∃ (t62 : Bool), l = [(0, Value.pointer s), (1, Value.int .i64 mark), (2, Value.slice beyond.ptr beyond.len beyond.cap), (3, Value.int .i64 window), (10, Value.int .i64 i), (62, Value.bool t62)] ∧ F_towpathref16_New_k1 R i again_ t62 w) ?_ ?_
          · refine wpE_drawregion (id := 8) (ops := r_towpathref16_New_39) (by kernel_rfl) (by kernel_rfl) (by kernel_rfl) ?_
            refine qreg_run [.plain, .plain, .plain, .plain] 4 [(0, [], Value.pointer s), (1, [], Value.int .i64 mark), (2, [], Value.slice beyond.ptr beyond.len beyond.cap), (3, [], Value.int .i64 window), (10, [], Value.int .i64 i), (32, [], Value.bool (i == 0)), (33, [(32, true)], Value.slice beyond.ptr beyond.len beyond.cap)] (by kernel_rfl) (by kernel_rfl) ?_
            refine qreg_split 32 (i == 0) (by kernel_rfl) (fun hb => ?_) (fun hb => ?_)
            · replace h := h.1 hb
              refine qreg_run [] 4 [(0, [], Value.pointer s), (1, [], Value.int .i64 mark), (2, [], Value.slice beyond.ptr beyond.len beyond.cap), (3, [], Value.int .i64 window), (10, [], Value.int .i64 i), (32, [], Value.bool true), (33, [], Value.slice beyond.ptr beyond.len beyond.cap)] (by kernel_rfl) (by kernel_rfl) ?_
              refine qreg_run [] 4 [(0, [], Value.pointer s), (1, [], Value.int .i64 mark), (2, [], Value.slice beyond.ptr beyond.len beyond.cap), (3, [], Value.int .i64 window), (10, [], Value.int .i64 i), (32, [], Value.bool true), (33, [], Value.slice beyond.ptr beyond.len beyond.cap)] (by kernel_rfl) (by kernel_rfl) ?_
              obtain ⟨hp_42, h⟩ := h
              refine qreg_conv [(0, [], Value.pointer s), (1, [], Value.int .i64 mark), (2, [], Value.slice beyond.ptr beyond.len beyond.cap), (3, [], Value.int .i64 window), (10, [], Value.int .i64 i), (32, [], Value.bool true), (33, [], Value.slice (some ⟨(pblk beyond.ptr), (poff beyond.ptr), none⟩) beyond.len beyond.cap)] (congrArg (fun pp => ([(0, [], Value.pointer s), (1, [], Value.int .i64 mark), (2, [], Value.slice beyond.ptr beyond.len beyond.cap), (3, [], Value.int .i64 window), (10, [], Value.int .i64 i), (32, [], Value.bool true), (33, [], Value.slice pp beyond.len beyond.cap)] : GEnv)) hp_42) ?_
              obtain ⟨h0, h1, h⟩ := h
              refine qreg_indexS1 (t := 23) (e := 3) (x := (Go.Operand.tmp 33)) (ix := (Go.Operand.const (Go.Value.int Go.IntKind.i64 0))) (b := (pblk beyond.ptr)) (o := (poff beyond.ptr)) (l := beyond.len) (c := beyond.cap) (k := .i64) (j := 0) (ty := 0) (dst := some 34) (by kernel_rfl) (by kernel_rfl) (by kernel_rfl) (by kernel_rfl) (by kernel_rfl) h0 h1 ?_
              refine qreg_run [] 5 [(0, [], Value.pointer s), (1, [], Value.int .i64 mark), (2, [], Value.slice beyond.ptr beyond.len beyond.cap), (3, [], Value.int .i64 window), (10, [], Value.int .i64 i), (32, [], Value.bool true), (34, [], Value.pointer (some ⟨(pblk beyond.ptr), (poff beyond.ptr), none⟩))] (by kernel_rfl) (by kernel_rfl) ?_
              obtain ⟨v35, hc, h⟩ := h
              refine qreg_load1 (t := 3) (a := (Go.Operand.tmp 34)) (b := (pblk beyond.ptr)) (o := (poff beyond.ptr)) (ty := 3) (dst := some 35) (by kernel_rfl) (by kernel_rfl) (by kernel_rfl) hc ?_
              refine qreg_run [.sure, .sure, .sure, .plain] 10 [(0, [], Value.pointer s), (1, [], Value.int .i64 mark), (2, [], Value.slice beyond.ptr beyond.len beyond.cap), (3, [], Value.int .i64 window), (10, [], Value.int .i64 i), (32, [], Value.bool true), (38, [], Value.bool (decide (v35 ≤ mark))), (39, [(38, false)], Value.slice beyond.ptr beyond.len beyond.cap)] (by kernel_rfl) (by kernel_rfl) ?_
              refine qreg_split 38 (decide (v35 ≤ mark)) (by kernel_rfl) (fun hb => ?_) (fun hb => ?_)
              · replace h := h.1 hb
                refine qreg_run [] 10 [(0, [], Value.pointer s), (1, [], Value.int .i64 mark), (2, [], Value.slice beyond.ptr beyond.len beyond.cap), (3, [], Value.int .i64 window), (10, [], Value.int .i64 i), (32, [], Value.bool true), (38, [], Value.bool true), (39, [], undef)] (by kernel_rfl) (by kernel_rfl) ?_
                refine qreg_run [.skip, .skip, .skip, .skip, .skip, .sure, .plain, .plain, .skip, .skip, .skip, .skip, .skip, .skip, .skip, .skip, .skip, .skip, .skip, .skip, .skip, .skip, .plain] 33 [(0, [], Value.pointer s), (1, [], Value.int .i64 mark), (2, [], Value.slice beyond.ptr beyond.len beyond.cap), (3, [], Value.int .i64 window), (10, [], Value.int .i64 i), (62, [], Value.bool true)] (by kernel_rfl) (by kernel_rfl) ?_
                refine qreg_end [(0, Value.pointer s), (1, Value.int .i64 mark), (2, Value.slice beyond.ptr beyond.len beyond.cap), (3, Value.int .i64 window), (10, Value.int .i64 i), (62, Value.bool true)] (by kernel_rfl) (by kernel_rfl) (fun w3 hw => ?_)
                replace h := h w3 hw
                clear hw
                exact ⟨[(0, Value.pointer s), (1, Value.int .i64 mark), (2, Value.slice beyond.ptr beyond.len beyond.cap), (3, Value.int .i64 window), (10, Value.int .i64 i), (62, Value.bool true)], Sub.mk (by kernel_rfl), true, rfl, h⟩
              · replace h := h.2 hb
                refine qreg_run [] 10 [(0, [], Value.pointer s), (1, [], Value.int .i64 mark), (2, [], Value.slice beyond.ptr beyond.len beyond.cap), (3, [], Value.int .i64 window), (10, [], Value.int .i64 i), (32, [], Value.bool true), (38, [], Value.bool false), (39, [], Value.slice beyond.ptr beyond.len beyond.cap)] (by kernel_rfl) (by kernel_rfl) ?_
                refine qreg_run [] 10 [(0, [], Value.pointer s), (1, [], Value.int .i64 mark), (2, [], Value.slice beyond.ptr beyond.len beyond.cap), (3, [], Value.int .i64 window), (10, [], Value.int .i64 i), (32, [], Value.bool true), (38, [], Value.bool false), (39, [], Value.slice beyond.ptr beyond.len beyond.cap)] (by kernel_rfl) (by kernel_rfl) ?_
                obtain ⟨hp_43, h⟩ := h
                refine qreg_conv [(0, [], Value.pointer s), (1, [], Value.int .i64 mark), (2, [], Value.slice beyond.ptr beyond.len beyond.cap), (3, [], Value.int .i64 window), (10, [], Value.int .i64 i), (32, [], Value.bool true), (38, [], Value.bool false), (39, [], Value.slice (some ⟨(pblk beyond.ptr), (poff beyond.ptr), none⟩) beyond.len beyond.cap)] (congrArg (fun pp => ([(0, [], Value.pointer s), (1, [], Value.int .i64 mark), (2, [], Value.slice beyond.ptr beyond.len beyond.cap), (3, [], Value.int .i64 window), (10, [], Value.int .i64 i), (32, [], Value.bool true), (38, [], Value.bool false), (39, [], Value.slice pp beyond.len beyond.cap)] : GEnv)) hp_43) ?_
                obtain ⟨h0, h1, h⟩ := h
                refine qreg_indexS1 (t := 23) (e := 3) (x := (Go.Operand.tmp 39)) (ix := (Go.Operand.const (Go.Value.int Go.IntKind.i64 0))) (b := (pblk beyond.ptr)) (o := (poff beyond.ptr)) (l := beyond.len) (c := beyond.cap) (k := .i64) (j := 0) (ty := 0) (dst := some 40) (by kernel_rfl) (by kernel_rfl) (by kernel_rfl) (by kernel_rfl) (by kernel_rfl) h0 h1 ?_
                refine qreg_run [] 11 [(0, [], Value.pointer s), (1, [], Value.int .i64 mark), (2, [], Value.slice beyond.ptr beyond.len beyond.cap), (3, [], Value.int .i64 window), (10, [], Value.int .i64 i), (32, [], Value.bool true), (38, [], Value.bool false), (40, [], Value.pointer (some ⟨(pblk beyond.ptr), (poff beyond.ptr), none⟩))] (by kernel_rfl) (by kernel_rfl) ?_
                obtain ⟨v41, hc, h⟩ := h
                refine qreg_load1 (t := 3) (a := (Go.Operand.tmp 40)) (b := (pblk beyond.ptr)) (o := (poff beyond.ptr)) (ty := 3) (dst := some 41) (by kernel_rfl) (by kernel_rfl) (by kernel_rfl) hc ?_
                refine qreg_run [.sure, .sure, .sure, .sure, .plain, .plain, .plain, .plain, .plain, .plain, .plain] 23 [(0, [], Value.pointer s), (1, [], Value.int .i64 mark), (2, [], Value.slice beyond.ptr beyond.len beyond.cap), (3, [], Value.int .i64 window), (10, [], Value.int .i64 i), (47, [], Value.bool (decide ((IntKind.i64.wrap (v41 - 1)) ≤ mark))), (50, [(47, false)], Value.bool (decide (i > 0))), (51, [(50, true), (47, false)], Value.slice beyond.ptr beyond.len beyond.cap), (52, [(50, true), (47, false)], Value.int .i64 i)] (by kernel_rfl) (by kernel_rfl) ?_
                refine qreg_split 47 (decide ((IntKind.i64.wrap (v41 - 1)) ≤ mark)) (by kernel_rfl) (fun hb => ?_) (fun hb => ?_)
                · replace h := h.1 hb
                  refine qreg_run [] 23 [(0, [], Value.pointer s), (1, [], Value.int .i64 mark), (2, [], Value.slice beyond.ptr beyond.len beyond.cap), (3, [], Value.int .i64 window), (10, [], Value.int .i64 i), (47, [], Value.bool true), (50, [], undef), (51, [], undef), (52, [], undef)] (by kernel_rfl) (by kernel_rfl) ?_
                  refine qreg_run [.skip, .skip, .skip, .skip, .skip, .skip, .skip, .skip, .skip, .plain] 33 [(0, [], Value.pointer s), (1, [], Value.int .i64 mark), (2, [], Value.slice beyond.ptr beyond.len beyond.cap), (3, [], Value.int .i64 window), (10, [], Value.int .i64 i), (62, [], Value.bool true)] (by kernel_rfl) (by kernel_rfl) ?_
                  refine qreg_end [(0, Value.pointer s), (1, Value.int .i64 mark), (2, Value.slice beyond.ptr beyond.len beyond.cap), (3, Value.int .i64 window), (10, Value.int .i64 i), (62, Value.bool true)] (by kernel_rfl) (by kernel_rfl) (fun w4 hw => ?_)
                  replace h := h w4 hw
                  clear hw
                  exact ⟨[(0, Value.pointer s), (1, Value.int .i64 mark), (2, Value.slice beyond.ptr beyond.len beyond.cap), (3, Value.int .i64 window), (10, Value.int .i64 i), (62, Value.bool true)], Sub.mk (by kernel_rfl), true, rfl, h⟩
                · replace h := h.2 hb
                  refine qreg_run [] 23 [(0, [], Value.pointer s), (1, [], Value.int .i64 mark), (2, [], Value.slice beyond.ptr beyond.len beyond.cap), (3, [], Value.int .i64 window), (10, [], Value.int .i64 i), (47, [], Value.bool false), (50, [], Value.bool (decide (i > 0))), (51, [(50, true)], Value.slice beyond.ptr beyond.len beyond.cap), (52, [(50, true)], Value.int .i64 i)] (by kernel_rfl) (by kernel_rfl) ?_
                  refine qreg_run [] 23 [(0, [], Value.pointer s), (1, [], Value.int .i64 mark), (2, [], Value.slice beyond.ptr beyond.len beyond.cap), (3, [], Value.int .i64 window), (10, [], Value.int .i64 i), (47, [], Value.bool false), (50, [], Value.bool (decide (i > 0))), (51, [(50, true)], Value.slice beyond.ptr beyond.len beyond.cap), (52, [(50, true)], Value.int .i64 i)] (by kernel_rfl) (by kernel_rfl) ?_
                  refine qreg_split 50 (decide (i > 0)) (by kernel_rfl) (fun hb => ?_) (fun hb => ?_)
                  · replace h := h.1 hb
                    refine qreg_run [] 23 [(0, [], Value.pointer s), (1, [], Value.int .i64 mark), (2, [], Value.slice beyond.ptr beyond.len beyond.cap), (3, [], Value.int .i64 window), (10, [], Value.int .i64 i), (47, [], Value.bool false), (50, [], Value.bool true), (51, [], Value.slice beyond.ptr beyond.len beyond.cap), (52, [], Value.int .i64 i)] (by kernel_rfl) (by kernel_rfl) ?_
                    refine qreg_run [] 23 [(0, [], Value.pointer s), (1, [], Value.int .i64 mark), (2, [], Value.slice beyond.ptr beyond.len beyond.cap), (3, [], Value.int .i64 window), (10, [], Value.int .i64 i), (47, [], Value.bool false), (50, [], Value.bool true), (51, [], Value.slice beyond.ptr beyond.len beyond.cap), (52, [], Value.int .i64 i)] (by kernel_rfl) (by kernel_rfl) ?_
                    obtain ⟨hp_44, h⟩ := h
                    refine qreg_conv [(0, [], Value.pointer s), (1, [], Value.int .i64 mark), (2, [], Value.slice beyond.ptr beyond.len beyond.cap), (3, [], Value.int .i64 window), (10, [], Value.int .i64 i), (47, [], Value.bool false), (50, [], Value.bool true), (51, [], Value.slice (some ⟨(pblk beyond.ptr), (poff beyond.ptr), none⟩) beyond.len beyond.cap), (52, [], Value.int .i64 i)] (congrArg (fun pp => ([(0, [], Value.pointer s), (1, [], Value.int .i64 mark), (2, [], Value.slice beyond.ptr beyond.len beyond.cap), (3, [], Value.int .i64 window), (10, [], Value.int .i64 i), (47, [], Value.bool false), (50, [], Value.bool true), (51, [], Value.slice pp beyond.len beyond.cap), (52, [], Value.int .i64 i)] : GEnv)) hp_44) ?_
                    obtain ⟨h0, h1, h⟩ := h
                    refine qreg_indexS1 (t := 23) (e := 3) (x := (Go.Operand.tmp 51)) (ix := (Go.Operand.tmp 52)) (b := (pblk beyond.ptr)) (o := (poff beyond.ptr)) (l := beyond.len) (c := beyond.cap) (k := .i64) (j := i) (ty := 0) (dst := some 53) (by kernel_rfl) (by kernel_rfl) (by kernel_rfl) (by kernel_rfl) (by kernel_rfl) h0 h1 ?_
                    refine qreg_run [] 24 [(0, [], Value.pointer s), (1, [], Value.int .i64 mark), (2, [], Value.slice beyond.ptr beyond.len beyond.cap), (3, [], Value.int .i64 window), (10, [], Value.int .i64 i), (47, [], Value.bool false), (50, [], Value.bool true), (53, [], Value.pointer (some ⟨(pblk beyond.ptr), (poff beyond.ptr) + i.toNat, none⟩))] (by kernel_rfl) (by kernel_rfl) ?_
                    obtain ⟨v54, hc, h⟩ := h
                    refine qreg_load1 (t := 3) (a := (Go.Operand.tmp 53)) (b := (pblk beyond.ptr)) (o := ((poff beyond.ptr) + i.toNat)) (ty := 3) (dst := some 54) (by kernel_rfl) (by kernel_rfl) (by kernel_rfl) hc ?_
                    refine qreg_run [.sure, .sure, .sure] 28 [(0, [], Value.pointer s), (1, [], Value.int .i64 mark), (2, [], Value.slice beyond.ptr beyond.len beyond.cap), (3, [], Value.int .i64 window), (10, [], Value.int .i64 i), (47, [], Value.bool false), (50, [], Value.bool true), (54, [], Value.int .i64 v54), (55, [], Value.slice beyond.ptr beyond.len beyond.cap), (57, [], Value.int .i64 (IntKind.i64.wrap (i - 1)))] (by kernel_rfl) (by kernel_rfl) ?_
                    obtain ⟨hp_45, h⟩ := h
                    refine qreg_conv [(0, [], Value.pointer s), (1, [], Value.int .i64 mark), (2, [], Value.slice beyond.ptr beyond.len beyond.cap), (3, [], Value.int .i64 window), (10, [], Value.int .i64 i), (47, [], Value.bool false), (50, [], Value.bool true), (54, [], Value.int .i64 v54), (55, [], Value.slice (some ⟨(pblk beyond.ptr), (poff beyond.ptr), none⟩) beyond.len beyond.cap), (57, [], Value.int .i64 (IntKind.i64.wrap (i - 1)))] (congrArg (fun pp => ([(0, [], Value.pointer s), (1, [], Value.int .i64 mark), (2, [], Value.slice beyond.ptr beyond.len beyond.cap), (3, [], Value.int .i64 window), (10, [], Value.int .i64 i), (47, [], Value.bool false), (50, [], Value.bool true), (54, [], Value.int .i64 v54), (55, [], Value.slice pp beyond.len beyond.cap), (57, [], Value.int .i64 (IntKind.i64.wrap (i - 1)))] : GEnv)) hp_45) ?_
                    obtain ⟨h0, h1, h⟩ := h
                    refine qreg_indexS1 (t := 23) (e := 3) (x := (Go.Operand.tmp 55)) (ix := (Go.Operand.tmp 57)) (b := (pblk beyond.ptr)) (o := (poff beyond.ptr)) (l := beyond.len) (c := beyond.cap) (k := .i64) (j := (IntKind.i64.wrap (i - 1))) (ty := 0) (dst := some 58) (by kernel_rfl) (by kernel_rfl) (by kernel_rfl) (by kernel_rfl) (by kernel_rfl) h0 h1 ?_
                    refine qreg_run [] 29 [(0, [], Value.pointer s), (1, [], Value.int .i64 mark), (2, [], Value.slice beyond.ptr beyond.len beyond.cap), (3, [], Value.int .i64 window), (10, [], Value.int .i64 i), (47, [], Value.bool false), (50, [], Value.bool true), (54, [], Value.int .i64 v54), (58, [], Value.pointer (some ⟨(pblk beyond.ptr), (poff beyond.ptr) + (IntKind.i64.wrap (i - 1)).toNat, none⟩))] (by kernel_rfl) (by kernel_rfl) ?_
                    obtain ⟨v59, hc, h⟩ := h
                    refine qreg_load1 (t := 3) (a := (Go.Operand.tmp 58)) (b := (pblk beyond.ptr)) (o := ((poff beyond.ptr) + (IntKind.i64.wrap (i - 1)).toNat)) (ty := 3) (dst := some 59) (by kernel_rfl) (by kernel_rfl) (by kernel_rfl) hc ?_
                    refine qreg_run [.sure, .sure, .plain] 33 [(0, [], Value.pointer s), (1, [], Value.int .i64 mark), (2, [], Value.slice beyond.ptr beyond.len beyond.cap), (3, [], Value.int .i64 window), (10, [], Value.int .i64 i), (62, [], Value.bool (decide (v54 ≤ v59)))] (by kernel_rfl) (by kernel_rfl) ?_
                    refine qreg_end [(0, Value.pointer s), (1, Value.int .i64 mark), (2, Value.slice beyond.ptr beyond.len beyond.cap), (3, Value.int .i64 window), (10, Value.int .i64 i), (62, Value.bool (decide (v54 ≤ v59)))] (by kernel_rfl) (by kernel_rfl) (fun w5 hw => ?_)
                    replace h := h w5 hw
                    clear hw
                    exact ⟨[(0, Value.pointer s), (1, Value.int .i64 mark), (2, Value.slice beyond.ptr beyond.len beyond.cap), (3, Value.int .i64 window), (10, Value.int .i64 i), (62, Value.bool (decide (v54 ≤ v59)))], Sub.mk (by kernel_rfl), (decide (v54 ≤ v59)), rfl, h⟩
                  · replace h := h.2 hb
                    refine qreg_run [] 23 [(0, [], Value.pointer s), (1, [], Value.int .i64 mark), (2, [], Value.slice beyond.ptr beyond.len beyond.cap), (3, [], Value.int .i64 window), (10, [], Value.int .i64 i), (47, [], Value.bool false), (50, [], Value.bool false), (51, [], undef), (52, [], undef)] (by kernel_rfl) (by kernel_rfl) ?_
                    refine qreg_run [.skip, .skip, .skip, .skip, .skip, .skip, .skip, .skip, .sure, .plain] 33 [(0, [], Value.pointer s), (1, [], Value.int .i64 mark), (2, [], Value.slice beyond.ptr beyond.len beyond.cap), (3, [], Value.int .i64 window), (10, [], Value.int .i64 i), (62, [], Value.bool false)] (by kernel_rfl) (by kernel_rfl) ?_
                    refine qreg_end [(0, Value.pointer s), (1, Value.int .i64 mark), (2, Value.slice beyond.ptr beyond.len beyond.cap), (3, Value.int .i64 window), (10, Value.int .i64 i), (62, Value.bool false)] (by kernel_rfl) (by kernel_rfl) (fun w6 hw => ?_)
                    replace h := h w6 hw
                    clear hw
                    exact ⟨[(0, Value.pointer s), (1, Value.int .i64 mark), (2, Value.slice beyond.ptr beyond.len beyond.cap), (3, Value.int .i64 window), (10, Value.int .i64 i), (62, Value.bool false)], Sub.mk (by kernel_rfl), false, rfl, h⟩
            · replace h := h.2 hb
              refine qreg_run [] 4 [(0, [], Value.pointer s), (1, [], Value.int .i64 mark), (2, [], Value.slice beyond.ptr beyond.len beyond.cap), (3, [], Value.int .i64 window), (10, [], Value.int .i64 i), (32, [], Value.bool false), (33, [], undef)] (by kernel_rfl) (by kernel_rfl) ?_
              refine qreg_run [.skip, .skip, .skip, .skip, .skip, .skip, .skip, .skip, .skip, .skip, .skip, .skip, .plain, .plain, .sure, .sure, .sure, .plain, .plain] 23 [(0, [], Value.pointer s), (1, [], Value.int .i64 mark), (2, [], Value.slice beyond.ptr beyond.len beyond.cap), (3, [], Value.int .i64 window), (10, [], Value.int .i64 i), (47, [], Value.bool false), (50, [], Value.bool (decide (i > 0))), (51, [(50, true)], Value.slice beyond.ptr beyond.len beyond.cap), (52, [(50, true)], Value.int .i64 i)] (by kernel_rfl) (by kernel_rfl) ?_
              refine qreg_split 50 (decide (i > 0)) (by kernel_rfl) (fun hb => ?_) (fun hb => ?_)
              · replace h := h.1 hb
                refine qreg_run [] 23 [(0, [], Value.pointer s), (1, [], Value.int .i64 mark), (2, [], Value.slice beyond.ptr beyond.len beyond.cap), (3, [], Value.int .i64 window), (10, [], Value.int .i64 i), (47, [], Value.bool false), (50, [], Value.bool true), (51, [], Value.slice beyond.ptr beyond.len beyond.cap), (52, [], Value.int .i64 i)] (by kernel_rfl) (by kernel_rfl) ?_
                refine qreg_run [] 23 [(0, [], Value.pointer s), (1, [], Value.int .i64 mark), (2, [], Value.slice beyond.ptr beyond.len beyond.cap), (3, [], Value.int .i64 window), (10, [], Value.int .i64 i), (47, [], Value.bool false), (50, [], Value.bool true), (51, [], Value.slice beyond.ptr beyond.len beyond.cap), (52, [], Value.int .i64 i)] (by kernel_rfl) (by kernel_rfl) ?_
                obtain ⟨hp_46, h⟩ := h
                refine qreg_conv [(0, [], Value.pointer s), (1, [], Value.int .i64 mark), (2, [], Value.slice beyond.ptr beyond.len beyond.cap), (3, [], Value.int .i64 window), (10, [], Value.int .i64 i), (47, [], Value.bool false), (50, [], Value.bool true), (51, [], Value.slice (some ⟨(pblk beyond.ptr), (poff beyond.ptr), none⟩) beyond.len beyond.cap), (52, [], Value.int .i64 i)] (congrArg (fun pp => ([(0, [], Value.pointer s), (1, [], Value.int .i64 mark), (2, [], Value.slice beyond.ptr beyond.len beyond.cap), (3, [], Value.int .i64 window), (10, [], Value.int .i64 i), (47, [], Value.bool false), (50, [], Value.bool true), (51, [], Value.slice pp beyond.len beyond.cap), (52, [], Value.int .i64 i)] : GEnv)) hp_46) ?_
                obtain ⟨h0, h1, h⟩ := h
                refine qreg_indexS1 (t := 23) (e := 3) (x := (Go.Operand.tmp 51)) (ix := (Go.Operand.tmp 52)) (b := (pblk beyond.ptr)) (o := (poff beyond.ptr)) (l := beyond.len) (c := beyond.cap) (k := .i64) (j := i) (ty := 0) (dst := some 53) (by kernel_rfl) (by kernel_rfl) (by kernel_rfl) (by kernel_rfl) (by kernel_rfl) h0 h1 ?_
                refine qreg_run [] 24 [(0, [], Value.pointer s), (1, [], Value.int .i64 mark), (2, [], Value.slice beyond.ptr beyond.len beyond.cap), (3, [], Value.int .i64 window), (10, [], Value.int .i64 i), (47, [], Value.bool false), (50, [], Value.bool true), (53, [], Value.pointer (some ⟨(pblk beyond.ptr), (poff beyond.ptr) + i.toNat, none⟩))] (by kernel_rfl) (by kernel_rfl) ?_
                obtain ⟨v541, hc, h⟩ := h
                refine qreg_load1 (t := 3) (a := (Go.Operand.tmp 53)) (b := (pblk beyond.ptr)) (o := ((poff beyond.ptr) + i.toNat)) (ty := 3) (dst := some 54) (by kernel_rfl) (by kernel_rfl) (by kernel_rfl) hc ?_
                refine qreg_run [.sure, .sure, .sure] 28 [(0, [], Value.pointer s), (1, [], Value.int .i64 mark), (2, [], Value.slice beyond.ptr beyond.len beyond.cap), (3, [], Value.int .i64 window), (10, [], Value.int .i64 i), (47, [], Value.bool false), (50, [], Value.bool true), (54, [], Value.int .i64 v541), (55, [], Value.slice beyond.ptr beyond.len beyond.cap), (57, [], Value.int .i64 (IntKind.i64.wrap (i - 1)))] (by kernel_rfl) (by kernel_rfl) ?_
                obtain ⟨hp_47, h⟩ := h
                refine qreg_conv [(0, [], Value.pointer s), (1, [], Value.int .i64 mark), (2, [], Value.slice beyond.ptr beyond.len beyond.cap), (3, [], Value.int .i64 window), (10, [], Value.int .i64 i), (47, [], Value.bool false), (50, [], Value.bool true), (54, [], Value.int .i64 v541), (55, [], Value.slice (some ⟨(pblk beyond.ptr), (poff beyond.ptr), none⟩) beyond.len beyond.cap), (57, [], Value.int .i64 (IntKind.i64.wrap (i - 1)))] (congrArg (fun pp => ([(0, [], Value.pointer s), (1, [], Value.int .i64 mark), (2, [], Value.slice beyond.ptr beyond.len beyond.cap), (3, [], Value.int .i64 window), (10, [], Value.int .i64 i), (47, [], Value.bool false), (50, [], Value.bool true), (54, [], Value.int .i64 v541), (55, [], Value.slice pp beyond.len beyond.cap), (57, [], Value.int .i64 (IntKind.i64.wrap (i - 1)))] : GEnv)) hp_47) ?_
                obtain ⟨h0, h1, h⟩ := h
                refine qreg_indexS1 (t := 23) (e := 3) (x := (Go.Operand.tmp 55)) (ix := (Go.Operand.tmp 57)) (b := (pblk beyond.ptr)) (o := (poff beyond.ptr)) (l := beyond.len) (c := beyond.cap) (k := .i64) (j := (IntKind.i64.wrap (i - 1))) (ty := 0) (dst := some 58) (by kernel_rfl) (by kernel_rfl) (by kernel_rfl) (by kernel_rfl) (by kernel_rfl) h0 h1 ?_
                refine qreg_run [] 29 [(0, [], Value.pointer s), (1, [], Value.int .i64 mark), (2, [], Value.slice beyond.ptr beyond.len beyond.cap), (3, [], Value.int .i64 window), (10, [], Value.int .i64 i), (47, [], Value.bool false), (50, [], Value.bool true), (54, [], Value.int .i64 v541), (58, [], Value.pointer (some ⟨(pblk beyond.ptr), (poff beyond.ptr) + (IntKind.i64.wrap (i - 1)).toNat, none⟩))] (by kernel_rfl) (by kernel_rfl) ?_
                obtain ⟨v591, hc, h⟩ := h
                refine qreg_load1 (t := 3) (a := (Go.Operand.tmp 58)) (b := (pblk beyond.ptr)) (o := ((poff beyond.ptr) + (IntKind.i64.wrap (i - 1)).toNat)) (ty := 3) (dst := some 59) (by kernel_rfl) (by kernel_rfl) (by kernel_rfl) hc ?_
                refine qreg_run [.sure, .sure, .plain] 33 [(0, [], Value.pointer s), (1, [], Value.int .i64 mark), (2, [], Value.slice beyond.ptr beyond.len beyond.cap), (3, [], Value.int .i64 window), (10, [], Value.int .i64 i), (62, [], Value.bool (decide (v541 ≤ v591)))] (by kernel_rfl) (by kernel_rfl) ?_
                refine qreg_end [(0, Value.pointer s), (1, Value.int .i64 mark), (2, Value.slice beyond.ptr beyond.len beyond.cap), (3, Value.int .i64 window), (10, Value.int .i64 i), (62, Value.bool (decide (v541 ≤ v591)))] (by kernel_rfl) (by kernel_rfl) (fun w7 hw => ?_)
                replace h := h w7 hw
                clear hw
                exact ⟨[(0, Value.pointer s), (1, Value.int .i64 mark), (2, Value.slice beyond.ptr beyond.len beyond.cap), (3, Value.int .i64 window), (10, Value.int .i64 i), (62, Value.bool (decide (v541 ≤ v591)))], Sub.mk (by kernel_rfl), (decide (v541 ≤ v591)), rfl, h⟩
              · replace h := h.2 hb
                refine qreg_run [] 23 [(0, [], Value.pointer s), (1, [], Value.int .i64 mark), (2, [], Value.slice beyond.ptr beyond.len beyond.cap), (3, [], Value.int .i64 window), (10, [], Value.int .i64 i), (47, [], Value.bool false), (50, [], Value.bool false), (51, [], undef), (52, [], undef)] (by kernel_rfl) (by kernel_rfl) ?_
                refine qreg_run [.skip, .skip, .skip, .skip, .skip, .skip, .skip, .skip, .sure, .plain] 33 [(0, [], Value.pointer s), (1, [], Value.int .i64 mark), (2, [], Value.slice beyond.ptr beyond.len beyond.cap), (3, [], Value.int .i64 window), (10, [], Value.int .i64 i), (62, [], Value.bool false)] (by kernel_rfl) (by kernel_rfl) ?_
                refine qreg_end [(0, Value.pointer s), (1, Value.int .i64 mark), (2, Value.slice beyond.ptr beyond.len beyond.cap), (3, Value.int .i64 window), (10, Value.int .i64 i), (62, Value.bool false)] (by kernel_rfl) (by kernel_rfl) (fun w8 hw => ?_)
                replace h := h w8 hw
                clear hw
                exact ⟨[(0, Value.pointer s), (1, Value.int .i64 mark), (2, Value.slice beyond.ptr beyond.len beyond.cap), (3, Value.int .i64 window), (10, Value.int .i64 i), (62, Value.bool false)], Sub.mk (by kernel_rfl), false, rfl, h⟩
          · rintro _ w2 ⟨t62, rfl, h⟩
            unfold F_towpathref16_New_k1 at h
            refine wpE_cond (o := (Operand.tmp 62)) (b := t62) (x := c_towpathref16_New_42) (y := c_towpathref16_New_46) (by kernel_rfl) (by kernel_rfl) (fun hb => ?_) (fun hb => ?_)
            · replace h := h.1 hb
              refine wpE_seq (x := c_towpathref16_New_43) (y := c_towpathref16_New_45) (by kernel_rfl) ?_
              refine wpE_region (id := 9) (ops := r_towpathref16_New_43) (by kernel_rfl) ?_
              refine reg_run [.plain, .plain] 2 [(8, [], Value.pointer none), (9, [], Value.int .i64 1)] (by kernel_rfl) (by kernel_rfl) ?_
              refine reg_end [(8, Value.pointer none), (9, Value.int .i64 1)] (by kernel_rfl) (by kernel_rfl) ?_
              change WpE _ _ c_towpathref16_New_45 _ _ _
              refine wpE_ret (by kernel_rfl) ?_
              repeat (first | refine seqQ_ret ?_ | refine blockQ_ret ?_ | refine loopQ_ret ?_ | refine cutQ_ret ?_)
              exact retT (rs := [(Go.ResultVar.tmp 8), (Go.ResultVar.tmp 9)]) (vs := [Value.pointer none, Value.int .i64 1]) (by kernel_rfl) (⟨by kernel_rfl, ⟨by kernel_rfl, trivial⟩⟩) (by kernel_rfl) ⟨none, 1, rfl, h⟩
            · replace h := h.2 hb
              refine wpE_skip (by kernel_rfl) ?_
              change WpE _ _ c_towpathref16_New_47 _ _ _
              refine wpE_region (id := 7) (ops := r_towpathref16_New_47) (by kernel_rfl) ?_
              refine reg_run [.plain, .plain, .plain] 3 [(0, [], Value.pointer s), (1, [], Value.int .i64 mark), (2, [], Value.slice beyond.ptr beyond.len beyond.cap), (3, [], Value.int .i64 window), (10, [], Value.int .i64 (IntKind.i64.wrap (i + 1)))] (by kernel_rfl) (by kernel_rfl) ?_
              refine reg_end [(0, Value.pointer s), (1, Value.int .i64 mark), (2, Value.slice beyond.ptr beyond.len beyond.cap), (3, Value.int .i64 window), (10, Value.int .i64 (IntKind.i64.wrap (i + 1)))] (by kernel_rfl) (by kernel_rfl) ?_
              have hb_ := again__h _ _ h
              exact ⟨_, hb_.2, [(0, Value.pointer s), (1, Value.int .i64 mark), (2, Value.slice beyond.ptr beyond.len beyond.cap), (3, Value.int .i64 window), (10, Value.int .i64 (IntKind.i64.wrap (i + 1)))], Sub.mk (by kernel_rfl), (IntKind.i64.wrap (i + 1)), rfl, hb_.1, rfl⟩
        · replace h := h.2 hb
          refine wpE_exit (id := 0) (by kernel_rfl) ?_
          change WpE _ _ c_towpathref16_New_49 _ _ _
          refine wpE_seq (x := c_towpathref16_New_50) (y := c_towpathref16_New_52) (by kernel_rfl) ?_
          refine wpE_region (id := 10) (ops := r_towpathref16_New_50) (by kernel_rfl) ?_
          refine reg_run [.plain] 1 [(0, [], Value.pointer s), (1, [], Value.int .i64 mark), (2, [], Value.slice beyond.ptr beyond.len beyond.cap), (3, [], Value.int .i64 window), (63, [], Value.pointer s)] (by kernel_rfl) (by kernel_rfl) ?_
          refine reg_enter (op := (Go.Op.call (Go.Call.mk (Go.Callee.value (Go.Operand.func 84)) #[(Go.Operand.tmp 63)] #[107]))) (ty := 3) (dst := some 64) 84 #[Value.pointer s] (by kernel_rfl) (fun ww => by kernel_rfl) (Calls.mono h ?_)
          rintro _ w9 ⟨v64, rfl, h⟩
          refine ⟨_, rfl, ?_⟩
          refine reg_run [.plain] 3 [(0, [], Value.pointer s), (1, [], Value.int .i64 mark), (2, [], Value.slice beyond.ptr beyond.len beyond.cap), (3, [], Value.int .i64 window), (11, [], Value.int .i64 v64)] (by kernel_rfl) (by kernel_rfl) ?_
          refine reg_end [(0, Value.pointer s), (1, Value.int .i64 mark), (2, Value.slice beyond.ptr beyond.len beyond.cap), (3, Value.int .i64 window), (11, Value.int .i64 v64)] (by kernel_rfl) (by kernel_rfl) ?_
          change WpE _ _ c_towpathref16_New_52 _ _ _
          refine wpE_seq (x := c_towpathref16_New_53) (y := c_towpathref16_New_62) (by kernel_rfl) ?_
          refine wpE_seq_cut (x := c_towpathref16_New_54) (y := c_towpathref16_New_56) (by kernel_rfl) (fun l w => ∃ (t82 : Bool), l = [(0, Value.pointer s), (1, Value.int .i64 mark), (2, Value.slice beyond.ptr beyond.len beyond.cap), (3, Value.int .i64 window), (82, Value.bool t82)] ∧ F_towpathref16_New_k2 s mark beyond window R t82 w) ?_ ?_
          · refine wpE_region (id := 11) (ops := r_towpathref16_New_54) (by kernel_rfl) ?_
            refine reg_run [.plain, .plain, .plain, .plain, .plain, .plain, .plain, .plain, .plain, .plain, .plain, .plain] 12 [(0, [], Value.pointer s), (1, [], Value.int .i64 mark), (2, [], Value.slice beyond.ptr beyond.len beyond.cap), (3, [], Value.int .i64 window), (11, [], Value.int .i64 v64), (68, [], Value.bool (decide (mark > v64))), (72, [(68, false)], Value.bool (decide (((beyond.len : Nat) : Int) > 0))), (73, [(72, true), (68, false)], Value.slice beyond.ptr beyond.len beyond.cap), (76, [(72, true), (68, false)], Value.int .i64 (IntKind.i64.wrap (((beyond.len : Nat) : Int) - 1)))] (by kernel_rfl) (by kernel_rfl) ?_
            refine reg_split 68 (decide (mark > v64)) (by kernel_rfl) (fun hb => ?_) (fun hb => ?_)
            · replace h := h.1 hb
              refine reg_run [] 12 [(0, [], Value.pointer s), (1, [], Value.int .i64 mark), (2, [], Value.slice beyond.ptr beyond.len beyond.cap), (3, [], Value.int .i64 window), (11, [], Value.int .i64 v64), (68, [], Value.bool true), (72, [], undef), (73, [], undef), (76, [], undef)] (by kernel_rfl) (by kernel_rfl) ?_
              refine reg_run [.skip, .skip, .skip, .skip, .skip, .plain] 18 [(0, [], Value.pointer s), (1, [], Value.int .i64 mark), (2, [], Value.slice beyond.ptr beyond.len beyond.cap), (3, [], Value.int .i64 window), (82, [], Value.bool true)] (by kernel_rfl) (by kernel_rfl) ?_
              refine reg_end [(0, Value.pointer s), (1, Value.int .i64 mark), (2, Value.slice beyond.ptr beyond.len beyond.cap), (3, Value.int .i64 window), (82, Value.bool true)] (by kernel_rfl) (by kernel_rfl) ?_
              exact ⟨[(0, Value.pointer s), (1, Value.int .i64 mark), (2, Value.slice beyond.ptr beyond.len beyond.cap), (3, Value.int .i64 window), (82, Value.bool true)], Sub.mk (by kernel_rfl), true, rfl, h⟩
            · replace h := h.2 hb
              refine reg_run [] 12 [(0, [], Value.pointer s), (1, [], Value.int .i64 mark), (2, [], Value.slice beyond.ptr beyond.len beyond.cap), (3, [], Value.int .i64 window), (11, [], Value.int .i64 v64), (68, [], Value.bool false), (72, [], Value.bool (decide (((beyond.len : Nat) : Int) > 0))), (73, [(72, true)], Value.slice beyond.ptr beyond.len beyond.cap), (76, [(72, true)], Value.int .i64 (IntKind.i64.wrap (((beyond.len : Nat) : Int) - 1)))] (by kernel_rfl) (by kernel_rfl) ?_
              refine reg_run [] 12 [(0, [], Value.pointer s), (1, [], Value.int .i64 mark), (2, [], Value.slice beyond.ptr beyond.len beyond.cap), (3, [], Value.int .i64 window), (11, [], Value.int .i64 v64), (68, [], Value.bool false), (72, [], Value.bool (decide (((beyond.len : Nat) : Int) > 0))), (73, [(72, true)], Value.slice beyond.ptr beyond.len beyond.cap), (76, [(72, true)], Value.int .i64 (IntKind.i64.wrap (((beyond.len : Nat) : Int) - 1)))] (by kernel_rfl) (by kernel_rfl) ?_
              refine reg_split 72 (decide (((beyond.len : Nat) : Int) > 0)) (by kernel_rfl) (fun hb => ?_) (fun hb => ?_)
              · replace h := h.1 hb
                refine reg_run [] 12 [(0, [], Value.pointer s), (1, [], Value.int .i64 mark), (2, [], Value.slice beyond.ptr beyond.len beyond.cap), (3, [], Value.int .i64 window), (11, [], Value.int .i64 v64), (68, [], Value.bool false), (72, [], Value.bool true), (73, [], Value.slice beyond.ptr beyond.len beyond.cap), (76, [], Value.int .i64 (IntKind.i64.wrap (((beyond.len : Nat) : Int) - 1)))] (by kernel_rfl) (by kernel_rfl) ?_
                refine reg_run [] 12 [(0, [], Value.pointer s), (1, [], Value.int .i64 mark), (2, [], Value.slice beyond.ptr beyond.len beyond.cap), (3, [], Value.int .i64 window), (11, [], Value.int .i64 v64), (68, [], Value.bool false), (72, [], Value.bool true), (73, [], Value.slice beyond.ptr beyond.len beyond.cap), (76, [], Value.int .i64 (IntKind.i64.wrap (((beyond.len : Nat) : Int) - 1)))] (by kernel_rfl) (by kernel_rfl) ?_
                obtain ⟨hp_51, h⟩ := h
                refine reg_conv [(0, [], Value.pointer s), (1, [], Value.int .i64 mark), (2, [], Value.slice beyond.ptr beyond.len beyond.cap), (3, [], Value.int .i64 window), (11, [], Value.int .i64 v64), (68, [], Value.bool false), (72, [], Value.bool true), (73, [], Value.slice (some ⟨(pblk beyond.ptr), (poff beyond.ptr), none⟩) beyond.len beyond.cap), (76, [], Value.int .i64 (IntKind.i64.wrap (((beyond.len : Nat) : Int) - 1)))] (congrArg (fun pp => ([(0, [], Value.pointer s), (1, [], Value.int .i64 mark), (2, [], Value.slice beyond.ptr beyond.len beyond.cap), (3, [], Value.int .i64 window), (11, [], Value.int .i64 v64), (68, [], Value.bool false), (72, [], Value.bool true), (73, [], Value.slice pp beyond.len beyond.cap), (76, [], Value.int .i64 (IntKind.i64.wrap (((beyond.len : Nat) : Int) - 1)))] : GEnv)) hp_51) ?_
                obtain ⟨h0, h1, h⟩ := h
                refine reg_indexS1 (t := 23) (e := 3) (x := (Go.Operand.tmp 73)) (ix := (Go.Operand.tmp 76)) (b := (pblk beyond.ptr)) (o := (poff beyond.ptr)) (l := beyond.len) (c := beyond.cap) (k := .i64) (j := (IntKind.i64.wrap (((beyond.len : Nat) : Int) - 1))) (ty := 0) (dst := some 77) (by kernel_rfl) (by kernel_rfl) (by kernel_rfl) (by kernel_rfl) (by kernel_rfl) h0 h1 ?_
                refine reg_run [] 13 [(0, [], Value.pointer s), (1, [], Value.int .i64 mark), (2, [], Value.slice beyond.ptr beyond.len beyond.cap), (3, [], Value.int .i64 window), (11, [], Value.int .i64 v64), (68, [], Value.bool false), (72, [], Value.bool true), (77, [], Value.pointer (some ⟨(pblk beyond.ptr), (poff beyond.ptr) + (IntKind.i64.wrap (((beyond.len : Nat) : Int) - 1)).toNat, none⟩))] (by kernel_rfl) (by kernel_rfl) ?_
                obtain ⟨v78, hc, h⟩ := h
                refine reg_load1 (t := 3) (a := (Go.Operand.tmp 77)) (b := (pblk beyond.ptr)) (o := ((poff beyond.ptr) + (IntKind.i64.wrap (((beyond.len : Nat) : Int) - 1)).toNat)) (ty := 3) (dst := some 78) (by kernel_rfl) (by kernel_rfl) (by kernel_rfl) hc ?_
                refine reg_run [.sure, .sure, .sure, .plain] 18 [(0, [], Value.pointer s), (1, [], Value.int .i64 mark), (2, [], Value.slice beyond.ptr beyond.len beyond.cap), (3, [], Value.int .i64 window), (82, [], Value.bool (decide (v78 > v64)))] (by kernel_rfl) (by kernel_rfl) ?_
                refine reg_end [(0, Value.pointer s), (1, Value.int .i64 mark), (2, Value.slice beyond.ptr beyond.len beyond.cap), (3, Value.int .i64 window), (82, Value.bool (decide (v78 > v64)))] (by kernel_rfl) (by kernel_rfl) ?_
                exact ⟨[(0, Value.pointer s), (1, Value.int .i64 mark), (2, Value.slice beyond.ptr beyond.len beyond.cap), (3, Value.int .i64 window), (82, Value.bool (decide (v78 > v64)))], Sub.mk (by kernel_rfl), (decide (v78 > v64)), rfl, h⟩
              · replace h := h.2 hb
                refine reg_run [] 12 [(0, [], Value.pointer s), (1, [], Value.int .i64 mark), (2, [], Value.slice beyond.ptr beyond.len beyond.cap), (3, [], Value.int .i64 window), (11, [], Value.int .i64 v64), (68, [], Value.bool false), (72, [], Value.bool false), (73, [], undef), (76, [], undef)] (by kernel_rfl) (by kernel_rfl) ?_
                refine reg_run [.skip, .skip, .skip, .skip, .sure, .plain] 18 [(0, [], Value.pointer s), (1, [], Value.int .i64 mark), (2, [], Value.slice beyond.ptr beyond.len beyond.cap), (3, [], Value.int .i64 window), (82, [], Value.bool false)] (by kernel_rfl) (by kernel_rfl) ?_
                refine reg_end [(0, Value.pointer s), (1, Value.int .i64 mark), (2, Value.slice beyond.ptr beyond.len beyond.cap), (3, Value.int .i64 window), (82, Value.bool false)] (by kernel_rfl) (by kernel_rfl) ?_
                exact ⟨[(0, Value.pointer s), (1, Value.int .i64 mark), (2, Value.slice beyond.ptr beyond.len beyond.cap), (3, Value.int .i64 window), (82, Value.bool false)], Sub.mk (by kernel_rfl), false, rfl, h⟩
          · rintro _ w10 ⟨t82, rfl, h⟩
            unfold F_towpathref16_New_k2 at h
            refine wpE_cond (o := (Operand.tmp 82)) (b := t82) (x := c_towpathref16_New_57) (y := c_towpathref16_New_61) (by kernel_rfl) (by kernel_rfl) (fun hb => ?_) (fun hb => ?_)
            · replace h := h.1 hb
              refine wpE_seq (x := c_towpathref16_New_58) (y := c_towpathref16_New_60) (by kernel_rfl) ?_
              refine wpE_region (id := 12) (ops := r_towpathref16_New_58) (by kernel_rfl) ?_
              refine reg_run [.plain, .plain] 2 [(8, [], Value.pointer none), (9, [], Value.int .i64 6)] (by kernel_rfl) (by kernel_rfl) ?_
              refine reg_end [(8, Value.pointer none), (9, Value.int .i64 6)] (by kernel_rfl) (by kernel_rfl) ?_
              change WpE _ _ c_towpathref16_New_60 _ _ _
              refine wpE_ret (by kernel_rfl) ?_
              repeat (first | refine seqQ_ret ?_ | refine blockQ_ret ?_ | refine loopQ_ret ?_ | refine cutQ_ret ?_)
              exact retT (rs := [(Go.ResultVar.tmp 8), (Go.ResultVar.tmp 9)]) (vs := [Value.pointer none, Value.int .i64 6]) (by kernel_rfl) (⟨by kernel_rfl, ⟨by kernel_rfl, trivial⟩⟩) (by kernel_rfl) ⟨none, 6, rfl, h⟩
            · replace h := h.2 hb
              refine wpE_skip (by kernel_rfl) ?_
              change WpE _ _ c_towpathref16_New_62 _ _ _
              refine wpE_seq (x := c_towpathref16_New_63) (y := c_towpathref16_New_65) (by kernel_rfl) ?_
              refine wpE_region (id := 13) (ops := r_towpathref16_New_63) (by kernel_rfl) ?_
              refine reg_run [.plain, .plain, .plain] 3 [(1, [], Value.int .i64 mark), (3, [], Value.int .i64 window), (83, [], Value.pointer s), (84, [], Value.int .i64 mark), (85, [], Value.slice beyond.ptr beyond.len beyond.cap)] (by kernel_rfl) (by kernel_rfl) ?_
              obtain ⟨src, hs, h⟩ := h
              refine reg_append (t := 23) (tx := 23) (e := 3) (a := (Go.Operand.const (Go.Value.slice none 0 0))) (xo := (Go.Operand.tmp 85)) (s := (Slc.mk none 0 0)) (x := beyond) (sz := 1) (by_ := 8) (zs := [Value.int .i64 0]) (ty := 23) (dst := some 86)  src (by kernel_rfl) (by kernel_rfl) (by kernel_rfl) (by kernel_rfl) (by kernel_rfl) (by kernel_rfl) (by kernel_rfl) (by kernel_rfl) (by kernel_rfl) hs (AppendW.mono h (fun v86 w11 h => ?_))
              refine reg_run [.plain, .plain, .plain] 7 [(89, [], Value.agg #[Value.pointer s, Value.int .i64 mark, Value.slice v86.ptr v86.len v86.cap, Value.int .i64 mark, Value.int .i64 window, Value.bool false, Value.int .i64 0, Value.slice none 0 0, Value.bool false])] (by kernel_rfl) (by kernel_rfl) ?_
              refine reg_new (op := (Go.Op.box 120 (Go.Operand.tmp 89))) (ty := 27) (dst := some 90) (fun bb => Value.pointer (some ⟨bb, 0, none⟩)) (Obj.cells ([Value.pointer s, Value.int .i64 mark, Value.slice v86.ptr v86.len v86.cap, Value.int .i64 mark, Value.int .i64 window, Value.bool false, Value.int .i64 0, Value.slice none 0 0, Value.bool false]).toArray ty_towpathref16_Feed (0, 0)) (by kernel_rfl) (by kernel_rfl) (fun b_ w12 hb hw => ?_)
              replace h := h b_ w12 hb hw
              clear hb hw
              refine reg_run [.plain, .plain] 10 [(8, [], Value.pointer (some ⟨b_, 0, none⟩)), (9, [], Value.int .i64 0)] (by kernel_rfl) (by kernel_rfl) ?_
              refine reg_end [(8, Value.pointer (some ⟨b_, 0, none⟩)), (9, Value.int .i64 0)] (by kernel_rfl) (by kernel_rfl) ?_
              change WpE _ _ c_towpathref16_New_65 _ _ _
              refine wpE_ret (by kernel_rfl) ?_
              repeat (first | refine seqQ_ret ?_ | refine blockQ_ret ?_ | refine loopQ_ret ?_ | refine cutQ_ret ?_)
              exact retT (rs := [(Go.ResultVar.tmp 8), (Go.ResultVar.tmp 9)]) (vs := [Value.pointer (some ⟨b_, 0, none⟩), Value.int .i64 0]) (by kernel_rfl) (⟨by kernel_rfl, ⟨by kernel_rfl, trivial⟩⟩) (by kernel_rfl) ⟨(some ⟨b_, 0, none⟩), 0, rfl, h⟩
  · rintro e w' ⟨v, rfl, r0, r1, rfl, h⟩; exact ⟨r0, r1, rfl, h⟩
end Go.Proofs.Ytpedclhflmhakaa
