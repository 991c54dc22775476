/- WRITTEN BY PROGRAM (dec.py): for each Go function the clean formula F, the call's contract C, and the proof S that F gives C. -/
import Derived.Test.YtfmkemmgakdddaaRows
import Derived.Test.YtfmkemmgakdddaaGF
namespace Go.Proofs.Ytfmkemmgakdddaa
open Go
set_option linter.unusedVariables false

/-! ### (*towpath/codec.Reader).Text$1 (function 76) -/
noncomputable def c_codec_Reader_Text_1_0 : Code := (Try.f76.body).getD Code.skip
noncomputable def c_codec_Reader_Text_1_1 : Code := Code.l c_codec_Reader_Text_1_0
noncomputable def r_codec_Reader_Text_1_1 : Array Oper := Code.ops c_codec_Reader_Text_1_1
noncomputable def c_codec_Reader_Text_1_3 : Code := Code.r c_codec_Reader_Text_1_0
noncomputable def c_codec_Reader_Text_1_4 : Code := Code.l c_codec_Reader_Text_1_3
noncomputable def c_codec_Reader_Text_1_5 : Code := Code.l c_codec_Reader_Text_1_4
noncomputable def r_codec_Reader_Text_1_5 : Array Oper := Code.ops c_codec_Reader_Text_1_5
noncomputable def c_codec_Reader_Text_1_7 : Code := Code.r c_codec_Reader_Text_1_4
noncomputable def c_codec_Reader_Text_1_8 : Code := Code.l c_codec_Reader_Text_1_7
noncomputable def c_codec_Reader_Text_1_9 : Code := Code.l c_codec_Reader_Text_1_8
noncomputable def r_codec_Reader_Text_1_9 : Array Oper := Code.ops c_codec_Reader_Text_1_9
noncomputable def c_codec_Reader_Text_1_11 : Code := Code.r c_codec_Reader_Text_1_8
noncomputable def c_codec_Reader_Text_1_12 : Code := Code.r c_codec_Reader_Text_1_7
noncomputable def c_codec_Reader_Text_1_13 : Code := Code.r c_codec_Reader_Text_1_3
noncomputable def c_codec_Reader_Text_1_14 : Code := Code.l c_codec_Reader_Text_1_13
noncomputable def r_codec_Reader_Text_1_14 : Array Oper := Code.ops c_codec_Reader_Text_1_14
noncomputable def c_codec_Reader_Text_1_16 : Code := Code.r c_codec_Reader_Text_1_13
noncomputable def c_codec_Reader_Text_1_17 : Code := Code.l c_codec_Reader_Text_1_16
noncomputable def c_codec_Reader_Text_1_18 : Code := Code.l c_codec_Reader_Text_1_17
noncomputable def c_codec_Reader_Text_1_19 : Code := Code.l c_codec_Reader_Text_1_18
noncomputable def r_codec_Reader_Text_1_19 : Array Oper := Code.ops c_codec_Reader_Text_1_19
noncomputable def c_codec_Reader_Text_1_21 : Code := Code.r c_codec_Reader_Text_1_18
noncomputable def c_codec_Reader_Text_1_22 : Code := Code.l c_codec_Reader_Text_1_21
noncomputable def c_codec_Reader_Text_1_23 : Code := Code.l c_codec_Reader_Text_1_22
noncomputable def r_codec_Reader_Text_1_23 : Array Oper := Code.ops c_codec_Reader_Text_1_23
noncomputable def c_codec_Reader_Text_1_25 : Code := Code.r c_codec_Reader_Text_1_22
noncomputable def c_codec_Reader_Text_1_26 : Code := Code.r c_codec_Reader_Text_1_21
noncomputable def c_codec_Reader_Text_1_27 : Code := Code.l c_codec_Reader_Text_1_26
noncomputable def r_codec_Reader_Text_1_27 : Array Oper := Code.ops c_codec_Reader_Text_1_27
noncomputable def c_codec_Reader_Text_1_29 : Code := Code.r c_codec_Reader_Text_1_26
noncomputable def c_codec_Reader_Text_1_30 : Code := Code.l c_codec_Reader_Text_1_29
noncomputable def c_codec_Reader_Text_1_31 : Code := Code.l c_codec_Reader_Text_1_30
noncomputable def r_codec_Reader_Text_1_31 : Array Oper := Code.ops c_codec_Reader_Text_1_31
noncomputable def c_codec_Reader_Text_1_33 : Code := Code.r c_codec_Reader_Text_1_30
noncomputable def c_codec_Reader_Text_1_34 : Code := Code.r c_codec_Reader_Text_1_29
noncomputable def c_codec_Reader_Text_1_35 : Code := Code.l c_codec_Reader_Text_1_34
noncomputable def r_codec_Reader_Text_1_35 : Array Oper := Code.ops c_codec_Reader_Text_1_35
noncomputable def c_codec_Reader_Text_1_37 : Code := Code.r c_codec_Reader_Text_1_34
noncomputable def c_codec_Reader_Text_1_38 : Code := Code.l c_codec_Reader_Text_1_37
noncomputable def c_codec_Reader_Text_1_39 : Code := Code.l c_codec_Reader_Text_1_38
noncomputable def r_codec_Reader_Text_1_39 : Array Oper := Code.ops c_codec_Reader_Text_1_39
noncomputable def c_codec_Reader_Text_1_41 : Code := Code.r c_codec_Reader_Text_1_38
noncomputable def c_codec_Reader_Text_1_42 : Code := Code.r c_codec_Reader_Text_1_37
noncomputable def c_codec_Reader_Text_1_43 : Code := Code.r c_codec_Reader_Text_1_16
noncomputable def c_codec_Reader_Text_1_44 : Code := Code.l c_codec_Reader_Text_1_43
noncomputable def r_codec_Reader_Text_1_44 : Array Oper := Code.ops c_codec_Reader_Text_1_44
noncomputable def c_codec_Reader_Text_1_46 : Code := Code.r c_codec_Reader_Text_1_43
noncomputable def c_codec_Reader_Text_1_47 : Code := Code.l c_codec_Reader_Text_1_46
noncomputable def r_codec_Reader_Text_1_47 : Array Oper := Code.ops c_codec_Reader_Text_1_47
noncomputable def c_codec_Reader_Text_1_49 : Code := Code.r c_codec_Reader_Text_1_46

set_option maxRecDepth 100000 in
set_option maxHeartbeats 4000000 in
theorem S_codec_Reader_Text_1 {b_ : Slc} {t1 : Option Addr} {t2 : Option Addr} {w : World} {R : Int → Int → World → Prop} (h : F_codec_Reader_Text_1 b_ t1 t2 R w) : C_codec_Reader_Text_1 b_ t1 t2 w R := by
  unfold F_codec_Reader_Text_1 at h
  unfold C_codec_Reader_Text_1
  refine Calls.mono (calls_of_wpE (args := [Value.slice b_.ptr b_.len b_.cap, Value.pointer t1, Value.pointer t2]) (R := fun v w' => ∃ (r0 : Int) (r1 : Int), v = Value.tuple #[Value.int .i64 r0, Value.int .i64 r1] ∧ R r0 r1 w') Try.func76 (c := c_codec_Reader_Text_1_0) (by kernel_rfl) 46 (by kernel_rfl) (by kernel_rfl) [(0, Value.slice b_.ptr b_.len b_.cap), (1, Value.pointer t1), (2, Value.pointer t2)] (by kernel_rfl) ?_) ?_
  · refine wpE_seq (x := c_codec_Reader_Text_1_1) (y := c_codec_Reader_Text_1_3) (by kernel_rfl) ?_
    refine wpE_region (id := 0) (ops := r_codec_Reader_Text_1_1) (by kernel_rfl) ?_
    refine reg_run [.plain, .plain] 2 [(0, [], Value.slice b_.ptr b_.len b_.cap), (1, [], Value.pointer t1), (2, [], Value.pointer t2)] (by kernel_rfl) (by kernel_rfl) ?_
    refine reg_end [(0, Value.slice b_.ptr b_.len b_.cap), (1, Value.pointer t1), (2, Value.pointer t2)] (by kernel_rfl) (by kernel_rfl) ?_
    change WpE _ _ c_codec_Reader_Text_1_3 _ _ _
    refine wpE_seq (x := c_codec_Reader_Text_1_4) (y := c_codec_Reader_Text_1_13) (by kernel_rfl) ?_
    refine wpE_seq (x := c_codec_Reader_Text_1_5) (y := c_codec_Reader_Text_1_7) (by kernel_rfl) ?_
    refine wpE_region (id := 1) (ops := r_codec_Reader_Text_1_5) (by kernel_rfl) ?_
    refine reg_run [] 0 [(0, [], Value.slice b_.ptr b_.len b_.cap), (1, [], Value.pointer t1), (2, [], Value.pointer t2)] (by kernel_rfl) (by kernel_rfl) ?_
    obtain ⟨hp_3, h⟩ := h
    refine reg_conv [(0, [], Value.slice b_.ptr b_.len b_.cap), (1, [], Value.pointer (some ⟨(pblk t1), (poff t1), none⟩)), (2, [], Value.pointer t2)] (congrArg (fun pp => ([(0, [], Value.slice b_.ptr b_.len b_.cap), (1, [], Value.pointer pp), (2, [], Value.pointer t2)] : GEnv)) hp_3) ?_
    obtain ⟨v9, hc, h⟩ := h
    refine reg_load1 (t := 3) (a := (Go.Operand.tmp 1)) (b := (pblk t1)) (o := (poff t1)) (ty := 3) (dst := some 9) (by kernel_rfl) (by kernel_rfl) (by kernel_rfl) hc ?_
    refine reg_run [.plain] 2 [(0, [], Value.slice b_.ptr b_.len b_.cap), (1, [], Value.pointer (some ⟨(pblk t1), (poff t1), none⟩)), (2, [], Value.pointer t2), (10, [], Value.bool (decide (v9 < 0)))] (by kernel_rfl) (by kernel_rfl) ?_
    refine reg_conv [(0, [], Value.slice b_.ptr b_.len b_.cap), (1, [], Value.pointer t1), (2, [], Value.pointer t2), (10, [], Value.bool (decide (v9 < 0)))] (congrArg (fun pp => ([(0, [], Value.slice b_.ptr b_.len b_.cap), (1, [], Value.pointer pp), (2, [], Value.pointer t2), (10, [], Value.bool (decide (v9 < 0)))] : GEnv)) hp_3.symm) ?_
    refine reg_end [(0, Value.slice b_.ptr b_.len b_.cap), (1, Value.pointer t1), (2, Value.pointer t2), (10, Value.bool (decide (v9 < 0)))] (by kernel_rfl) (by kernel_rfl) ?_
    change WpE _ _ c_codec_Reader_Text_1_7 _ _ _
    refine wpE_cond (o := (Operand.tmp 10)) (b := (decide (v9 < 0))) (x := c_codec_Reader_Text_1_8) (y := c_codec_Reader_Text_1_12) (by kernel_rfl) (by kernel_rfl) (fun hb => ?_) (fun hb => ?_)
    · replace h := h.1 hb
      refine wpE_seq (x := c_codec_Reader_Text_1_9) (y := c_codec_Reader_Text_1_11) (by kernel_rfl) ?_
      refine wpE_region (id := 2) (ops := r_codec_Reader_Text_1_9) (by kernel_rfl) ?_
      refine reg_run [.plain, .plain] 2 [(4, [], Value.int .i64 0), (5, [], Value.int .i64 1)] (by kernel_rfl) (by kernel_rfl) ?_
      refine reg_end [(4, Value.int .i64 0), (5, Value.int .i64 1)] (by kernel_rfl) (by kernel_rfl) ?_
      change WpE _ _ c_codec_Reader_Text_1_11 _ _ _
      refine wpE_ret (by kernel_rfl) ?_
      repeat (first | refine seqQ_ret ?_ | refine blockQ_ret ?_ | refine loopQ_ret ?_ | refine cutQ_ret ?_)
      exact retT (rs := [(Go.ResultVar.tmp 4), (Go.ResultVar.tmp 5)]) (vs := [Value.int .i64 0, Value.int .i64 1]) (by kernel_rfl) (⟨by kernel_rfl, ⟨by kernel_rfl, trivial⟩⟩) (by kernel_rfl) ⟨0, 1, rfl, h⟩
    · replace h := h.2 hb
      refine wpE_skip (by kernel_rfl) ?_
      change WpE _ _ c_codec_Reader_Text_1_13 _ _ _
      refine wpE_seq (x := c_codec_Reader_Text_1_14) (y := c_codec_Reader_Text_1_16) (by kernel_rfl) ?_
      refine wpE_region (id := 3) (ops := r_codec_Reader_Text_1_14) (by kernel_rfl) ?_
      refine reg_run [.plain] 1 [(0, [], Value.slice b_.ptr b_.len b_.cap), (1, [], Value.pointer t1), (2, [], Value.pointer t2), (12, [], Value.slice b_.ptr b_.len b_.cap)] (by kernel_rfl) (by kernel_rfl) ?_
      refine reg_enter (op := (Go.Op.call (Go.Call.mk (Go.Callee.value (Go.Operand.func 75)) #[(Go.Operand.tmp 12)] #[22]))) (ty := 125) (dst := some 13) 75 #[Value.slice b_.ptr b_.len b_.cap] (by kernel_rfl) (fun ww => by kernel_rfl) (Calls.mono h ?_)
      rintro _ w1 ⟨n_, size, e, rfl, h⟩
      refine ⟨_, rfl, ?_⟩
      refine reg_run [.plain, .plain, .plain, .plain, .plain, .plain, .plain] 9 [(0, [], Value.slice b_.ptr b_.len b_.cap), (1, [], Value.pointer t1), (2, [], Value.pointer t2), (6, [], Value.int .u64 n_), (7, [], Value.int .i64 size), (8, [], Value.int .i64 e)] (by kernel_rfl) (by kernel_rfl) ?_
      refine reg_end [(0, Value.slice b_.ptr b_.len b_.cap), (1, Value.pointer t1), (2, Value.pointer t2), (6, Value.int .u64 n_), (7, Value.int .i64 size), (8, Value.int .i64 e)] (by kernel_rfl) (by kernel_rfl) ?_
      change WpE _ _ c_codec_Reader_Text_1_16 _ _ _
      refine wpE_seq (x := c_codec_Reader_Text_1_17) (y := c_codec_Reader_Text_1_43) (by kernel_rfl) ?_
      refine wpE_block (id := 0) (x := c_codec_Reader_Text_1_18) (by kernel_rfl) ?_
      refine wpE_seq (x := c_codec_Reader_Text_1_19) (y := c_codec_Reader_Text_1_21) (by kernel_rfl) ?_
      refine wpE_region (id := 4) (ops := r_codec_Reader_Text_1_19) (by kernel_rfl) ?_
      refine reg_run [.plain, .plain, .plain] 3 [(0, [], Value.slice b_.ptr b_.len b_.cap), (1, [], Value.pointer t1), (2, [], Value.pointer t2), (6, [], Value.int .u64 n_), (7, [], Value.int .i64 size), (8, [], Value.int .i64 e), (17, [], Value.bool (e != 0))] (by kernel_rfl) (by kernel_rfl) ?_
      refine reg_end [(0, Value.slice b_.ptr b_.len b_.cap), (1, Value.pointer t1), (2, Value.pointer t2), (6, Value.int .u64 n_), (7, Value.int .i64 size), (8, Value.int .i64 e), (17, Value.bool (e != 0))] (by kernel_rfl) (by kernel_rfl) ?_
      change WpE _ _ c_codec_Reader_Text_1_21 _ _ _
      refine wpE_cond (o := (Operand.tmp 17)) (b := (e != 0)) (x := c_codec_Reader_Text_1_22) (y := c_codec_Reader_Text_1_26) (by kernel_rfl) (by kernel_rfl) (fun hb => ?_) (fun hb => ?_)
      · replace h := h.1 hb
        refine wpE_seq (x := c_codec_Reader_Text_1_23) (y := c_codec_Reader_Text_1_25) (by kernel_rfl) ?_
        refine wpE_region (id := 5) (ops := r_codec_Reader_Text_1_23) (by kernel_rfl) ?_
        refine reg_run [.plain, .plain, .plain] 3 [(4, [], Value.int .i64 0), (5, [], Value.int .i64 e)] (by kernel_rfl) (by kernel_rfl) ?_
        refine reg_end [(4, Value.int .i64 0), (5, Value.int .i64 e)] (by kernel_rfl) (by kernel_rfl) ?_
        change WpE _ _ c_codec_Reader_Text_1_25 _ _ _
        refine wpE_ret (by kernel_rfl) ?_
        repeat (first | refine seqQ_ret ?_ | refine blockQ_ret ?_ | refine loopQ_ret ?_ | refine cutQ_ret ?_)
        exact retT (rs := [(Go.ResultVar.tmp 4), (Go.ResultVar.tmp 5)]) (vs := [Value.int .i64 0, Value.int .i64 e]) (by kernel_rfl) (⟨by kernel_rfl, ⟨by kernel_rfl, trivial⟩⟩) (by kernel_rfl) ⟨0, e, rfl, h⟩
      · replace h := h.2 hb
        refine wpE_seq (x := c_codec_Reader_Text_1_27) (y := c_codec_Reader_Text_1_29) (by kernel_rfl) ?_
        refine wpE_region (id := 6) (ops := r_codec_Reader_Text_1_27) (by kernel_rfl) ?_
        refine reg_run [.plain] 1 [(0, [], Value.slice b_.ptr b_.len b_.cap), (1, [], Value.pointer t1), (2, [], Value.pointer t2), (6, [], Value.int .u64 n_), (7, [], Value.int .i64 size), (22, [], Value.int .u64 n_)] (by kernel_rfl) (by kernel_rfl) ?_
        obtain ⟨hp_7, h⟩ := h
        refine reg_conv [(0, [], Value.slice b_.ptr b_.len b_.cap), (1, [], Value.pointer (some ⟨(pblk t1), (poff t1), none⟩)), (2, [], Value.pointer t2), (6, [], Value.int .u64 n_), (7, [], Value.int .i64 size), (22, [], Value.int .u64 n_)] (congrArg (fun pp => ([(0, [], Value.slice b_.ptr b_.len b_.cap), (1, [], Value.pointer pp), (2, [], Value.pointer t2), (6, [], Value.int .u64 n_), (7, [], Value.int .i64 size), (22, [], Value.int .u64 n_)] : GEnv)) hp_7) ?_
        obtain ⟨v23, hc, h⟩ := h
        refine reg_load1 (t := 3) (a := (Go.Operand.tmp 1)) (b := (pblk t1)) (o := (poff t1)) (ty := 3) (dst := some 23) (by kernel_rfl) (by kernel_rfl) (by kernel_rfl) hc ?_
        refine reg_run [.plain, .plain, .plain] 5 [(0, [], Value.slice b_.ptr b_.len b_.cap), (2, [], Value.pointer t2), (6, [], Value.int .u64 n_), (7, [], Value.int .i64 size), (21, [], Value.bool (decide (n_ > (IntKind.u64.wrap v23))))] (by kernel_rfl) (by kernel_rfl) ?_
        refine reg_end [(0, Value.slice b_.ptr b_.len b_.cap), (2, Value.pointer t2), (6, Value.int .u64 n_), (7, Value.int .i64 size), (21, Value.bool (decide (n_ > (IntKind.u64.wrap v23))))] (by kernel_rfl) (by kernel_rfl) ?_
        change WpE _ _ c_codec_Reader_Text_1_29 _ _ _
        refine wpE_cond (o := (Operand.tmp 21)) (b := (decide (n_ > (IntKind.u64.wrap v23)))) (x := c_codec_Reader_Text_1_30) (y := c_codec_Reader_Text_1_34) (by kernel_rfl) (by kernel_rfl) (fun hb => ?_) (fun hb => ?_)
        · replace h := h.1 hb
          refine wpE_seq (x := c_codec_Reader_Text_1_31) (y := c_codec_Reader_Text_1_33) (by kernel_rfl) ?_
          refine wpE_region (id := 7) (ops := r_codec_Reader_Text_1_31) (by kernel_rfl) ?_
          refine reg_run [.plain, .plain] 2 [(4, [], Value.int .i64 0), (5, [], Value.int .i64 3)] (by kernel_rfl) (by kernel_rfl) ?_
          refine reg_end [(4, Value.int .i64 0), (5, Value.int .i64 3)] (by kernel_rfl) (by kernel_rfl) ?_
          change WpE _ _ c_codec_Reader_Text_1_33 _ _ _
          refine wpE_ret (by kernel_rfl) ?_
          repeat (first | refine seqQ_ret ?_ | refine blockQ_ret ?_ | refine loopQ_ret ?_ | refine cutQ_ret ?_)
          exact retT (rs := [(Go.ResultVar.tmp 4), (Go.ResultVar.tmp 5)]) (vs := [Value.int .i64 0, Value.int .i64 3]) (by kernel_rfl) (⟨by kernel_rfl, ⟨by kernel_rfl, trivial⟩⟩) (by kernel_rfl) ⟨0, 3, rfl, h⟩
        · replace h := h.2 hb
          refine wpE_seq (x := c_codec_Reader_Text_1_35) (y := c_codec_Reader_Text_1_37) (by kernel_rfl) ?_
          refine wpE_region (id := 8) (ops := r_codec_Reader_Text_1_35) (by kernel_rfl) ?_
          refine reg_run [.plain, .plain, .plain, .plain, .plain, .plain, .plain, .plain] 8 [(0, [], Value.slice b_.ptr b_.len b_.cap), (2, [], Value.pointer t2), (6, [], Value.int .u64 n_), (7, [], Value.int .i64 size), (26, [], Value.bool (decide (n_ > (IntKind.u64.wrap (IntKind.i64.wrap (((b_.len : Nat) : Int) - size))))))] (by kernel_rfl) (by kernel_rfl) ?_
          refine reg_end [(0, Value.slice b_.ptr b_.len b_.cap), (2, Value.pointer t2), (6, Value.int .u64 n_), (7, Value.int .i64 size), (26, Value.bool (decide (n_ > (IntKind.u64.wrap (IntKind.i64.wrap (((b_.len : Nat) : Int) - size))))))] (by kernel_rfl) (by kernel_rfl) ?_
          change WpE _ _ c_codec_Reader_Text_1_37 _ _ _
          refine wpE_cond (o := (Operand.tmp 26)) (b := (decide (n_ > (IntKind.u64.wrap (IntKind.i64.wrap (((b_.len : Nat) : Int) - size)))))) (x := c_codec_Reader_Text_1_38) (y := c_codec_Reader_Text_1_42) (by kernel_rfl) (by kernel_rfl) (fun hb => ?_) (fun hb => ?_)
          · replace h := h.1 hb
            refine wpE_seq (x := c_codec_Reader_Text_1_39) (y := c_codec_Reader_Text_1_41) (by kernel_rfl) ?_
            refine wpE_region (id := 9) (ops := r_codec_Reader_Text_1_39) (by kernel_rfl) ?_
            refine reg_run [.plain, .plain] 2 [(4, [], Value.int .i64 0), (5, [], Value.int .i64 5)] (by kernel_rfl) (by kernel_rfl) ?_
            refine reg_end [(4, Value.int .i64 0), (5, Value.int .i64 5)] (by kernel_rfl) (by kernel_rfl) ?_
            change WpE _ _ c_codec_Reader_Text_1_41 _ _ _
            refine wpE_ret (by kernel_rfl) ?_
            repeat (first | refine seqQ_ret ?_ | refine blockQ_ret ?_ | refine loopQ_ret ?_ | refine cutQ_ret ?_)
            exact retT (rs := [(Go.ResultVar.tmp 4), (Go.ResultVar.tmp 5)]) (vs := [Value.int .i64 0, Value.int .i64 5]) (by kernel_rfl) (⟨by kernel_rfl, ⟨by kernel_rfl, trivial⟩⟩) (by kernel_rfl) ⟨0, 5, rfl, h⟩
          · replace h := h.2 hb
            refine wpE_skip (by kernel_rfl) ?_
            change WpE _ _ c_codec_Reader_Text_1_43 _ _ _
            refine wpE_seq (x := c_codec_Reader_Text_1_44) (y := c_codec_Reader_Text_1_46) (by kernel_rfl) ?_
            refine wpE_region (id := 10) (ops := r_codec_Reader_Text_1_44) (by kernel_rfl) ?_
            refine reg_run [.plain, .plain, .plain, .plain, .plain, .plain] 6 [(2, [], Value.pointer t2), (6, [], Value.int .u64 n_), (7, [], Value.int .i64 size), (34, [], Value.slice b_.ptr b_.len b_.cap), (35, [], Value.int .i64 size), (39, [], Value.int .i64 (IntKind.i64.wrap (size + (IntKind.i64.wrap n_))))] (by kernel_rfl) (by kernel_rfl) ?_
            obtain ⟨hc, h⟩ := h
            refine reg_sliceH (t := 22) (e := 5) (x := (Go.Operand.tmp 34)) (lo := (Go.Operand.tmp 35)) (hi := (Go.Operand.tmp 39)) (s := b_) (sz := 1) (k := .i64) (a := size) (k' := .i64) (b := (IntKind.i64.wrap (size + (IntKind.i64.wrap n_)))) (ty := 22) (dst := some 40) (by kernel_rfl) (by kernel_rfl) (by kernel_rfl) (by kernel_rfl) (by kernel_rfl) (by kernel_rfl) hc (fun s hs => ?_)
            replace h := h s hs
            clear hs
            refine reg_run [] 7 [(2, [], Value.pointer t2), (6, [], Value.int .u64 n_), (7, [], Value.int .i64 size), (40, [], Value.slice s.ptr s.len s.cap)] (by kernel_rfl) (by kernel_rfl) ?_
            obtain ⟨str, hs, h⟩ := h
            refine reg_toString (t := 22) (d := 9) (e := 5) (x := (Go.Operand.tmp 40)) (s := s) (ty := 9) (dst := some 41) (by kernel_rfl) (by kernel_rfl) (by kernel_rfl) (by kernel_rfl) (by kernel_rfl) hs ?_
            refine reg_run [] 8 [(2, [], Value.pointer t2), (6, [], Value.int .u64 n_), (7, [], Value.int .i64 size), (41, [], Value.string str)] (by kernel_rfl) (by kernel_rfl) ?_
            obtain ⟨hp_9, h⟩ := h
            refine reg_conv [(2, [], Value.pointer (some ⟨(pblk t2), (poff t2), none⟩)), (6, [], Value.int .u64 n_), (7, [], Value.int .i64 size), (41, [], Value.string str)] (congrArg (fun pp => ([(2, [], Value.pointer pp), (6, [], Value.int .u64 n_), (7, [], Value.int .i64 size), (41, [], Value.string str)] : GEnv)) hp_9) ?_
            obtain ⟨hc, h⟩ := h
            refine reg_store (t := 9) (a := (Go.Operand.tmp 2)) (x := (Go.Operand.tmp 41)) (b := (pblk t2)) (o := (poff t2)) (ty := 0) (dst := none) [Value.string str] (by kernel_rfl) (by kernel_rfl) (by kernel_rfl) (k := 1) (by kernel_rfl) (by kernel_rfl) (by kernel_rfl) hc (fun w2 hw => ?_)
            replace h := h w2 hw
            clear hw
            refine reg_end [(6, Value.int .u64 n_), (7, Value.int .i64 size)] (by kernel_rfl) (by kernel_rfl) ?_
            change WpE _ _ c_codec_Reader_Text_1_46 _ _ _
            refine wpE_seq (x := c_codec_Reader_Text_1_47) (y := c_codec_Reader_Text_1_49) (by kernel_rfl) ?_
            refine wpE_region (id := 11) (ops := r_codec_Reader_Text_1_47) (by kernel_rfl) ?_
            refine reg_run [.plain, .plain, .plain, .plain, .plain, .plain] 6 [(4, [], Value.int .i64 (IntKind.i64.wrap (size + (IntKind.i64.wrap n_)))), (5, [], Value.int .i64 0)] (by kernel_rfl) (by kernel_rfl) ?_
            refine reg_end [(4, Value.int .i64 (IntKind.i64.wrap (size + (IntKind.i64.wrap n_)))), (5, Value.int .i64 0)] (by kernel_rfl) (by kernel_rfl) ?_
            change WpE _ _ c_codec_Reader_Text_1_49 _ _ _
            refine wpE_ret (by kernel_rfl) ?_
            repeat (first | refine seqQ_ret ?_ | refine blockQ_ret ?_ | refine loopQ_ret ?_ | refine cutQ_ret ?_)
            exact retT (rs := [(Go.ResultVar.tmp 4), (Go.ResultVar.tmp 5)]) (vs := [Value.int .i64 (IntKind.i64.wrap (size + (IntKind.i64.wrap n_))), Value.int .i64 0]) (by kernel_rfl) (⟨by kernel_rfl, ⟨by kernel_rfl, trivial⟩⟩) (by kernel_rfl) ⟨(IntKind.i64.wrap (size + (IntKind.i64.wrap n_))), 0, rfl, h⟩
  · rintro e w' ⟨v, rfl, r0, r1, rfl, h⟩; exact ⟨r0, r1, rfl, h⟩

/-! ### (*towpath/codec.Reader).Fixed$1 (function 77) -/
noncomputable def c_codec_Reader_Fixed_1_0 : Code := (Try.f77.body).getD Code.skip
noncomputable def c_codec_Reader_Fixed_1_1 : Code := Code.l c_codec_Reader_Fixed_1_0
noncomputable def r_codec_Reader_Fixed_1_1 : Array Oper := Code.ops c_codec_Reader_Fixed_1_1
noncomputable def c_codec_Reader_Fixed_1_3 : Code := Code.r c_codec_Reader_Fixed_1_0
noncomputable def c_codec_Reader_Fixed_1_4 : Code := Code.l c_codec_Reader_Fixed_1_3
noncomputable def c_codec_Reader_Fixed_1_5 : Code := Code.l c_codec_Reader_Fixed_1_4
noncomputable def c_codec_Reader_Fixed_1_6 : Code := Code.l c_codec_Reader_Fixed_1_5
noncomputable def r_codec_Reader_Fixed_1_6 : Array Oper := Code.ops c_codec_Reader_Fixed_1_6
noncomputable def c_codec_Reader_Fixed_1_8 : Code := Code.r c_codec_Reader_Fixed_1_5
noncomputable def c_codec_Reader_Fixed_1_9 : Code := Code.l c_codec_Reader_Fixed_1_8
noncomputable def c_codec_Reader_Fixed_1_10 : Code := Code.l c_codec_Reader_Fixed_1_9
noncomputable def r_codec_Reader_Fixed_1_10 : Array Oper := Code.ops c_codec_Reader_Fixed_1_10
noncomputable def c_codec_Reader_Fixed_1_12 : Code := Code.r c_codec_Reader_Fixed_1_9
noncomputable def c_codec_Reader_Fixed_1_13 : Code := Code.r c_codec_Reader_Fixed_1_8
noncomputable def c_codec_Reader_Fixed_1_14 : Code := Code.l c_codec_Reader_Fixed_1_13
noncomputable def r_codec_Reader_Fixed_1_14 : Array Oper := Code.ops c_codec_Reader_Fixed_1_14
noncomputable def c_codec_Reader_Fixed_1_16 : Code := Code.r c_codec_Reader_Fixed_1_13
noncomputable def c_codec_Reader_Fixed_1_17 : Code := Code.l c_codec_Reader_Fixed_1_16
noncomputable def c_codec_Reader_Fixed_1_18 : Code := Code.l c_codec_Reader_Fixed_1_17
noncomputable def r_codec_Reader_Fixed_1_18 : Array Oper := Code.ops c_codec_Reader_Fixed_1_18
noncomputable def c_codec_Reader_Fixed_1_20 : Code := Code.r c_codec_Reader_Fixed_1_17
noncomputable def c_codec_Reader_Fixed_1_21 : Code := Code.r c_codec_Reader_Fixed_1_16
noncomputable def c_codec_Reader_Fixed_1_22 : Code := Code.r c_codec_Reader_Fixed_1_3
noncomputable def c_codec_Reader_Fixed_1_23 : Code := Code.l c_codec_Reader_Fixed_1_22
noncomputable def c_codec_Reader_Fixed_1_24 : Code := Code.l c_codec_Reader_Fixed_1_23
noncomputable def r_codec_Reader_Fixed_1_24 : Array Oper := Code.ops c_codec_Reader_Fixed_1_24
noncomputable def c_codec_Reader_Fixed_1_26 : Code := Code.r c_codec_Reader_Fixed_1_23
noncomputable def c_codec_Reader_Fixed_1_27 : Code := Code.l c_codec_Reader_Fixed_1_26
noncomputable def c_codec_Reader_Fixed_1_28 : Code := Code.l c_codec_Reader_Fixed_1_27
noncomputable def c_codec_Reader_Fixed_1_29 : Code := Code.l c_codec_Reader_Fixed_1_28
noncomputable def c_codec_Reader_Fixed_1_30 : Code := Code.l c_codec_Reader_Fixed_1_29
noncomputable def r_codec_Reader_Fixed_1_30 : Array Oper := Code.ops c_codec_Reader_Fixed_1_30
noncomputable def c_codec_Reader_Fixed_1_32 : Code := Code.r c_codec_Reader_Fixed_1_29
noncomputable def c_codec_Reader_Fixed_1_33 : Code := Code.l c_codec_Reader_Fixed_1_32
noncomputable def c_codec_Reader_Fixed_1_34 : Code := Code.r c_codec_Reader_Fixed_1_32
noncomputable def c_codec_Reader_Fixed_1_35 : Code := Code.r c_codec_Reader_Fixed_1_28
noncomputable def c_codec_Reader_Fixed_1_36 : Code := Code.l c_codec_Reader_Fixed_1_35
noncomputable def c_codec_Reader_Fixed_1_37 : Code := Code.l c_codec_Reader_Fixed_1_36
noncomputable def r_codec_Reader_Fixed_1_37 : Array Oper := Code.ops c_codec_Reader_Fixed_1_37
noncomputable def c_codec_Reader_Fixed_1_39 : Code := Code.r c_codec_Reader_Fixed_1_35
noncomputable def r_codec_Reader_Fixed_1_39 : Array Oper := Code.ops c_codec_Reader_Fixed_1_39
noncomputable def c_codec_Reader_Fixed_1_41 : Code := Code.r c_codec_Reader_Fixed_1_22
noncomputable def c_codec_Reader_Fixed_1_42 : Code := Code.l c_codec_Reader_Fixed_1_41
noncomputable def r_codec_Reader_Fixed_1_42 : Array Oper := Code.ops c_codec_Reader_Fixed_1_42
noncomputable def c_codec_Reader_Fixed_1_44 : Code := Code.r c_codec_Reader_Fixed_1_41

set_option maxRecDepth 100000 in
set_option maxHeartbeats 4000000 in
theorem S_codec_Reader_Fixed_1 {b_ : Slc} {t1 : Option Addr} {t2 : Option Addr} {w : World} {R : Int → Int → World → Prop} (h : F_codec_Reader_Fixed_1 b_ t1 t2 R w) : C_codec_Reader_Fixed_1 b_ t1 t2 w R := by
  unfold F_codec_Reader_Fixed_1 at h
  unfold C_codec_Reader_Fixed_1
  refine Calls.mono (calls_of_wpE (args := [Value.slice b_.ptr b_.len b_.cap, Value.pointer t1, Value.pointer t2]) (R := fun v w' => ∃ (r0 : Int) (r1 : Int), v = Value.tuple #[Value.int .i64 r0, Value.int .i64 r1] ∧ R r0 r1 w') Try.func77 (c := c_codec_Reader_Fixed_1_0) (by kernel_rfl) 34 (by kernel_rfl) (by kernel_rfl) [(0, Value.slice b_.ptr b_.len b_.cap), (1, Value.pointer t1), (2, Value.pointer t2)] (by kernel_rfl) ?_) ?_
  · refine wpE_seq (x := c_codec_Reader_Fixed_1_1) (y := c_codec_Reader_Fixed_1_3) (by kernel_rfl) ?_
    refine wpE_region (id := 0) (ops := r_codec_Reader_Fixed_1_1) (by kernel_rfl) ?_
    refine reg_run [.plain, .plain] 2 [(0, [], Value.slice b_.ptr b_.len b_.cap), (1, [], Value.pointer t1), (2, [], Value.pointer t2)] (by kernel_rfl) (by kernel_rfl) ?_
    refine reg_end [(0, Value.slice b_.ptr b_.len b_.cap), (1, Value.pointer t1), (2, Value.pointer t2)] (by kernel_rfl) (by kernel_rfl) ?_
    change WpE _ _ c_codec_Reader_Fixed_1_3 _ _ _
    refine wpE_seq (x := c_codec_Reader_Fixed_1_4) (y := c_codec_Reader_Fixed_1_22) (by kernel_rfl) ?_
    refine wpE_block (id := 0) (x := c_codec_Reader_Fixed_1_5) (by kernel_rfl) ?_
    refine wpE_seq_cut (x := c_codec_Reader_Fixed_1_6) (y := c_codec_Reader_Fixed_1_8) (by kernel_rfl) (fun l w => ∃ (t7 : Bool), l = [(0, Value.slice b_.ptr b_.len b_.cap), (1, Value.pointer t1), (2, Value.pointer t2), (7, Value.bool t7)] ∧ F_codec_Reader_Fixed_1_k0 b_ t1 t2 R t7 w) ?_ ?_
    · refine wpE_region (id := 1) (ops := r_codec_Reader_Fixed_1_6) (by kernel_rfl) ?_
      refine reg_run [] 0 [(0, [], Value.slice b_.ptr b_.len b_.cap), (1, [], Value.pointer t1), (2, [], Value.pointer t2)] (by kernel_rfl) (by kernel_rfl) ?_
      obtain ⟨hp_20, h⟩ := h
      refine reg_conv [(0, [], Value.slice b_.ptr b_.len b_.cap), (1, [], Value.pointer (some ⟨(pblk t1), (poff t1), none⟩)), (2, [], Value.pointer t2)] (congrArg (fun pp => ([(0, [], Value.slice b_.ptr b_.len b_.cap), (1, [], Value.pointer pp), (2, [], Value.pointer t2)] : GEnv)) hp_20) ?_
      obtain ⟨v8, hc, h⟩ := h
      refine reg_load1 (t := 3) (a := (Go.Operand.tmp 1)) (b := (pblk t1)) (o := (poff t1)) (ty := 3) (dst := some 8) (by kernel_rfl) (by kernel_rfl) (by kernel_rfl) hc ?_
      refine reg_run [.plain, .plain] 3 [(0, [], Value.slice b_.ptr b_.len b_.cap), (1, [], Value.pointer (some ⟨(pblk t1), (poff t1), none⟩)), (2, [], Value.pointer t2), (10, [], Value.bool (decide (v8 < 1)))] (by kernel_rfl) (by kernel_rfl) ?_
      refine reg_split 10 (decide (v8 < 1)) (by kernel_rfl) (fun hb => ?_) (fun hb => ?_)
      · replace h := h.1 hb
        refine reg_run [] 3 [(0, [], Value.slice b_.ptr b_.len b_.cap), (1, [], Value.pointer (some ⟨(pblk t1), (poff t1), none⟩)), (2, [], Value.pointer t2), (10, [], Value.bool true)] (by kernel_rfl) (by kernel_rfl) ?_
        refine reg_run [.skip, .skip, .plain, .plain] 7 [(0, [], Value.slice b_.ptr b_.len b_.cap), (1, [], Value.pointer (some ⟨(pblk t1), (poff t1), none⟩)), (2, [], Value.pointer t2), (7, [], Value.bool true)] (by kernel_rfl) (by kernel_rfl) ?_
        refine reg_conv [(0, [], Value.slice b_.ptr b_.len b_.cap), (1, [], Value.pointer t1), (2, [], Value.pointer t2), (7, [], Value.bool true)] (congrArg (fun pp => ([(0, [], Value.slice b_.ptr b_.len b_.cap), (1, [], Value.pointer pp), (2, [], Value.pointer t2), (7, [], Value.bool true)] : GEnv)) hp_20.symm) ?_
        refine reg_end [(0, Value.slice b_.ptr b_.len b_.cap), (1, Value.pointer t1), (2, Value.pointer t2), (7, Value.bool true)] (by kernel_rfl) (by kernel_rfl) ?_
        exact ⟨[(0, Value.slice b_.ptr b_.len b_.cap), (1, Value.pointer t1), (2, Value.pointer t2), (7, Value.bool true)], Sub.mk (by kernel_rfl), true, rfl, h⟩
      · replace h := h.2 hb
        refine reg_run [] 3 [(0, [], Value.slice b_.ptr b_.len b_.cap), (1, [], Value.pointer (some ⟨(pblk t1), (poff t1), none⟩)), (2, [], Value.pointer t2), (10, [], Value.bool false)] (by kernel_rfl) (by kernel_rfl) ?_
        refine reg_run [] 3 [(0, [], Value.slice b_.ptr b_.len b_.cap), (1, [], Value.pointer (some ⟨(pblk t1), (poff t1), none⟩)), (2, [], Value.pointer t2), (10, [], Value.bool false)] (by kernel_rfl) (by kernel_rfl) ?_
        obtain ⟨v11, hc, h⟩ := h
        refine reg_load1 (t := 3) (a := (Go.Operand.tmp 1)) (b := (pblk t1)) (o := (poff t1)) (ty := 3) (dst := some 11) (by kernel_rfl) (by kernel_rfl) (by kernel_rfl) hc ?_
        refine reg_run [.sure, .plain, .plain] 7 [(0, [], Value.slice b_.ptr b_.len b_.cap), (1, [], Value.pointer (some ⟨(pblk t1), (poff t1), none⟩)), (2, [], Value.pointer t2), (7, [], Value.bool (decide (v11 > 8)))] (by kernel_rfl) (by kernel_rfl) ?_
        refine reg_conv [(0, [], Value.slice b_.ptr b_.len b_.cap), (1, [], Value.pointer t1), (2, [], Value.pointer t2), (7, [], Value.bool (decide (v11 > 8)))] (congrArg (fun pp => ([(0, [], Value.slice b_.ptr b_.len b_.cap), (1, [], Value.pointer pp), (2, [], Value.pointer t2), (7, [], Value.bool (decide (v11 > 8)))] : GEnv)) hp_20.symm) ?_
        refine reg_end [(0, Value.slice b_.ptr b_.len b_.cap), (1, Value.pointer t1), (2, Value.pointer t2), (7, Value.bool (decide (v11 > 8)))] (by kernel_rfl) (by kernel_rfl) ?_
        exact ⟨[(0, Value.slice b_.ptr b_.len b_.cap), (1, Value.pointer t1), (2, Value.pointer t2), (7, Value.bool (decide (v11 > 8)))], Sub.mk (by kernel_rfl), (decide (v11 > 8)), rfl, h⟩
    · rintro _ w1 ⟨t7, rfl, h⟩
      unfold F_codec_Reader_Fixed_1_k0 at h
      refine wpE_cond (o := (Operand.tmp 7)) (b := t7) (x := c_codec_Reader_Fixed_1_9) (y := c_codec_Reader_Fixed_1_13) (by kernel_rfl) (by kernel_rfl) (fun hb => ?_) (fun hb => ?_)
      · replace h := h.1 hb
        refine wpE_seq (x := c_codec_Reader_Fixed_1_10) (y := c_codec_Reader_Fixed_1_12) (by kernel_rfl) ?_
        refine wpE_region (id := 2) (ops := r_codec_Reader_Fixed_1_10) (by kernel_rfl) ?_
        refine reg_run [.plain, .plain] 2 [(4, [], Value.int .i64 0), (5, [], Value.int .i64 1)] (by kernel_rfl) (by kernel_rfl) ?_
        refine reg_end [(4, Value.int .i64 0), (5, Value.int .i64 1)] (by kernel_rfl) (by kernel_rfl) ?_
        change WpE _ _ c_codec_Reader_Fixed_1_12 _ _ _
        refine wpE_ret (by kernel_rfl) ?_
        repeat (first | refine seqQ_ret ?_ | refine blockQ_ret ?_ | refine loopQ_ret ?_ | refine cutQ_ret ?_)
        exact retT (rs := [(Go.ResultVar.tmp 4), (Go.ResultVar.tmp 5)]) (vs := [Value.int .i64 0, Value.int .i64 1]) (by kernel_rfl) (⟨by kernel_rfl, ⟨by kernel_rfl, trivial⟩⟩) (by kernel_rfl) ⟨0, 1, rfl, h⟩
      · replace h := h.2 hb
        refine wpE_seq (x := c_codec_Reader_Fixed_1_14) (y := c_codec_Reader_Fixed_1_16) (by kernel_rfl) ?_
        refine wpE_region (id := 3) (ops := r_codec_Reader_Fixed_1_14) (by kernel_rfl) ?_
        refine reg_run [] 0 [(0, [], Value.slice b_.ptr b_.len b_.cap), (1, [], Value.pointer t1), (2, [], Value.pointer t2)] (by kernel_rfl) (by kernel_rfl) ?_
        obtain ⟨hp_6, h⟩ := h
        refine reg_conv [(0, [], Value.slice b_.ptr b_.len b_.cap), (1, [], Value.pointer (some ⟨(pblk t1), (poff t1), none⟩)), (2, [], Value.pointer t2)] (congrArg (fun pp => ([(0, [], Value.slice b_.ptr b_.len b_.cap), (1, [], Value.pointer pp), (2, [], Value.pointer t2)] : GEnv)) hp_6) ?_
        obtain ⟨v15, hc, h⟩ := h
        refine reg_load1 (t := 3) (a := (Go.Operand.tmp 1)) (b := (pblk t1)) (o := (poff t1)) (ty := 3) (dst := some 15) (by kernel_rfl) (by kernel_rfl) (by kernel_rfl) hc ?_
        refine reg_run [.plain, .plain, .plain, .plain] 5 [(0, [], Value.slice b_.ptr b_.len b_.cap), (1, [], Value.pointer (some ⟨(pblk t1), (poff t1), none⟩)), (2, [], Value.pointer t2), (14, [], Value.bool (decide (v15 > ((b_.len : Nat) : Int))))] (by kernel_rfl) (by kernel_rfl) ?_
        refine reg_conv [(0, [], Value.slice b_.ptr b_.len b_.cap), (1, [], Value.pointer t1), (2, [], Value.pointer t2), (14, [], Value.bool (decide (v15 > ((b_.len : Nat) : Int))))] (congrArg (fun pp => ([(0, [], Value.slice b_.ptr b_.len b_.cap), (1, [], Value.pointer pp), (2, [], Value.pointer t2), (14, [], Value.bool (decide (v15 > ((b_.len : Nat) : Int))))] : GEnv)) hp_6.symm) ?_
        refine reg_end [(0, Value.slice b_.ptr b_.len b_.cap), (1, Value.pointer t1), (2, Value.pointer t2), (14, Value.bool (decide (v15 > ((b_.len : Nat) : Int))))] (by kernel_rfl) (by kernel_rfl) ?_
        change WpE _ _ c_codec_Reader_Fixed_1_16 _ _ _
        refine wpE_cond (o := (Operand.tmp 14)) (b := (decide (v15 > ((b_.len : Nat) : Int)))) (x := c_codec_Reader_Fixed_1_17) (y := c_codec_Reader_Fixed_1_21) (by kernel_rfl) (by kernel_rfl) (fun hb => ?_) (fun hb => ?_)
        · replace h := h.1 hb
          refine wpE_seq (x := c_codec_Reader_Fixed_1_18) (y := c_codec_Reader_Fixed_1_20) (by kernel_rfl) ?_
          refine wpE_region (id := 4) (ops := r_codec_Reader_Fixed_1_18) (by kernel_rfl) ?_
          refine reg_run [.plain, .plain] 2 [(4, [], Value.int .i64 0), (5, [], Value.int .i64 5)] (by kernel_rfl) (by kernel_rfl) ?_
          refine reg_end [(4, Value.int .i64 0), (5, Value.int .i64 5)] (by kernel_rfl) (by kernel_rfl) ?_
          change WpE _ _ c_codec_Reader_Fixed_1_20 _ _ _
          refine wpE_ret (by kernel_rfl) ?_
          repeat (first | refine seqQ_ret ?_ | refine blockQ_ret ?_ | refine loopQ_ret ?_ | refine cutQ_ret ?_)
          exact retT (rs := [(Go.ResultVar.tmp 4), (Go.ResultVar.tmp 5)]) (vs := [Value.int .i64 0, Value.int .i64 5]) (by kernel_rfl) (⟨by kernel_rfl, ⟨by kernel_rfl, trivial⟩⟩) (by kernel_rfl) ⟨0, 5, rfl, h⟩
        · replace h := h.2 hb
          refine wpE_skip (by kernel_rfl) ?_
          change WpE _ _ c_codec_Reader_Fixed_1_22 _ _ _
          refine wpE_seq (x := c_codec_Reader_Fixed_1_23) (y := c_codec_Reader_Fixed_1_41) (by kernel_rfl) ?_
          refine wpE_seq (x := c_codec_Reader_Fixed_1_24) (y := c_codec_Reader_Fixed_1_26) (by kernel_rfl) ?_
          refine wpE_region (id := 5) (ops := r_codec_Reader_Fixed_1_24) (by kernel_rfl) ?_
          refine reg_run [] 0 [(0, [], Value.slice b_.ptr b_.len b_.cap), (1, [], Value.pointer t1), (2, [], Value.pointer t2)] (by kernel_rfl) (by kernel_rfl) ?_
          obtain ⟨hp_14, h⟩ := h
          refine reg_conv [(0, [], Value.slice b_.ptr b_.len b_.cap), (1, [], Value.pointer (some ⟨(pblk t1), (poff t1), none⟩)), (2, [], Value.pointer t2)] (congrArg (fun pp => ([(0, [], Value.slice b_.ptr b_.len b_.cap), (1, [], Value.pointer pp), (2, [], Value.pointer t2)] : GEnv)) hp_14) ?_
          obtain ⟨v19, hc, h⟩ := h
          refine reg_load1 (t := 3) (a := (Go.Operand.tmp 1)) (b := (pblk t1)) (o := (poff t1)) (ty := 3) (dst := some 19) (by kernel_rfl) (by kernel_rfl) (by kernel_rfl) hc ?_
          refine reg_run [.plain, .plain] 3 [(0, [], Value.slice b_.ptr b_.len b_.cap), (1, [], Value.pointer (some ⟨(pblk t1), (poff t1), none⟩)), (2, [], Value.pointer t2), (6, [], Value.int .i64 (IntKind.i64.wrap (v19 - 1)))] (by kernel_rfl) (by kernel_rfl) ?_
          refine reg_conv [(0, [], Value.slice b_.ptr b_.len b_.cap), (1, [], Value.pointer t1), (2, [], Value.pointer t2), (6, [], Value.int .i64 (IntKind.i64.wrap (v19 - 1)))] (congrArg (fun pp => ([(0, [], Value.slice b_.ptr b_.len b_.cap), (1, [], Value.pointer pp), (2, [], Value.pointer t2), (6, [], Value.int .i64 (IntKind.i64.wrap (v19 - 1)))] : GEnv)) hp_14.symm) ?_
          refine reg_end [(0, Value.slice b_.ptr b_.len b_.cap), (1, Value.pointer t1), (2, Value.pointer t2), (6, Value.int .i64 (IntKind.i64.wrap (v19 - 1)))] (by kernel_rfl) (by kernel_rfl) ?_
          change WpE _ _ c_codec_Reader_Fixed_1_26 _ _ _
          refine wpE_block (id := 1) (x := c_codec_Reader_Fixed_1_27) (by kernel_rfl) ?_
          obtain ⟨I, μ, h0, hr⟩ := h
          refine wpE_loop (x := c_codec_Reader_Fixed_1_28) (by kernel_rfl) (fun m l w => ∃ (i : Int), l = [(0, Value.slice b_.ptr b_.len b_.cap), (1, Value.pointer t1), (2, Value.pointer t2), (6, Value.int .i64 i)] ∧ I i w ∧ μ i w = m) (l' := [(0, Value.slice b_.ptr b_.len b_.cap), (1, Value.pointer t1), (2, Value.pointer t2), (6, Value.int .i64 (IntKind.i64.wrap (v19 - 1)))]) (Sub.mk (by kernel_rfl)) ⟨(IntKind.i64.wrap (v19 - 1)), rfl, h0, rfl⟩ ?_
          rintro _ _ w2 ⟨i, rfl, hI, rfl⟩
          obtain ⟨again_, again__h, h⟩ : ∃ again_ : Int → World → Prop, (∀ i' w', again_ i' w' → I i' w' ∧ μ i' w' < μ i w2) ∧ F_codec_Reader_Fixed_1_L1 b_ t1 t2 R again_ i w2 := ⟨_, fun _ _ h => h, hr i w2 hI⟩
          clear h0 hI
          unfold F_codec_Reader_Fixed_1_L1 at h
          refine wpE_seq (x := c_codec_Reader_Fixed_1_29) (y := c_codec_Reader_Fixed_1_35) (by kernel_rfl) ?_
          refine wpE_seq (x := c_codec_Reader_Fixed_1_30) (y := c_codec_Reader_Fixed_1_32) (by kernel_rfl) ?_
          refine wpE_region (id := 6) (ops := r_codec_Reader_Fixed_1_30) (by kernel_rfl) ?_
          refine reg_run [.plain, .plain] 2 [(0, [], Value.slice b_.ptr b_.len b_.cap), (1, [], Value.pointer t1), (2, [], Value.pointer t2), (6, [], Value.int .i64 i), (22, [], Value.bool (decide (i ≥ 0)))] (by kernel_rfl) (by kernel_rfl) ?_
          refine reg_end [(0, Value.slice b_.ptr b_.len b_.cap), (1, Value.pointer t1), (2, Value.pointer t2), (6, Value.int .i64 i), (22, Value.bool (decide (i ≥ 0)))] (by kernel_rfl) (by kernel_rfl) ?_
          change WpE _ _ c_codec_Reader_Fixed_1_32 _ _ _
          refine wpE_cond (o := (Operand.tmp 22)) (b := (decide (i ≥ 0))) (x := c_codec_Reader_Fixed_1_33) (y := c_codec_Reader_Fixed_1_34) (by kernel_rfl) (by kernel_rfl) (fun hb => ?_) (fun hb => ?_)
          · replace h := h.1 hb
            refine wpE_skip (by kernel_rfl) ?_
            change WpE _ _ c_codec_Reader_Fixed_1_35 _ _ _
            refine wpE_seq (x := c_codec_Reader_Fixed_1_36) (y := c_codec_Reader_Fixed_1_39) (by kernel_rfl) ?_
            refine wpE_block (id := 2) (x := c_codec_Reader_Fixed_1_37) (by kernel_rfl) ?_
            refine wpE_tailregion (id := 8) (ops := r_codec_Reader_Fixed_1_37) (by kernel_rfl) 8 (by kernel_rfl) (by kernel_rfl) (fun w3 hw => ?_)
            replace h := h w3 hw
            clear hw
            refine qreg_run [] 0 [(0, [], Value.slice b_.ptr b_.len b_.cap), (1, [], Value.pointer t1), (2, [], Value.pointer t2), (6, [], Value.int .i64 i)] (by kernel_rfl) (by kernel_rfl) ?_
            obtain ⟨hp_17, h⟩ := h
            refine qreg_conv [(0, [], Value.slice b_.ptr b_.len b_.cap), (1, [], Value.pointer t1), (2, [], Value.pointer (some ⟨(pblk t2), (poff t2), none⟩)), (6, [], Value.int .i64 i)] (congrArg (fun pp => ([(0, [], Value.slice b_.ptr b_.len b_.cap), (1, [], Value.pointer t1), (2, [], Value.pointer pp), (6, [], Value.int .i64 i)] : GEnv)) hp_17) ?_
            obtain ⟨v25, hc, h⟩ := h
            refine qreg_load1 (t := 84) (a := (Go.Operand.tmp 2)) (b := (pblk t2)) (o := (poff t2)) (ty := 84) (dst := some 25) (by kernel_rfl) (by kernel_rfl) (by kernel_rfl) hc ?_
            refine qreg_run [.plain, .plain, .plain] 4 [(0, [], Value.slice b_.ptr b_.len b_.cap), (1, [], Value.pointer t1), (2, [], Value.pointer (some ⟨(pblk t2), (poff t2), none⟩)), (6, [], Value.int .i64 i), (26, [], Value.int .u64 (IntKind.u64.wrap (v25 * 2 ^ 8))), (27, [], Value.slice b_.ptr b_.len b_.cap), (28, [], Value.int .i64 i)] (by kernel_rfl) (by kernel_rfl) ?_
            obtain ⟨hp_18, h⟩ := h
            refine qreg_conv [(0, [], Value.slice b_.ptr b_.len b_.cap), (1, [], Value.pointer t1), (2, [], Value.pointer (some ⟨(pblk t2), (poff t2), none⟩)), (6, [], Value.int .i64 i), (26, [], Value.int .u64 (IntKind.u64.wrap (v25 * 2 ^ 8))), (27, [], Value.slice (some ⟨(pblk b_.ptr), (poff b_.ptr), none⟩) b_.len b_.cap), (28, [], Value.int .i64 i)] (congrArg (fun pp => ([(0, [], Value.slice b_.ptr b_.len b_.cap), (1, [], Value.pointer t1), (2, [], Value.pointer (some ⟨(pblk t2), (poff t2), none⟩)), (6, [], Value.int .i64 i), (26, [], Value.int .u64 (IntKind.u64.wrap (v25 * 2 ^ 8))), (27, [], Value.slice pp b_.len b_.cap), (28, [], Value.int .i64 i)] : GEnv)) hp_18) ?_
            obtain ⟨h0, h1, h⟩ := h
            refine qreg_indexS1 (t := 22) (e := 5) (x := (Go.Operand.tmp 27)) (ix := (Go.Operand.tmp 28)) (b := (pblk b_.ptr)) (o := (poff b_.ptr)) (l := b_.len) (c := b_.cap) (k := .i64) (j := i) (ty := 0) (dst := some 29) (by kernel_rfl) (by kernel_rfl) (by kernel_rfl) (by kernel_rfl) (by kernel_rfl) h0 h1 ?_
            refine qreg_run [] 5 [(0, [], Value.slice b_.ptr b_.len b_.cap), (1, [], Value.pointer t1), (2, [], Value.pointer (some ⟨(pblk t2), (poff t2), none⟩)), (6, [], Value.int .i64 i), (26, [], Value.int .u64 (IntKind.u64.wrap (v25 * 2 ^ 8))), (29, [], Value.pointer (some ⟨(pblk b_.ptr), (poff b_.ptr) + i.toNat, none⟩))] (by kernel_rfl) (by kernel_rfl) ?_
            obtain ⟨v30, hc, h⟩ := h
            refine qreg_load1 (t := 5) (a := (Go.Operand.tmp 29)) (b := (pblk b_.ptr)) (o := ((poff b_.ptr) + i.toNat)) (ty := 5) (dst := some 30) (by kernel_rfl) (by kernel_rfl) (by kernel_rfl) hc ?_
            refine qreg_run [.plain, .plain] 8 [(0, [], Value.slice b_.ptr b_.len b_.cap), (1, [], Value.pointer t1), (2, [], Value.pointer (some ⟨(pblk t2), (poff t2), none⟩)), (6, [], Value.int .i64 i), (32, [], Value.int .u64 (bor .u64 (IntKind.u64.wrap (v25 * 2 ^ 8)) (IntKind.u64.wrap v30)))] (by kernel_rfl) (by kernel_rfl) ?_
            refine qreg_tail (by kernel_rfl) ?_
            refine reg_run [] 8 [(0, [], Value.slice b_.ptr b_.len b_.cap), (1, [], Value.pointer t1), (2, [], Value.pointer (some ⟨(pblk t2), (poff t2), none⟩)), (6, [], Value.int .i64 i), (32, [], Value.int .u64 (bor .u64 (IntKind.u64.wrap (v25 * 2 ^ 8)) (IntKind.u64.wrap v30)))] (by kernel_rfl) (by kernel_rfl) ?_
            obtain ⟨hc, h⟩ := h
            refine reg_store (t := 84) (a := (Go.Operand.tmp 2)) (x := (Go.Operand.tmp 32)) (b := (pblk t2)) (o := (poff t2)) (ty := 0) (dst := none) [Value.int .u64 (bor .u64 (IntKind.u64.wrap (v25 * 2 ^ 8)) (IntKind.u64.wrap v30))] (by kernel_rfl) (by kernel_rfl) (by kernel_rfl) (k := 1) (by kernel_rfl) (by kernel_rfl) (by kernel_rfl) hc (fun w4 hw => ?_)
            replace h := h w4 hw
            clear hw
            refine reg_run [] 9 [(0, [], Value.slice b_.ptr b_.len b_.cap), (1, [], Value.pointer t1), (2, [], Value.pointer (some ⟨(pblk t2), (poff t2), none⟩)), (6, [], Value.int .i64 i)] (by kernel_rfl) (by kernel_rfl) ?_
            refine reg_conv [(0, [], Value.slice b_.ptr b_.len b_.cap), (1, [], Value.pointer t1), (2, [], Value.pointer t2), (6, [], Value.int .i64 i)] (congrArg (fun pp => ([(0, [], Value.slice b_.ptr b_.len b_.cap), (1, [], Value.pointer t1), (2, [], Value.pointer pp), (6, [], Value.int .i64 i)] : GEnv)) hp_17.symm) ?_
            refine reg_end [(0, Value.slice b_.ptr b_.len b_.cap), (1, Value.pointer t1), (2, Value.pointer t2), (6, Value.int .i64 i)] (by kernel_rfl) (by kernel_rfl) ?_
            change WpE _ _ c_codec_Reader_Fixed_1_39 _ _ _
            refine wpE_region (id := 7) (ops := r_codec_Reader_Fixed_1_39) (by kernel_rfl) ?_
            refine reg_run [.plain, .plain, .plain] 3 [(0, [], Value.slice b_.ptr b_.len b_.cap), (1, [], Value.pointer t1), (2, [], Value.pointer t2), (6, [], Value.int .i64 (IntKind.i64.wrap (i - 1)))] (by kernel_rfl) (by kernel_rfl) ?_
            refine reg_end [(0, Value.slice b_.ptr b_.len b_.cap), (1, Value.pointer t1), (2, Value.pointer t2), (6, Value.int .i64 (IntKind.i64.wrap (i - 1)))] (by kernel_rfl) (by kernel_rfl) ?_
            have hb_ := again__h _ _ h
            exact ⟨_, hb_.2, [(0, Value.slice b_.ptr b_.len b_.cap), (1, Value.pointer t1), (2, Value.pointer t2), (6, Value.int .i64 (IntKind.i64.wrap (i - 1)))], Sub.mk (by kernel_rfl), (IntKind.i64.wrap (i - 1)), rfl, hb_.1, rfl⟩
          · replace h := h.2 hb
            refine wpE_exit (id := 1) (by kernel_rfl) ?_
            change WpE _ _ c_codec_Reader_Fixed_1_41 _ _ _
            refine wpE_seq (x := c_codec_Reader_Fixed_1_42) (y := c_codec_Reader_Fixed_1_44) (by kernel_rfl) ?_
            refine wpE_region (id := 9) (ops := r_codec_Reader_Fixed_1_42) (by kernel_rfl) ?_
            refine reg_run [] 0 [(1, [], Value.pointer t1)] (by kernel_rfl) (by kernel_rfl) ?_
            obtain ⟨hp_19, h⟩ := h
            refine reg_conv [(1, [], Value.pointer (some ⟨(pblk t1), (poff t1), none⟩))] (congrArg (fun pp => ([(1, [], Value.pointer pp)] : GEnv)) hp_19) ?_
            obtain ⟨v33, hc, h⟩ := h
            refine reg_load1 (t := 3) (a := (Go.Operand.tmp 1)) (b := (pblk t1)) (o := (poff t1)) (ty := 3) (dst := some 33) (by kernel_rfl) (by kernel_rfl) (by kernel_rfl) hc ?_
            refine reg_run [.plain, .plain] 3 [(4, [], Value.int .i64 v33), (5, [], Value.int .i64 0)] (by kernel_rfl) (by kernel_rfl) ?_
            refine reg_end [(4, Value.int .i64 v33), (5, Value.int .i64 0)] (by kernel_rfl) (by kernel_rfl) ?_
            change WpE _ _ c_codec_Reader_Fixed_1_44 _ _ _
            refine wpE_ret (by kernel_rfl) ?_
            repeat (first | refine seqQ_ret ?_ | refine blockQ_ret ?_ | refine loopQ_ret ?_ | refine cutQ_ret ?_)
            exact retT (rs := [(Go.ResultVar.tmp 4), (Go.ResultVar.tmp 5)]) (vs := [Value.int .i64 v33, Value.int .i64 0]) (by kernel_rfl) (⟨by kernel_rfl, ⟨by kernel_rfl, trivial⟩⟩) (by kernel_rfl) ⟨v33, 0, rfl, h⟩
  · rintro e w' ⟨v, rfl, r0, r1, rfl, h⟩; exact ⟨r0, r1, rfl, h⟩

/-! ### (*towpath/codec.Writer).gone (function 90) -/
noncomputable def c_codec_Writer_gone_0 : Code := (Try.f90.body).getD Code.skip
noncomputable def c_codec_Writer_gone_1 : Code := Code.l c_codec_Writer_gone_0
noncomputable def r_codec_Writer_gone_1 : Array Oper := Code.ops c_codec_Writer_gone_1
noncomputable def c_codec_Writer_gone_3 : Code := Code.r c_codec_Writer_gone_0
noncomputable def c_codec_Writer_gone_4 : Code := Code.l c_codec_Writer_gone_3
noncomputable def r_codec_Writer_gone_4 : Array Oper := Code.ops c_codec_Writer_gone_4
noncomputable def c_codec_Writer_gone_6 : Code := Code.r c_codec_Writer_gone_3

set_option maxRecDepth 100000 in
set_option maxHeartbeats 4000000 in
theorem S_codec_Writer_gone {w_ : Option Addr} {w : World} {R : Bool → World → Prop} (h : F_codec_Writer_gone w_ R w) : C_codec_Writer_gone w_ w R := by
  unfold F_codec_Writer_gone at h
  unfold C_codec_Writer_gone
  refine Calls.mono (calls_of_wpE (args := [Value.pointer w_]) (R := fun v w' => ∃ (r0 : Bool), v = Value.bool r0 ∧ R r0 w') Try.func90 (c := c_codec_Writer_gone_0) (by kernel_rfl) 12 (by kernel_rfl) (by kernel_rfl) [(0, Value.pointer w_)] (by kernel_rfl) ?_) ?_
  · refine wpE_seq (x := c_codec_Writer_gone_1) (y := c_codec_Writer_gone_3) (by kernel_rfl) ?_
    refine wpE_region (id := 0) (ops := r_codec_Writer_gone_1) (by kernel_rfl) ?_
    refine reg_run [.plain] 1 [(0, [], Value.pointer w_)] (by kernel_rfl) (by kernel_rfl) ?_
    refine reg_end [(0, Value.pointer w_)] (by kernel_rfl) (by kernel_rfl) ?_
    change WpE _ _ c_codec_Writer_gone_3 _ _ _
    refine wpE_seq (x := c_codec_Writer_gone_4) (y := c_codec_Writer_gone_6) (by kernel_rfl) ?_
    refine wpE_region (id := 1) (ops := r_codec_Writer_gone_4) (by kernel_rfl) ?_
    refine reg_run [.plain] 1 [(0, [], Value.pointer w_), (3, [], Value.pointer w_)] (by kernel_rfl) (by kernel_rfl) ?_
    refine reg_val (op := (Go.Op.binOp Go.BinOp.eql 116 (Go.Operand.tmp 3) (Go.Operand.const (Go.Value.pointer none)) 116)) (ty := 4) (dst := some 4) (Value.bool w_.isNone) (by kernel_rfl) (fun ww => run_ptr_eql_R (p := w_) (by kernel_rfl) (by kernel_rfl) (by kernel_rfl) ww) ?_
    refine reg_run [.plain, .plain] 4 [(5, [], Value.bool w_.isNone), (6, [(5, false)], Value.pointer w_)] (by kernel_rfl) (by kernel_rfl) ?_
    refine reg_split 5 w_.isNone (by kernel_rfl) (fun hb => ?_) (fun hb => ?_)
    · replace h := h.1 hb
      refine reg_run [] 4 [(5, [], Value.bool true), (6, [], undef)] (by kernel_rfl) (by kernel_rfl) ?_
      refine reg_run [.skip, .skip, .skip, .skip, .plain, .plain] 10 [(2, [], Value.bool true)] (by kernel_rfl) (by kernel_rfl) ?_
      refine reg_end [(2, Value.bool true)] (by kernel_rfl) (by kernel_rfl) ?_
      change WpE _ _ c_codec_Writer_gone_6 _ _ _
      refine wpE_ret (by kernel_rfl) ?_
      repeat (first | refine seqQ_ret ?_ | refine blockQ_ret ?_ | refine loopQ_ret ?_ | refine cutQ_ret ?_)
      exact retS (rs := [(Go.ResultVar.tmp 2)]) (v := Value.bool true) (by kernel_rfl) (⟨by kernel_rfl, trivial⟩) ⟨true, rfl, h⟩
    · replace h := h.2 hb
      refine reg_run [] 4 [(5, [], Value.bool false), (6, [], Value.pointer w_)] (by kernel_rfl) (by kernel_rfl) ?_
      refine reg_run [] 4 [(5, [], Value.bool false), (6, [], Value.pointer w_)] (by kernel_rfl) (by kernel_rfl) ?_
      obtain ⟨hp_0, h⟩ := h
      refine reg_conv [(5, [], Value.bool false), (6, [], Value.pointer (some ⟨(pblk w_), (poff w_), none⟩))] (congrArg (fun pp => ([(5, [], Value.bool false), (6, [], Value.pointer pp)] : GEnv)) hp_0) ?_
      refine reg_run [.sure] 5 [(5, [], Value.bool false), (6, [], Value.pointer (some ⟨(pblk w_), (poff w_), none⟩)), (7, [], Value.pointer (some ⟨(pblk w_), (poff w_), none⟩))] (by kernel_rfl) (by kernel_rfl) ?_
      refine reg_run [.sure] 6 [(5, [], Value.bool false), (8, [], Value.pointer (some ⟨(pblk w_), (poff w_), none⟩))] (by kernel_rfl) (by kernel_rfl) ?_
      obtain ⟨v9, hc, h⟩ := h
      refine reg_load1 (t := 4) (a := (Go.Operand.tmp 8)) (b := (pblk w_)) (o := (poff w_)) (ty := 4) (dst := some 9) (by kernel_rfl) (by kernel_rfl) (by kernel_rfl) hc ?_
      refine reg_run [.sure, .plain, .plain] 10 [(2, [], Value.bool (!v9))] (by kernel_rfl) (by kernel_rfl) ?_
      refine reg_end [(2, Value.bool (!v9))] (by kernel_rfl) (by kernel_rfl) ?_
      change WpE _ _ c_codec_Writer_gone_6 _ _ _
      refine wpE_ret (by kernel_rfl) ?_
      repeat (first | refine seqQ_ret ?_ | refine blockQ_ret ?_ | refine loopQ_ret ?_ | refine cutQ_ret ?_)
      exact retS (rs := [(Go.ResultVar.tmp 2)]) (v := Value.bool (!v9)) (by kernel_rfl) (⟨by kernel_rfl, trivial⟩) ⟨(!v9), rfl, h⟩
  · rintro e w' ⟨v, rfl, r0, rfl, h⟩; exact ⟨r0, rfl, h⟩
end Go.Proofs.Ytfmkemmgakdddaa
