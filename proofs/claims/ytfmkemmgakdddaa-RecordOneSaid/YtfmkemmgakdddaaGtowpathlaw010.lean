/- WRITTEN BY PROGRAM (dec.py): for each Go function the clean formula F, the call's contract C, and the proof S that F gives C. -/
import Derived.Test.YtfmkemmgakdddaaRows
import Derived.Test.YtfmkemmgakdddaaGF
namespace Go.Proofs.Ytfmkemmgakdddaa
open Go
set_option linter.unusedVariables false

/-! ### towpath/towpathlaw01.Beyond (function 10) -/
noncomputable def c_towpathlaw01_Beyond_0 : Code := (Try.f10.body).getD Code.skip
noncomputable def c_towpathlaw01_Beyond_1 : Code := Code.l c_towpathlaw01_Beyond_0
noncomputable def r_towpathlaw01_Beyond_1 : Array Oper := Code.ops c_towpathlaw01_Beyond_1
noncomputable def c_towpathlaw01_Beyond_3 : Code := Code.r c_towpathlaw01_Beyond_0
noncomputable def c_towpathlaw01_Beyond_4 : Code := Code.l c_towpathlaw01_Beyond_3
noncomputable def r_towpathlaw01_Beyond_4 : Array Oper := Code.ops c_towpathlaw01_Beyond_4
noncomputable def c_towpathlaw01_Beyond_6 : Code := Code.r c_towpathlaw01_Beyond_3
noncomputable def c_towpathlaw01_Beyond_7 : Code := Code.l c_towpathlaw01_Beyond_6
noncomputable def c_towpathlaw01_Beyond_8 : Code := Code.l c_towpathlaw01_Beyond_7
noncomputable def r_towpathlaw01_Beyond_8 : Array Oper := Code.ops c_towpathlaw01_Beyond_8
noncomputable def c_towpathlaw01_Beyond_10 : Code := Code.r c_towpathlaw01_Beyond_7
noncomputable def c_towpathlaw01_Beyond_11 : Code := Code.l c_towpathlaw01_Beyond_10
noncomputable def c_towpathlaw01_Beyond_12 : Code := Code.l c_towpathlaw01_Beyond_11
noncomputable def c_towpathlaw01_Beyond_13 : Code := Code.l c_towpathlaw01_Beyond_12
noncomputable def c_towpathlaw01_Beyond_14 : Code := Code.l c_towpathlaw01_Beyond_13
noncomputable def r_towpathlaw01_Beyond_14 : Array Oper := Code.ops c_towpathlaw01_Beyond_14
noncomputable def c_towpathlaw01_Beyond_16 : Code := Code.r c_towpathlaw01_Beyond_13
noncomputable def c_towpathlaw01_Beyond_17 : Code := Code.l c_towpathlaw01_Beyond_16
noncomputable def c_towpathlaw01_Beyond_18 : Code := Code.r c_towpathlaw01_Beyond_16
noncomputable def c_towpathlaw01_Beyond_19 : Code := Code.r c_towpathlaw01_Beyond_12
noncomputable def c_towpathlaw01_Beyond_20 : Code := Code.l c_towpathlaw01_Beyond_19
noncomputable def c_towpathlaw01_Beyond_21 : Code := Code.l c_towpathlaw01_Beyond_20
noncomputable def c_towpathlaw01_Beyond_22 : Code := Code.l c_towpathlaw01_Beyond_21
noncomputable def r_towpathlaw01_Beyond_22 : Array Oper := Code.ops c_towpathlaw01_Beyond_22
noncomputable def c_towpathlaw01_Beyond_24 : Code := Code.r c_towpathlaw01_Beyond_21
noncomputable def c_towpathlaw01_Beyond_25 : Code := Code.l c_towpathlaw01_Beyond_24
noncomputable def r_towpathlaw01_Beyond_25 : Array Oper := Code.ops c_towpathlaw01_Beyond_25
noncomputable def c_towpathlaw01_Beyond_27 : Code := Code.r c_towpathlaw01_Beyond_24
noncomputable def c_towpathlaw01_Beyond_28 : Code := Code.l c_towpathlaw01_Beyond_27
noncomputable def c_towpathlaw01_Beyond_29 : Code := Code.l c_towpathlaw01_Beyond_28
noncomputable def r_towpathlaw01_Beyond_29 : Array Oper := Code.ops c_towpathlaw01_Beyond_29
noncomputable def c_towpathlaw01_Beyond_31 : Code := Code.r c_towpathlaw01_Beyond_28
noncomputable def c_towpathlaw01_Beyond_32 : Code := Code.r c_towpathlaw01_Beyond_27
noncomputable def c_towpathlaw01_Beyond_33 : Code := Code.r c_towpathlaw01_Beyond_19
noncomputable def r_towpathlaw01_Beyond_33 : Array Oper := Code.ops c_towpathlaw01_Beyond_33
noncomputable def c_towpathlaw01_Beyond_35 : Code := Code.r c_towpathlaw01_Beyond_6
noncomputable def c_towpathlaw01_Beyond_36 : Code := Code.l c_towpathlaw01_Beyond_35
noncomputable def r_towpathlaw01_Beyond_36 : Array Oper := Code.ops c_towpathlaw01_Beyond_36
noncomputable def c_towpathlaw01_Beyond_38 : Code := Code.r c_towpathlaw01_Beyond_35

set_option maxRecDepth 100000 in
set_option maxHeartbeats 4000000 in
theorem S_towpathlaw01_Beyond {l_ : Slc} {w : World} {R : Bool → World → Prop} (h : F_towpathlaw01_Beyond l_ R w) : C_towpathlaw01_Beyond l_ w R := by
  unfold F_towpathlaw01_Beyond at h
  unfold C_towpathlaw01_Beyond
  refine Calls.mono (calls_of_wpE (args := [Value.slice l_.ptr l_.len l_.cap]) (R := fun v w' => ∃ (r0 : Bool), v = Value.bool r0 ∧ R r0 w') Try.func10 (c := c_towpathlaw01_Beyond_0) (by kernel_rfl) 19 (by kernel_rfl) (by kernel_rfl) [(0, Value.slice l_.ptr l_.len l_.cap)] (by kernel_rfl) ?_) ?_
  · refine wpE_seq (x := c_towpathlaw01_Beyond_1) (y := c_towpathlaw01_Beyond_3) (by kernel_rfl) ?_
    refine wpE_region (id := 0) (ops := r_towpathlaw01_Beyond_1) (by kernel_rfl) ?_
    refine reg_run [.plain] 1 [(0, [], Value.slice l_.ptr l_.len l_.cap)] (by kernel_rfl) (by kernel_rfl) ?_
    refine reg_end [(0, Value.slice l_.ptr l_.len l_.cap)] (by kernel_rfl) (by kernel_rfl) ?_
    change WpE _ _ c_towpathlaw01_Beyond_3 _ _ _
    refine wpE_seq (x := c_towpathlaw01_Beyond_4) (y := c_towpathlaw01_Beyond_6) (by kernel_rfl) ?_
    refine wpE_region (id := 1) (ops := r_towpathlaw01_Beyond_4) (by kernel_rfl) ?_
    refine reg_run [.plain] 1 [(0, [], Value.slice l_.ptr l_.len l_.cap), (3, [], Value.int .i64 0)] (by kernel_rfl) (by kernel_rfl) ?_
    refine reg_end [(0, Value.slice l_.ptr l_.len l_.cap), (3, Value.int .i64 0)] (by kernel_rfl) (by kernel_rfl) ?_
    change WpE _ _ c_towpathlaw01_Beyond_6 _ _ _
    refine wpE_seq (x := c_towpathlaw01_Beyond_7) (y := c_towpathlaw01_Beyond_35) (by kernel_rfl) ?_
    refine wpE_seq (x := c_towpathlaw01_Beyond_8) (y := c_towpathlaw01_Beyond_10) (by kernel_rfl) ?_
    refine wpE_region (id := 2) (ops := r_towpathlaw01_Beyond_8) (by kernel_rfl) ?_
    refine reg_run [.plain] 1 [(0, [], Value.slice l_.ptr l_.len l_.cap), (3, [], Value.int .i64 0), (4, [], Value.int .i64 0)] (by kernel_rfl) (by kernel_rfl) ?_
    refine reg_end [(0, Value.slice l_.ptr l_.len l_.cap), (3, Value.int .i64 0), (4, Value.int .i64 0)] (by kernel_rfl) (by kernel_rfl) ?_
    change WpE _ _ c_towpathlaw01_Beyond_10 _ _ _
    refine wpE_block (id := 0) (x := c_towpathlaw01_Beyond_11) (by kernel_rfl) ?_
    obtain ⟨I, μ, h0, hr⟩ := h
    refine wpE_loop (x := c_towpathlaw01_Beyond_12) (by kernel_rfl) (fun m l w => ∃ (n_ : Int) (i : Int), l = [(0, Value.slice l_.ptr l_.len l_.cap), (3, Value.int .i64 n_), (4, Value.int .i64 i)] ∧ I n_ i w ∧ μ n_ i w = m) (l' := [(0, Value.slice l_.ptr l_.len l_.cap), (3, Value.int .i64 0), (4, Value.int .i64 0)]) (Sub.mk (by kernel_rfl)) ⟨0, 0, rfl, h0, rfl⟩ ?_
    rintro _ _ w1 ⟨n_, i, rfl, hI, rfl⟩
    obtain ⟨again_, again__h, h⟩ : ∃ again_ : Int → Int → World → Prop, (∀ n_' i' w', again_ n_' i' w' → I n_' i' w' ∧ μ n_' i' w' < μ n_ i w1) ∧ F_towpathlaw01_Beyond_L0 l_ R again_ n_ i w1 := ⟨_, fun _ _ _ h => h, hr n_ i w1 hI⟩
    clear h0 hI
    unfold F_towpathlaw01_Beyond_L0 at h
    refine wpE_seq (x := c_towpathlaw01_Beyond_13) (y := c_towpathlaw01_Beyond_19) (by kernel_rfl) ?_
    refine wpE_seq (x := c_towpathlaw01_Beyond_14) (y := c_towpathlaw01_Beyond_16) (by kernel_rfl) ?_
    refine wpE_region (id := 3) (ops := r_towpathlaw01_Beyond_14) (by kernel_rfl) ?_
    refine reg_run [.plain, .plain, .plain, .plain] 4 [(0, [], Value.slice l_.ptr l_.len l_.cap), (3, [], Value.int .i64 n_), (4, [], Value.int .i64 i), (8, [], Value.bool (decide (i < ((l_.len : Nat) : Int))))] (by kernel_rfl) (by kernel_rfl) ?_
    refine reg_end [(0, Value.slice l_.ptr l_.len l_.cap), (3, Value.int .i64 n_), (4, Value.int .i64 i), (8, Value.bool (decide (i < ((l_.len : Nat) : Int))))] (by kernel_rfl) (by kernel_rfl) ?_
    change WpE _ _ c_towpathlaw01_Beyond_16 _ _ _
    refine wpE_cond (o := (Operand.tmp 8)) (b := (decide (i < ((l_.len : Nat) : Int)))) (x := c_towpathlaw01_Beyond_17) (y := c_towpathlaw01_Beyond_18) (by kernel_rfl) (by kernel_rfl) (fun hb => ?_) (fun hb => ?_)
    · replace h := h.1 hb
      refine wpE_skip (by kernel_rfl) ?_
      change WpE _ _ c_towpathlaw01_Beyond_19 _ _ _
      refine wpE_seq (x := c_towpathlaw01_Beyond_20) (y := c_towpathlaw01_Beyond_33) (by kernel_rfl) ?_
      refine wpE_block (id := 1) (x := c_towpathlaw01_Beyond_21) (by kernel_rfl) ?_
      refine wpE_seq (x := c_towpathlaw01_Beyond_22) (y := c_towpathlaw01_Beyond_24) (by kernel_rfl) ?_
      refine wpE_region (id := 5) (ops := r_towpathlaw01_Beyond_22) (by kernel_rfl) ?_
      refine reg_run [.plain, .plain, .plain] 3 [(0, [], Value.slice l_.ptr l_.len l_.cap), (3, [], Value.int .i64 n_), (4, [], Value.int .i64 i), (11, [], Value.int .i64 n_), (12, [], Value.slice l_.ptr l_.len l_.cap), (13, [], Value.int .i64 i)] (by kernel_rfl) (by kernel_rfl) ?_
      obtain ⟨hp_7, h⟩ := h
      refine reg_conv [(0, [], Value.slice l_.ptr l_.len l_.cap), (3, [], Value.int .i64 n_), (4, [], Value.int .i64 i), (11, [], Value.int .i64 n_), (12, [], Value.slice (some ⟨(pblk l_.ptr), (poff l_.ptr), none⟩) l_.len l_.cap), (13, [], Value.int .i64 i)] (congrArg (fun pp => ([(0, [], Value.slice l_.ptr l_.len l_.cap), (3, [], Value.int .i64 n_), (4, [], Value.int .i64 i), (11, [], Value.int .i64 n_), (12, [], Value.slice pp l_.len l_.cap), (13, [], Value.int .i64 i)] : GEnv)) hp_7) ?_
      obtain ⟨h0, h1, h⟩ := h
      refine reg_indexS1 (t := 63) (e := 3) (x := (Go.Operand.tmp 12)) (ix := (Go.Operand.tmp 13)) (b := (pblk l_.ptr)) (o := (poff l_.ptr)) (l := l_.len) (c := l_.cap) (k := .i64) (j := i) (ty := 0) (dst := some 14) (by kernel_rfl) (by kernel_rfl) (by kernel_rfl) (by kernel_rfl) (by kernel_rfl) h0 h1 ?_
      refine reg_run [] 4 [(0, [], Value.slice l_.ptr l_.len l_.cap), (3, [], Value.int .i64 n_), (4, [], Value.int .i64 i), (11, [], Value.int .i64 n_), (14, [], Value.pointer (some ⟨(pblk l_.ptr), (poff l_.ptr) + i.toNat, none⟩))] (by kernel_rfl) (by kernel_rfl) ?_
      obtain ⟨v15, hc, h⟩ := h
      refine reg_load1 (t := 3) (a := (Go.Operand.tmp 14)) (b := (pblk l_.ptr)) (o := ((poff l_.ptr) + i.toNat)) (ty := 3) (dst := some 15) (by kernel_rfl) (by kernel_rfl) (by kernel_rfl) hc ?_
      refine reg_run [.plain, .plain] 7 [(0, [], Value.slice l_.ptr l_.len l_.cap), (3, [], Value.int .i64 (IntKind.i64.wrap (n_ + v15))), (4, [], Value.int .i64 i)] (by kernel_rfl) (by kernel_rfl) ?_
      refine reg_end [(0, Value.slice l_.ptr l_.len l_.cap), (3, Value.int .i64 (IntKind.i64.wrap (n_ + v15))), (4, Value.int .i64 i)] (by kernel_rfl) (by kernel_rfl) ?_
      change WpE _ _ c_towpathlaw01_Beyond_24 _ _ _
      refine wpE_seq (x := c_towpathlaw01_Beyond_25) (y := c_towpathlaw01_Beyond_27) (by kernel_rfl) ?_
      refine wpE_region (id := 6) (ops := r_towpathlaw01_Beyond_25) (by kernel_rfl) ?_
      refine reg_run [.plain, .plain] 2 [(0, [], Value.slice l_.ptr l_.len l_.cap), (3, [], Value.int .i64 (IntKind.i64.wrap (n_ + v15))), (4, [], Value.int .i64 i), (18, [], Value.bool (decide ((IntKind.i64.wrap (n_ + v15)) > 1048576)))] (by kernel_rfl) (by kernel_rfl) ?_
      refine reg_end [(0, Value.slice l_.ptr l_.len l_.cap), (3, Value.int .i64 (IntKind.i64.wrap (n_ + v15))), (4, Value.int .i64 i), (18, Value.bool (decide ((IntKind.i64.wrap (n_ + v15)) > 1048576)))] (by kernel_rfl) (by kernel_rfl) ?_
      change WpE _ _ c_towpathlaw01_Beyond_27 _ _ _
      refine wpE_cond (o := (Operand.tmp 18)) (b := (decide ((IntKind.i64.wrap (n_ + v15)) > 1048576))) (x := c_towpathlaw01_Beyond_28) (y := c_towpathlaw01_Beyond_32) (by kernel_rfl) (by kernel_rfl) (fun hb => ?_) (fun hb => ?_)
      · replace h := h.1 hb
        refine wpE_seq (x := c_towpathlaw01_Beyond_29) (y := c_towpathlaw01_Beyond_31) (by kernel_rfl) ?_
        refine wpE_region (id := 7) (ops := r_towpathlaw01_Beyond_29) (by kernel_rfl) ?_
        refine reg_run [.plain] 1 [(2, [], Value.bool true)] (by kernel_rfl) (by kernel_rfl) ?_
        refine reg_end [(2, Value.bool true)] (by kernel_rfl) (by kernel_rfl) ?_
        change WpE _ _ c_towpathlaw01_Beyond_31 _ _ _
        refine wpE_ret (by kernel_rfl) ?_
        repeat (first | refine seqQ_ret ?_ | refine blockQ_ret ?_ | refine loopQ_ret ?_ | refine cutQ_ret ?_)
        exact retS (rs := [(Go.ResultVar.tmp 2)]) (v := Value.bool true) (by kernel_rfl) (⟨by kernel_rfl, trivial⟩) ⟨true, rfl, h⟩
      · replace h := h.2 hb
        refine wpE_skip (by kernel_rfl) ?_
        change WpE _ _ c_towpathlaw01_Beyond_33 _ _ _
        refine wpE_region (id := 4) (ops := r_towpathlaw01_Beyond_33) (by kernel_rfl) ?_
        refine reg_run [.plain, .plain, .plain] 3 [(0, [], Value.slice l_.ptr l_.len l_.cap), (3, [], Value.int .i64 (IntKind.i64.wrap (n_ + v15))), (4, [], Value.int .i64 (IntKind.i64.wrap (i + 1)))] (by kernel_rfl) (by kernel_rfl) ?_
        refine reg_end [(0, Value.slice l_.ptr l_.len l_.cap), (3, Value.int .i64 (IntKind.i64.wrap (n_ + v15))), (4, Value.int .i64 (IntKind.i64.wrap (i + 1)))] (by kernel_rfl) (by kernel_rfl) ?_
        have hb_ := again__h _ _ _ h
        exact ⟨_, hb_.2, [(0, Value.slice l_.ptr l_.len l_.cap), (3, Value.int .i64 (IntKind.i64.wrap (n_ + v15))), (4, Value.int .i64 (IntKind.i64.wrap (i + 1)))], Sub.mk (by kernel_rfl), (IntKind.i64.wrap (n_ + v15)), (IntKind.i64.wrap (i + 1)), rfl, hb_.1, rfl⟩
    · replace h := h.2 hb
      refine wpE_exit (id := 0) (by kernel_rfl) ?_
      change WpE _ _ c_towpathlaw01_Beyond_35 _ _ _
      refine wpE_seq (x := c_towpathlaw01_Beyond_36) (y := c_towpathlaw01_Beyond_38) (by kernel_rfl) ?_
      refine wpE_region (id := 8) (ops := r_towpathlaw01_Beyond_36) (by kernel_rfl) ?_
      refine reg_run [.plain] 1 [(2, [], Value.bool false)] (by kernel_rfl) (by kernel_rfl) ?_
      refine reg_end [(2, Value.bool false)] (by kernel_rfl) (by kernel_rfl) ?_
      change WpE _ _ c_towpathlaw01_Beyond_38 _ _ _
      refine wpE_ret (by kernel_rfl) ?_
      repeat (first | refine seqQ_ret ?_ | refine blockQ_ret ?_ | refine loopQ_ret ?_ | refine cutQ_ret ?_)
      exact retS (rs := [(Go.ResultVar.tmp 2)]) (v := Value.bool false) (by kernel_rfl) (⟨by kernel_rfl, trivial⟩) ⟨false, rfl, h⟩
  · rintro e w' ⟨v, rfl, r0, rfl, h⟩; exact ⟨r0, rfl, h⟩

/-! ### towpath/towpathlaw01.TwinBytes (function 11) -/
noncomputable def c_towpathlaw01_TwinBytes_0 : Code := (Try.f11.body).getD Code.skip
noncomputable def c_towpathlaw01_TwinBytes_1 : Code := Code.l c_towpathlaw01_TwinBytes_0
noncomputable def r_towpathlaw01_TwinBytes_1 : Array Oper := Code.ops c_towpathlaw01_TwinBytes_1
noncomputable def c_towpathlaw01_TwinBytes_3 : Code := Code.r c_towpathlaw01_TwinBytes_0
noncomputable def c_towpathlaw01_TwinBytes_4 : Code := Code.l c_towpathlaw01_TwinBytes_3
noncomputable def r_towpathlaw01_TwinBytes_4 : Array Oper := Code.ops c_towpathlaw01_TwinBytes_4
noncomputable def c_towpathlaw01_TwinBytes_6 : Code := Code.r c_towpathlaw01_TwinBytes_3
noncomputable def c_towpathlaw01_TwinBytes_7 : Code := Code.l c_towpathlaw01_TwinBytes_6
noncomputable def c_towpathlaw01_TwinBytes_8 : Code := Code.l c_towpathlaw01_TwinBytes_7
noncomputable def r_towpathlaw01_TwinBytes_8 : Array Oper := Code.ops c_towpathlaw01_TwinBytes_8
noncomputable def c_towpathlaw01_TwinBytes_10 : Code := Code.r c_towpathlaw01_TwinBytes_7
noncomputable def c_towpathlaw01_TwinBytes_11 : Code := Code.l c_towpathlaw01_TwinBytes_10
noncomputable def c_towpathlaw01_TwinBytes_12 : Code := Code.l c_towpathlaw01_TwinBytes_11
noncomputable def c_towpathlaw01_TwinBytes_13 : Code := Code.l c_towpathlaw01_TwinBytes_12
noncomputable def c_towpathlaw01_TwinBytes_14 : Code := Code.l c_towpathlaw01_TwinBytes_13
noncomputable def r_towpathlaw01_TwinBytes_14 : Array Oper := Code.ops c_towpathlaw01_TwinBytes_14
noncomputable def c_towpathlaw01_TwinBytes_16 : Code := Code.r c_towpathlaw01_TwinBytes_13
noncomputable def c_towpathlaw01_TwinBytes_17 : Code := Code.l c_towpathlaw01_TwinBytes_16
noncomputable def c_towpathlaw01_TwinBytes_18 : Code := Code.r c_towpathlaw01_TwinBytes_16
noncomputable def c_towpathlaw01_TwinBytes_19 : Code := Code.r c_towpathlaw01_TwinBytes_12
noncomputable def c_towpathlaw01_TwinBytes_20 : Code := Code.l c_towpathlaw01_TwinBytes_19
noncomputable def c_towpathlaw01_TwinBytes_21 : Code := Code.l c_towpathlaw01_TwinBytes_20
noncomputable def r_towpathlaw01_TwinBytes_21 : Array Oper := Code.ops c_towpathlaw01_TwinBytes_21
noncomputable def c_towpathlaw01_TwinBytes_23 : Code := Code.r c_towpathlaw01_TwinBytes_19
noncomputable def r_towpathlaw01_TwinBytes_23 : Array Oper := Code.ops c_towpathlaw01_TwinBytes_23
noncomputable def c_towpathlaw01_TwinBytes_25 : Code := Code.r c_towpathlaw01_TwinBytes_6
noncomputable def c_towpathlaw01_TwinBytes_26 : Code := Code.l c_towpathlaw01_TwinBytes_25
noncomputable def r_towpathlaw01_TwinBytes_26 : Array Oper := Code.ops c_towpathlaw01_TwinBytes_26
noncomputable def c_towpathlaw01_TwinBytes_28 : Code := Code.r c_towpathlaw01_TwinBytes_25

set_option maxRecDepth 100000 in
set_option maxHeartbeats 4000000 in
theorem S_towpathlaw01_TwinBytes {l_ : Slc} {w : World} {R : Slc → World → Prop} (h : F_towpathlaw01_TwinBytes l_ R w) : C_towpathlaw01_TwinBytes l_ w R := by
  unfold F_towpathlaw01_TwinBytes at h
  unfold C_towpathlaw01_TwinBytes
  refine Calls.mono (calls_of_wpE (args := [Value.slice l_.ptr l_.len l_.cap]) (R := fun v w' => ∃ (r0 : Slc), v = Value.slice r0.ptr r0.len r0.cap ∧ R r0 w') Try.func11 (c := c_towpathlaw01_TwinBytes_0) (by kernel_rfl) 28 (by kernel_rfl) (by kernel_rfl) [(0, Value.slice l_.ptr l_.len l_.cap)] (by kernel_rfl) ?_) ?_
  · refine wpE_seq (x := c_towpathlaw01_TwinBytes_1) (y := c_towpathlaw01_TwinBytes_3) (by kernel_rfl) ?_
    refine wpE_region (id := 0) (ops := r_towpathlaw01_TwinBytes_1) (by kernel_rfl) ?_
    refine reg_run [.plain] 1 [(0, [], Value.slice l_.ptr l_.len l_.cap)] (by kernel_rfl) (by kernel_rfl) ?_
    refine reg_end [(0, Value.slice l_.ptr l_.len l_.cap)] (by kernel_rfl) (by kernel_rfl) ?_
    change WpE _ _ c_towpathlaw01_TwinBytes_3 _ _ _
    refine wpE_seq (x := c_towpathlaw01_TwinBytes_4) (y := c_towpathlaw01_TwinBytes_6) (by kernel_rfl) ?_
    refine wpE_region (id := 1) (ops := r_towpathlaw01_TwinBytes_4) (by kernel_rfl) ?_
    refine reg_run [.plain, .plain, .plain] 3 [(0, [], Value.slice l_.ptr l_.len l_.cap), (7, [], Value.int .i64 (IntKind.i64.wrap (((l_.len : Nat) : Int) + 1)))] (by kernel_rfl) (by kernel_rfl) ?_
    obtain ⟨h0, h1, h2, h⟩ := h
    refine reg_makeSlice (t := 22) (e := 5) (lo := (Go.Operand.const (Go.Value.int Go.IntKind.i64 0))) (co := (Go.Operand.tmp 7)) (l := 0) (c := (IntKind.i64.wrap (((l_.len : Nat) : Int) + 1))) (sz := 1) (by_ := 1) (zs := [Value.int .u8 0]) (ty := 22) (dst := some 8) (by kernel_rfl) (by kernel_rfl) (by kernel_rfl) (by kernel_rfl) (by kernel_rfl) (by kernel_rfl) (by kernel_rfl) (by kernel_rfl) (by kernel_rfl) h0 h1 h2 (fun b_ w1 hb hw => ?_)
    replace h := h b_ w1 hb hw
    clear hb hw
    refine reg_run [.plain] 5 [(0, [], Value.slice l_.ptr l_.len l_.cap), (3, [], Value.slice (some ⟨b_, 0, none⟩) 0 ((IntKind.i64.wrap (((l_.len : Nat) : Int) + 1)).toNat))] (by kernel_rfl) (by kernel_rfl) ?_
    refine reg_end [(0, Value.slice l_.ptr l_.len l_.cap), (3, Value.slice (some ⟨b_, 0, none⟩) 0 ((IntKind.i64.wrap (((l_.len : Nat) : Int) + 1)).toNat))] (by kernel_rfl) (by kernel_rfl) ?_
    change WpE _ _ c_towpathlaw01_TwinBytes_6 _ _ _
    refine wpE_seq (x := c_towpathlaw01_TwinBytes_7) (y := c_towpathlaw01_TwinBytes_25) (by kernel_rfl) ?_
    refine wpE_seq (x := c_towpathlaw01_TwinBytes_8) (y := c_towpathlaw01_TwinBytes_10) (by kernel_rfl) ?_
    refine wpE_region (id := 2) (ops := r_towpathlaw01_TwinBytes_8) (by kernel_rfl) ?_
    refine reg_run [.plain] 1 [(0, [], Value.slice l_.ptr l_.len l_.cap), (3, [], Value.slice (some ⟨b_, 0, none⟩) 0 ((IntKind.i64.wrap (((l_.len : Nat) : Int) + 1)).toNat)), (4, [], Value.int .i64 0)] (by kernel_rfl) (by kernel_rfl) ?_
    refine reg_end [(0, Value.slice l_.ptr l_.len l_.cap), (3, Value.slice (some ⟨b_, 0, none⟩) 0 ((IntKind.i64.wrap (((l_.len : Nat) : Int) + 1)).toNat)), (4, Value.int .i64 0)] (by kernel_rfl) (by kernel_rfl) ?_
    change WpE _ _ c_towpathlaw01_TwinBytes_10 _ _ _
    refine wpE_block (id := 0) (x := c_towpathlaw01_TwinBytes_11) (by kernel_rfl) ?_
    obtain ⟨I, μ, h0, hr⟩ := h
    refine wpE_loop (x := c_towpathlaw01_TwinBytes_12) (by kernel_rfl) (fun m l w => ∃ (t_ : Slc) (i : Int), l = [(0, Value.slice l_.ptr l_.len l_.cap), (3, Value.slice t_.ptr t_.len t_.cap), (4, Value.int .i64 i)] ∧ I t_ i w ∧ μ t_ i w = m) (l' := [(0, Value.slice l_.ptr l_.len l_.cap), (3, Value.slice (some ⟨b_, 0, none⟩) 0 ((IntKind.i64.wrap (((l_.len : Nat) : Int) + 1)).toNat)), (4, Value.int .i64 0)]) (Sub.mk (by kernel_rfl)) ⟨(Slc.mk (some ⟨b_, 0, none⟩) 0 ((IntKind.i64.wrap (((l_.len : Nat) : Int) + 1)).toNat)), 0, rfl, h0, rfl⟩ ?_
    rintro _ _ w2 ⟨t_, i, rfl, hI, rfl⟩
    obtain ⟨again_, again__h, h⟩ : ∃ again_ : Slc → Int → World → Prop, (∀ t_' i' w', again_ t_' i' w' → I t_' i' w' ∧ μ t_' i' w' < μ t_ i w2) ∧ F_towpathlaw01_TwinBytes_L0 l_ R again_ t_ i w2 := ⟨_, fun _ _ _ h => h, hr t_ i w2 hI⟩
    clear h0 hI
    unfold F_towpathlaw01_TwinBytes_L0 at h
    refine wpE_seq (x := c_towpathlaw01_TwinBytes_13) (y := c_towpathlaw01_TwinBytes_19) (by kernel_rfl) ?_
    refine wpE_seq (x := c_towpathlaw01_TwinBytes_14) (y := c_towpathlaw01_TwinBytes_16) (by kernel_rfl) ?_
    refine wpE_region (id := 3) (ops := r_towpathlaw01_TwinBytes_14) (by kernel_rfl) ?_
    refine reg_run [.plain, .plain, .plain, .plain] 4 [(0, [], Value.slice l_.ptr l_.len l_.cap), (3, [], Value.slice t_.ptr t_.len t_.cap), (4, [], Value.int .i64 i), (12, [], Value.bool (decide (i < ((l_.len : Nat) : Int))))] (by kernel_rfl) (by kernel_rfl) ?_
    refine reg_end [(0, Value.slice l_.ptr l_.len l_.cap), (3, Value.slice t_.ptr t_.len t_.cap), (4, Value.int .i64 i), (12, Value.bool (decide (i < ((l_.len : Nat) : Int))))] (by kernel_rfl) (by kernel_rfl) ?_
    change WpE _ _ c_towpathlaw01_TwinBytes_16 _ _ _
    refine wpE_cond (o := (Operand.tmp 12)) (b := (decide (i < ((l_.len : Nat) : Int)))) (x := c_towpathlaw01_TwinBytes_17) (y := c_towpathlaw01_TwinBytes_18) (by kernel_rfl) (by kernel_rfl) (fun hb => ?_) (fun hb => ?_)
    · replace h := h.1 hb
      refine wpE_skip (by kernel_rfl) ?_
      change WpE _ _ c_towpathlaw01_TwinBytes_19 _ _ _
      refine wpE_seq (x := c_towpathlaw01_TwinBytes_20) (y := c_towpathlaw01_TwinBytes_23) (by kernel_rfl) ?_
      refine wpE_block (id := 1) (x := c_towpathlaw01_TwinBytes_21) (by kernel_rfl) ?_
      refine wpE_region (id := 5) (ops := r_towpathlaw01_TwinBytes_21) (by kernel_rfl) ?_
      refine reg_run [.plain, .plain, .plain] 3 [(0, [], Value.slice l_.ptr l_.len l_.cap), (3, [], Value.slice t_.ptr t_.len t_.cap), (4, [], Value.int .i64 i), (15, [], Value.slice t_.ptr t_.len t_.cap), (16, [], Value.slice l_.ptr l_.len l_.cap), (17, [], Value.int .i64 i)] (by kernel_rfl) (by kernel_rfl) ?_
      obtain ⟨hp_3, h⟩ := h
      refine reg_conv [(0, [], Value.slice l_.ptr l_.len l_.cap), (3, [], Value.slice t_.ptr t_.len t_.cap), (4, [], Value.int .i64 i), (15, [], Value.slice t_.ptr t_.len t_.cap), (16, [], Value.slice (some ⟨(pblk l_.ptr), (poff l_.ptr), none⟩) l_.len l_.cap), (17, [], Value.int .i64 i)] (congrArg (fun pp => ([(0, [], Value.slice l_.ptr l_.len l_.cap), (3, [], Value.slice t_.ptr t_.len t_.cap), (4, [], Value.int .i64 i), (15, [], Value.slice t_.ptr t_.len t_.cap), (16, [], Value.slice pp l_.len l_.cap), (17, [], Value.int .i64 i)] : GEnv)) hp_3) ?_
      obtain ⟨h0, h1, h⟩ := h
      refine reg_indexS1 (t := 22) (e := 5) (x := (Go.Operand.tmp 16)) (ix := (Go.Operand.tmp 17)) (b := (pblk l_.ptr)) (o := (poff l_.ptr)) (l := l_.len) (c := l_.cap) (k := .i64) (j := i) (ty := 0) (dst := some 18) (by kernel_rfl) (by kernel_rfl) (by kernel_rfl) (by kernel_rfl) (by kernel_rfl) h0 h1 ?_
      refine reg_run [] 4 [(0, [], Value.slice l_.ptr l_.len l_.cap), (3, [], Value.slice t_.ptr t_.len t_.cap), (4, [], Value.int .i64 i), (15, [], Value.slice t_.ptr t_.len t_.cap), (18, [], Value.pointer (some ⟨(pblk l_.ptr), (poff l_.ptr) + i.toNat, none⟩))] (by kernel_rfl) (by kernel_rfl) ?_
      obtain ⟨v19, hc, h⟩ := h
      refine reg_load1 (t := 5) (a := (Go.Operand.tmp 18)) (b := (pblk l_.ptr)) (o := ((poff l_.ptr) + i.toNat)) (ty := 5) (dst := some 19) (by kernel_rfl) (by kernel_rfl) (by kernel_rfl) hc ?_
      refine reg_run [] 5 [(0, [], Value.slice l_.ptr l_.len l_.cap), (3, [], Value.slice t_.ptr t_.len t_.cap), (4, [], Value.int .i64 i), (15, [], Value.slice t_.ptr t_.len t_.cap), (19, [], Value.int .u8 v19)] (by kernel_rfl) (by kernel_rfl) ?_
      refine reg_new (op := (Go.Op.buildSlice 22 1 #[(0, (Go.Operand.tmp 19))])) (ty := 22) (dst := some 20) (fun bb => Value.slice (some ⟨bb, 0, none⟩) 1 1) (Obj.cells ([Value.int .u8 v19]).toArray ty_uint8 (0, 0)) (by kernel_rfl) (by kernel_rfl) (fun b_1 w3 hb hw => ?_)
      replace h := h b_1 w3 hb hw
      clear hb hw
      refine reg_run [] 6 [(0, [], Value.slice l_.ptr l_.len l_.cap), (3, [], Value.slice t_.ptr t_.len t_.cap), (4, [], Value.int .i64 i), (15, [], Value.slice t_.ptr t_.len t_.cap), (20, [], Value.slice (some ⟨b_1, 0, none⟩) 1 1)] (by kernel_rfl) (by kernel_rfl) ?_
      obtain ⟨src, hs, h⟩ := h
      refine reg_append (t := 22) (tx := 22) (e := 5) (a := (Go.Operand.tmp 15)) (xo := (Go.Operand.tmp 20)) (s := t_) (x := (Slc.mk (some ⟨b_1, 0, none⟩) 1 1)) (sz := 1) (by_ := 1) (zs := [Value.int .u8 0]) (ty := 22) (dst := some 21)  src (by kernel_rfl) (by kernel_rfl) (by kernel_rfl) (by kernel_rfl) (by kernel_rfl) (by kernel_rfl) (by kernel_rfl) (by kernel_rfl) (by kernel_rfl) hs (AppendW.mono h (fun t_1 w4 h => ?_))
      refine reg_run [.plain] 8 [(0, [], Value.slice l_.ptr l_.len l_.cap), (3, [], Value.slice t_1.ptr t_1.len t_1.cap), (4, [], Value.int .i64 i)] (by kernel_rfl) (by kernel_rfl) ?_
      refine reg_end [(0, Value.slice l_.ptr l_.len l_.cap), (3, Value.slice t_1.ptr t_1.len t_1.cap), (4, Value.int .i64 i)] (by kernel_rfl) (by kernel_rfl) ?_
      change WpE _ _ c_towpathlaw01_TwinBytes_23 _ _ _
      refine wpE_region (id := 4) (ops := r_towpathlaw01_TwinBytes_23) (by kernel_rfl) ?_
      refine reg_run [.plain, .plain, .plain] 3 [(0, [], Value.slice l_.ptr l_.len l_.cap), (3, [], Value.slice t_1.ptr t_1.len t_1.cap), (4, [], Value.int .i64 (IntKind.i64.wrap (i + 1)))] (by kernel_rfl) (by kernel_rfl) ?_
      refine reg_end [(0, Value.slice l_.ptr l_.len l_.cap), (3, Value.slice t_1.ptr t_1.len t_1.cap), (4, Value.int .i64 (IntKind.i64.wrap (i + 1)))] (by kernel_rfl) (by kernel_rfl) ?_
      have hb_ := again__h _ _ _ h
      exact ⟨_, hb_.2, [(0, Value.slice l_.ptr l_.len l_.cap), (3, Value.slice t_1.ptr t_1.len t_1.cap), (4, Value.int .i64 (IntKind.i64.wrap (i + 1)))], Sub.mk (by kernel_rfl), t_1, (IntKind.i64.wrap (i + 1)), rfl, hb_.1, rfl⟩
    · replace h := h.2 hb
      refine wpE_exit (id := 0) (by kernel_rfl) ?_
      change WpE _ _ c_towpathlaw01_TwinBytes_25 _ _ _
      refine wpE_seq (x := c_towpathlaw01_TwinBytes_26) (y := c_towpathlaw01_TwinBytes_28) (by kernel_rfl) ?_
      refine wpE_region (id := 6) (ops := r_towpathlaw01_TwinBytes_26) (by kernel_rfl) ?_
      refine reg_run [.plain] 1 [(0, [], Value.slice l_.ptr l_.len l_.cap), (22, [], Value.slice t_.ptr t_.len t_.cap)] (by kernel_rfl) (by kernel_rfl) ?_
      refine reg_new (op := (Go.Op.buildSlice 22 1 #[(0, (Go.Operand.const (Go.Value.int Go.IntKind.u8 77)))])) (ty := 22) (dst := some 23) (fun bb => Value.slice (some ⟨bb, 0, none⟩) 1 1) (Obj.cells ([Value.int .u8 77]).toArray ty_uint8 (0, 0)) (by kernel_rfl) (by kernel_rfl) (fun b_2 w5 hb hw => ?_)
      replace h := h b_2 w5 hb hw
      clear hb hw
      refine reg_run [] 2 [(0, [], Value.slice l_.ptr l_.len l_.cap), (22, [], Value.slice t_.ptr t_.len t_.cap), (23, [], Value.slice (some ⟨b_2, 0, none⟩) 1 1)] (by kernel_rfl) (by kernel_rfl) ?_
      obtain ⟨src, hs, h⟩ := h
      refine reg_append (t := 22) (tx := 22) (e := 5) (a := (Go.Operand.tmp 22)) (xo := (Go.Operand.tmp 23)) (s := t_) (x := (Slc.mk (some ⟨b_2, 0, none⟩) 1 1)) (sz := 1) (by_ := 1) (zs := [Value.int .u8 0]) (ty := 22) (dst := some 24)  src (by kernel_rfl) (by kernel_rfl) (by kernel_rfl) (by kernel_rfl) (by kernel_rfl) (by kernel_rfl) (by kernel_rfl) (by kernel_rfl) (by kernel_rfl) hs (AppendW.mono h (fun v24 w6 h => ?_))
      refine reg_run [.plain, .plain] 5 [(24, [], Value.slice v24.ptr v24.len v24.cap), (26, [], Value.int .i64 ((l_.len : Nat) : Int))] (by kernel_rfl) (by kernel_rfl) ?_
      obtain ⟨h0, h1, h⟩ := h
      refine reg_sliceHi (t := 22) (e := 5) (x := (Go.Operand.tmp 24)) (hi := (Go.Operand.tmp 26)) (p := v24.ptr) (l := v24.len) (c := v24.cap) (sz := 1) (k := .i64) (j := ((l_.len : Nat) : Int)) (ty := 22) (dst := some 27) (by kernel_rfl) (by kernel_rfl) (by kernel_rfl) (by kernel_rfl) (by kernel_rfl) h0 h1 ?_
      refine reg_run [.plain] 7 [(2, [], Value.slice v24.ptr (((l_.len : Nat) : Int).toNat) v24.cap)] (by kernel_rfl) (by kernel_rfl) ?_
      refine reg_end [(2, Value.slice v24.ptr (((l_.len : Nat) : Int).toNat) v24.cap)] (by kernel_rfl) (by kernel_rfl) ?_
      change WpE _ _ c_towpathlaw01_TwinBytes_28 _ _ _
      refine wpE_ret (by kernel_rfl) ?_
      repeat (first | refine seqQ_ret ?_ | refine blockQ_ret ?_ | refine loopQ_ret ?_ | refine cutQ_ret ?_)
      exact retS (rs := [(Go.ResultVar.tmp 2)]) (v := Value.slice v24.ptr (((l_.len : Nat) : Int).toNat) v24.cap) (by kernel_rfl) (⟨by kernel_rfl, trivial⟩) ⟨(Slc.mk v24.ptr (((l_.len : Nat) : Int).toNat) v24.cap), rfl, h⟩
  · rintro e w' ⟨v, rfl, r0, rfl, h⟩; exact ⟨r0, rfl, h⟩

/-! ### towpath/towpathlaw01.SameTxn (function 14) -/
noncomputable def c_towpathlaw01_SameTxn_0 : Code := (Try.f14.body).getD Code.skip
noncomputable def c_towpathlaw01_SameTxn_1 : Code := Code.l c_towpathlaw01_SameTxn_0
noncomputable def r_towpathlaw01_SameTxn_1 : Array Oper := Code.ops c_towpathlaw01_SameTxn_1
noncomputable def c_towpathlaw01_SameTxn_3 : Code := Code.r c_towpathlaw01_SameTxn_0
noncomputable def c_towpathlaw01_SameTxn_4 : Code := Code.l c_towpathlaw01_SameTxn_3
noncomputable def r_towpathlaw01_SameTxn_4 : Array Oper := Code.ops c_towpathlaw01_SameTxn_4
noncomputable def c_towpathlaw01_SameTxn_6 : Code := Code.r c_towpathlaw01_SameTxn_3

set_option maxRecDepth 100000 in
set_option maxHeartbeats 4000000 in
theorem S_towpathlaw01_SameTxn {a_ : T_api_Txn} {b_ : T_api_Txn} {w : World} {R : Bool → World → Prop} (h : F_towpathlaw01_SameTxn a_ b_ R w) : C_towpathlaw01_SameTxn a_ b_ w R := by
  unfold F_towpathlaw01_SameTxn at h
  unfold C_towpathlaw01_SameTxn
  refine Calls.mono (calls_of_wpE (args := [Value.agg #[Value.int .i64 a_.Number, Value.slice a_.Writes.ptr a_.Writes.len a_.Writes.cap], Value.agg #[Value.int .i64 b_.Number, Value.slice b_.Writes.ptr b_.Writes.len b_.Writes.cap]]) (R := fun v w' => ∃ (r0 : Bool), v = Value.bool r0 ∧ R r0 w') Try.func14 (c := c_towpathlaw01_SameTxn_0) (by kernel_rfl) 17 (by kernel_rfl) (by kernel_rfl) [(0, Value.agg #[Value.int .i64 a_.Number, Value.slice a_.Writes.ptr a_.Writes.len a_.Writes.cap]), (1, Value.agg #[Value.int .i64 b_.Number, Value.slice b_.Writes.ptr b_.Writes.len b_.Writes.cap])] (by kernel_rfl) ?_) ?_
  · refine wpE_seq (x := c_towpathlaw01_SameTxn_1) (y := c_towpathlaw01_SameTxn_3) (by kernel_rfl) ?_
    refine wpE_region (id := 0) (ops := r_towpathlaw01_SameTxn_1) (by kernel_rfl) ?_
    refine reg_run [] 0 [(0, [], Value.agg #[Value.int .i64 a_.Number, Value.slice a_.Writes.ptr a_.Writes.len a_.Writes.cap]), (1, [], Value.agg #[Value.int .i64 b_.Number, Value.slice b_.Writes.ptr b_.Writes.len b_.Writes.cap])] (by kernel_rfl) (by kernel_rfl) ?_
    refine reg_new (op := (Go.Op.box 27 (Go.Operand.tmp 0))) (ty := 0) (dst := some 2) (fun bb => Value.pointer (some ⟨bb, 0, none⟩)) (Obj.cells ([Value.int .i64 a_.Number, Value.slice a_.Writes.ptr a_.Writes.len a_.Writes.cap]).toArray ty_api_Txn (0, 0)) (by kernel_rfl) (by kernel_rfl) (fun b_1 w1 hb hw => ?_)
    replace h := h b_1 w1 hb hw
    clear hb hw
    refine reg_run [] 1 [(1, [], Value.agg #[Value.int .i64 b_.Number, Value.slice b_.Writes.ptr b_.Writes.len b_.Writes.cap]), (2, [], Value.pointer (some ⟨b_1, 0, none⟩))] (by kernel_rfl) (by kernel_rfl) ?_
    refine reg_new (op := (Go.Op.box 27 (Go.Operand.tmp 1))) (ty := 0) (dst := some 3) (fun bb => Value.pointer (some ⟨bb, 0, none⟩)) (Obj.cells ([Value.int .i64 b_.Number, Value.slice b_.Writes.ptr b_.Writes.len b_.Writes.cap]).toArray ty_api_Txn (0, 0)) (by kernel_rfl) (by kernel_rfl) (fun b_2 w2 hb hw => ?_)
    replace h := h b_2 w2 hb hw
    clear hb hw
    refine reg_run [.plain] 3 [(2, [], Value.pointer (some ⟨b_1, 0, none⟩)), (3, [], Value.pointer (some ⟨b_2, 0, none⟩))] (by kernel_rfl) (by kernel_rfl) ?_
    refine reg_end [(2, Value.pointer (some ⟨b_1, 0, none⟩)), (3, Value.pointer (some ⟨b_2, 0, none⟩))] (by kernel_rfl) (by kernel_rfl) ?_
    change WpE _ _ c_towpathlaw01_SameTxn_3 _ _ _
    refine wpE_seq (x := c_towpathlaw01_SameTxn_4) (y := c_towpathlaw01_SameTxn_6) (by kernel_rfl) ?_
    refine wpE_region (id := 1) (ops := r_towpathlaw01_SameTxn_4) (by kernel_rfl) ?_
    refine reg_run [.plain] 1 [(2, [], Value.pointer (some ⟨b_1, 0, none⟩)), (3, [], Value.pointer (some ⟨b_2, 0, none⟩)), (5, [], Value.pointer (some ⟨b_1, 0, none⟩))] (by kernel_rfl) (by kernel_rfl) ?_
    obtain ⟨v6, hc, h⟩ := h
    refine reg_load1 (t := 3) (a := (Go.Operand.tmp 5)) (b := b_1) (o := 0) (ty := 3) (dst := some 6) (by kernel_rfl) (by kernel_rfl) (by kernel_rfl) hc ?_
    refine reg_run [.plain] 3 [(2, [], Value.pointer (some ⟨b_1, 0, none⟩)), (3, [], Value.pointer (some ⟨b_2, 0, none⟩)), (6, [], Value.int .i64 v6), (7, [], Value.pointer (some ⟨b_2, 0, none⟩))] (by kernel_rfl) (by kernel_rfl) ?_
    obtain ⟨v8, hc, h⟩ := h
    refine reg_load1 (t := 3) (a := (Go.Operand.tmp 7)) (b := b_2) (o := 0) (ty := 3) (dst := some 8) (by kernel_rfl) (by kernel_rfl) (by kernel_rfl) hc ?_
    refine reg_run [.plain, .plain, .plain] 7 [(3, [], Value.pointer (some ⟨b_2, 0, none⟩)), (10, [], Value.bool (v6 == v8)), (11, [(10, true)], Value.pointer (some ⟨b_1, 1, none⟩))] (by kernel_rfl) (by kernel_rfl) ?_
    refine reg_split 10 (v6 == v8) (by kernel_rfl) (fun hb => ?_) (fun hb => ?_)
    · replace h := h.1 hb
      refine reg_run [] 7 [(3, [], Value.pointer (some ⟨b_2, 0, none⟩)), (10, [], Value.bool true), (11, [], Value.pointer (some ⟨b_1, 1, none⟩))] (by kernel_rfl) (by kernel_rfl) ?_
      refine reg_run [] 7 [(3, [], Value.pointer (some ⟨b_2, 0, none⟩)), (10, [], Value.bool true), (11, [], Value.pointer (some ⟨b_1, 1, none⟩))] (by kernel_rfl) (by kernel_rfl) ?_
      obtain ⟨v12, hc, h⟩ := h
      refine reg_load1 (t := 25) (a := (Go.Operand.tmp 11)) (b := b_1) (o := 1) (ty := 25) (dst := some 12) (by kernel_rfl) (by kernel_rfl) (by kernel_rfl) hc ?_
      refine reg_run [.sure] 9 [(10, [], Value.bool true), (12, [], Value.slice v12.ptr v12.len v12.cap), (13, [], Value.pointer (some ⟨b_2, 1, none⟩))] (by kernel_rfl) (by kernel_rfl) ?_
      obtain ⟨v14, hc, h⟩ := h
      refine reg_load1 (t := 25) (a := (Go.Operand.tmp 13)) (b := b_2) (o := 1) (ty := 25) (dst := some 14) (by kernel_rfl) (by kernel_rfl) (by kernel_rfl) hc ?_
      refine reg_run [] 10 [(10, [], Value.bool true), (12, [], Value.slice v12.ptr v12.len v12.cap), (14, [], Value.slice v14.ptr v14.len v14.cap)] (by kernel_rfl) (by kernel_rfl) ?_
      refine reg_enter (op := (Go.Op.call (Go.Call.mk (Go.Callee.value (Go.Operand.func 48)) #[(Go.Operand.tmp 12), (Go.Operand.tmp 14)] #[25, 25]))) (ty := 4) (dst := some 15) 48 #[Value.slice v12.ptr v12.len v12.cap, Value.slice v14.ptr v14.len v14.cap] (by kernel_rfl) (fun ww => by kernel_rfl) (Calls.mono h ?_)
      rintro _ w3 ⟨v15, rfl, h⟩
      refine ⟨_, rfl, ?_⟩
      refine reg_run [.plain, .plain] 13 [(4, [], Value.bool v15)] (by kernel_rfl) (by kernel_rfl) ?_
      refine reg_end [(4, Value.bool v15)] (by kernel_rfl) (by kernel_rfl) ?_
      change WpE _ _ c_towpathlaw01_SameTxn_6 _ _ _
      refine wpE_ret (by kernel_rfl) ?_
      repeat (first | refine seqQ_ret ?_ | refine blockQ_ret ?_ | refine loopQ_ret ?_ | refine cutQ_ret ?_)
      exact retS (rs := [(Go.ResultVar.tmp 4)]) (v := Value.bool v15) (by kernel_rfl) (⟨by kernel_rfl, trivial⟩) ⟨v15, rfl, h⟩
    · replace h := h.2 hb
      refine reg_run [] 7 [(3, [], Value.pointer (some ⟨b_2, 0, none⟩)), (10, [], Value.bool false), (11, [], undef)] (by kernel_rfl) (by kernel_rfl) ?_
      refine reg_run [.skip, .skip, .skip, .skip, .plain, .plain] 13 [(4, [], Value.bool false)] (by kernel_rfl) (by kernel_rfl) ?_
      refine reg_end [(4, Value.bool false)] (by kernel_rfl) (by kernel_rfl) ?_
      change WpE _ _ c_towpathlaw01_SameTxn_6 _ _ _
      refine wpE_ret (by kernel_rfl) ?_
      repeat (first | refine seqQ_ret ?_ | refine blockQ_ret ?_ | refine loopQ_ret ?_ | refine cutQ_ret ?_)
      exact retS (rs := [(Go.ResultVar.tmp 4)]) (v := Value.bool false) (by kernel_rfl) (⟨by kernel_rfl, trivial⟩) ⟨false, rfl, h⟩
  · rintro e w' ⟨v, rfl, r0, rfl, h⟩; exact ⟨r0, rfl, h⟩

/-! ### towpath/towpathlaw01.LeftBytes (function 15) -/
noncomputable def c_towpathlaw01_LeftBytes_0 : Code := (Try.f15.body).getD Code.skip
noncomputable def c_towpathlaw01_LeftBytes_1 : Code := Code.l c_towpathlaw01_LeftBytes_0
noncomputable def r_towpathlaw01_LeftBytes_1 : Array Oper := Code.ops c_towpathlaw01_LeftBytes_1
noncomputable def c_towpathlaw01_LeftBytes_3 : Code := Code.r c_towpathlaw01_LeftBytes_0
noncomputable def c_towpathlaw01_LeftBytes_4 : Code := Code.l c_towpathlaw01_LeftBytes_3
noncomputable def c_towpathlaw01_LeftBytes_5 : Code := Code.l c_towpathlaw01_LeftBytes_4
noncomputable def r_towpathlaw01_LeftBytes_5 : Array Oper := Code.ops c_towpathlaw01_LeftBytes_5
noncomputable def c_towpathlaw01_LeftBytes_7 : Code := Code.r c_towpathlaw01_LeftBytes_4
noncomputable def c_towpathlaw01_LeftBytes_8 : Code := Code.l c_towpathlaw01_LeftBytes_7
noncomputable def c_towpathlaw01_LeftBytes_9 : Code := Code.l c_towpathlaw01_LeftBytes_8
noncomputable def r_towpathlaw01_LeftBytes_9 : Array Oper := Code.ops c_towpathlaw01_LeftBytes_9
noncomputable def c_towpathlaw01_LeftBytes_11 : Code := Code.r c_towpathlaw01_LeftBytes_8
noncomputable def c_towpathlaw01_LeftBytes_12 : Code := Code.r c_towpathlaw01_LeftBytes_7
noncomputable def c_towpathlaw01_LeftBytes_13 : Code := Code.r c_towpathlaw01_LeftBytes_3
noncomputable def c_towpathlaw01_LeftBytes_14 : Code := Code.l c_towpathlaw01_LeftBytes_13
noncomputable def c_towpathlaw01_LeftBytes_15 : Code := Code.l c_towpathlaw01_LeftBytes_14
noncomputable def r_towpathlaw01_LeftBytes_15 : Array Oper := Code.ops c_towpathlaw01_LeftBytes_15
noncomputable def c_towpathlaw01_LeftBytes_17 : Code := Code.r c_towpathlaw01_LeftBytes_14
noncomputable def c_towpathlaw01_LeftBytes_18 : Code := Code.l c_towpathlaw01_LeftBytes_17
noncomputable def c_towpathlaw01_LeftBytes_19 : Code := Code.l c_towpathlaw01_LeftBytes_18
noncomputable def c_towpathlaw01_LeftBytes_20 : Code := Code.l c_towpathlaw01_LeftBytes_19
noncomputable def c_towpathlaw01_LeftBytes_21 : Code := Code.l c_towpathlaw01_LeftBytes_20
noncomputable def r_towpathlaw01_LeftBytes_21 : Array Oper := Code.ops c_towpathlaw01_LeftBytes_21
noncomputable def c_towpathlaw01_LeftBytes_23 : Code := Code.r c_towpathlaw01_LeftBytes_20
noncomputable def c_towpathlaw01_LeftBytes_24 : Code := Code.l c_towpathlaw01_LeftBytes_23
noncomputable def c_towpathlaw01_LeftBytes_25 : Code := Code.r c_towpathlaw01_LeftBytes_23
noncomputable def c_towpathlaw01_LeftBytes_26 : Code := Code.r c_towpathlaw01_LeftBytes_19
noncomputable def c_towpathlaw01_LeftBytes_27 : Code := Code.l c_towpathlaw01_LeftBytes_26
noncomputable def c_towpathlaw01_LeftBytes_28 : Code := Code.l c_towpathlaw01_LeftBytes_27
noncomputable def c_towpathlaw01_LeftBytes_29 : Code := Code.l c_towpathlaw01_LeftBytes_28
noncomputable def r_towpathlaw01_LeftBytes_29 : Array Oper := Code.ops c_towpathlaw01_LeftBytes_29
noncomputable def c_towpathlaw01_LeftBytes_31 : Code := Code.r c_towpathlaw01_LeftBytes_28
noncomputable def c_towpathlaw01_LeftBytes_32 : Code := Code.l c_towpathlaw01_LeftBytes_31
noncomputable def c_towpathlaw01_LeftBytes_33 : Code := Code.l c_towpathlaw01_LeftBytes_32
noncomputable def r_towpathlaw01_LeftBytes_33 : Array Oper := Code.ops c_towpathlaw01_LeftBytes_33
noncomputable def c_towpathlaw01_LeftBytes_35 : Code := Code.r c_towpathlaw01_LeftBytes_32
noncomputable def c_towpathlaw01_LeftBytes_36 : Code := Code.r c_towpathlaw01_LeftBytes_31
noncomputable def c_towpathlaw01_LeftBytes_37 : Code := Code.r c_towpathlaw01_LeftBytes_26
noncomputable def r_towpathlaw01_LeftBytes_37 : Array Oper := Code.ops c_towpathlaw01_LeftBytes_37
noncomputable def c_towpathlaw01_LeftBytes_39 : Code := Code.r c_towpathlaw01_LeftBytes_13
noncomputable def c_towpathlaw01_LeftBytes_40 : Code := Code.l c_towpathlaw01_LeftBytes_39
noncomputable def r_towpathlaw01_LeftBytes_40 : Array Oper := Code.ops c_towpathlaw01_LeftBytes_40
noncomputable def c_towpathlaw01_LeftBytes_42 : Code := Code.r c_towpathlaw01_LeftBytes_39
noncomputable def c_towpathlaw01_LeftBytes_43 : Code := Code.l c_towpathlaw01_LeftBytes_42
noncomputable def r_towpathlaw01_LeftBytes_43 : Array Oper := Code.ops c_towpathlaw01_LeftBytes_43
noncomputable def c_towpathlaw01_LeftBytes_45 : Code := Code.r c_towpathlaw01_LeftBytes_42

set_option maxRecDepth 100000 in
set_option maxHeartbeats 4000000 in
theorem S_towpathlaw01_LeftBytes {t_ : Slc} {l_ : Slc} {w : World} {R : Bool → World → Prop} (h : F_towpathlaw01_LeftBytes t_ l_ R w) : C_towpathlaw01_LeftBytes t_ l_ w R := by
  unfold F_towpathlaw01_LeftBytes at h
  unfold C_towpathlaw01_LeftBytes
  refine Calls.mono (calls_of_wpE (args := [Value.slice t_.ptr t_.len t_.cap, Value.slice l_.ptr l_.len l_.cap]) (R := fun v w' => ∃ (r0 : Bool), v = Value.bool r0 ∧ R r0 w') Try.func15 (c := c_towpathlaw01_LeftBytes_0) (by kernel_rfl) 45 (by kernel_rfl) (by kernel_rfl) [(0, Value.slice t_.ptr t_.len t_.cap), (1, Value.slice l_.ptr l_.len l_.cap)] (by kernel_rfl) ?_) ?_
  · refine wpE_seq (x := c_towpathlaw01_LeftBytes_1) (y := c_towpathlaw01_LeftBytes_3) (by kernel_rfl) ?_
    refine wpE_region (id := 0) (ops := r_towpathlaw01_LeftBytes_1) (by kernel_rfl) ?_
    refine reg_run [.plain] 1 [(0, [], Value.slice t_.ptr t_.len t_.cap), (1, [], Value.slice l_.ptr l_.len l_.cap)] (by kernel_rfl) (by kernel_rfl) ?_
    refine reg_end [(0, Value.slice t_.ptr t_.len t_.cap), (1, Value.slice l_.ptr l_.len l_.cap)] (by kernel_rfl) (by kernel_rfl) ?_
    change WpE _ _ c_towpathlaw01_LeftBytes_3 _ _ _
    refine wpE_seq (x := c_towpathlaw01_LeftBytes_4) (y := c_towpathlaw01_LeftBytes_13) (by kernel_rfl) ?_
    refine wpE_seq (x := c_towpathlaw01_LeftBytes_5) (y := c_towpathlaw01_LeftBytes_7) (by kernel_rfl) ?_
    refine wpE_region (id := 1) (ops := r_towpathlaw01_LeftBytes_5) (by kernel_rfl) ?_
    refine reg_run [.plain, .plain, .plain, .plain, .plain, .plain, .plain, .plain, .plain, .plain, .plain, .pick] 12 [(0, [], Value.slice t_.ptr t_.len t_.cap), (1, [], Value.slice l_.ptr l_.len l_.cap), (18, [], Value.bool ((((t_.len : Nat) : Int) != ((l_.len : Nat) : Int)) || (decide (((t_.cap : Nat) : Int) ≤ ((l_.len : Nat) : Int)))))] (by kernel_rfl) (by kernel_rfl) ?_
    refine reg_end [(0, Value.slice t_.ptr t_.len t_.cap), (1, Value.slice l_.ptr l_.len l_.cap), (18, Value.bool ((((t_.len : Nat) : Int) != ((l_.len : Nat) : Int)) || (decide (((t_.cap : Nat) : Int) ≤ ((l_.len : Nat) : Int)))))] (by kernel_rfl) (by kernel_rfl) ?_
    change WpE _ _ c_towpathlaw01_LeftBytes_7 _ _ _
    refine wpE_cond (o := (Operand.tmp 18)) (b := ((((t_.len : Nat) : Int) != ((l_.len : Nat) : Int)) || (decide (((t_.cap : Nat) : Int) ≤ ((l_.len : Nat) : Int))))) (x := c_towpathlaw01_LeftBytes_8) (y := c_towpathlaw01_LeftBytes_12) (by kernel_rfl) (by kernel_rfl) (fun hb => ?_) (fun hb => ?_)
    · replace h := h.1 hb
      refine wpE_seq (x := c_towpathlaw01_LeftBytes_9) (y := c_towpathlaw01_LeftBytes_11) (by kernel_rfl) ?_
      refine wpE_region (id := 2) (ops := r_towpathlaw01_LeftBytes_9) (by kernel_rfl) ?_
      refine reg_run [.plain] 1 [(4, [], Value.bool false)] (by kernel_rfl) (by kernel_rfl) ?_
      refine reg_end [(4, Value.bool false)] (by kernel_rfl) (by kernel_rfl) ?_
      change WpE _ _ c_towpathlaw01_LeftBytes_11 _ _ _
      refine wpE_ret (by kernel_rfl) ?_
      repeat (first | refine seqQ_ret ?_ | refine blockQ_ret ?_ | refine loopQ_ret ?_ | refine cutQ_ret ?_)
      exact retS (rs := [(Go.ResultVar.tmp 4)]) (v := Value.bool false) (by kernel_rfl) (⟨by kernel_rfl, trivial⟩) ⟨false, rfl, h⟩
    · replace h := h.2 hb
      refine wpE_skip (by kernel_rfl) ?_
      change WpE _ _ c_towpathlaw01_LeftBytes_13 _ _ _
      refine wpE_seq (x := c_towpathlaw01_LeftBytes_14) (y := c_towpathlaw01_LeftBytes_39) (by kernel_rfl) ?_
      refine wpE_seq (x := c_towpathlaw01_LeftBytes_15) (y := c_towpathlaw01_LeftBytes_17) (by kernel_rfl) ?_
      refine wpE_region (id := 3) (ops := r_towpathlaw01_LeftBytes_15) (by kernel_rfl) ?_
      refine reg_run [.plain] 1 [(0, [], Value.slice t_.ptr t_.len t_.cap), (1, [], Value.slice l_.ptr l_.len l_.cap), (5, [], Value.int .i64 0)] (by kernel_rfl) (by kernel_rfl) ?_
      refine reg_end [(0, Value.slice t_.ptr t_.len t_.cap), (1, Value.slice l_.ptr l_.len l_.cap), (5, Value.int .i64 0)] (by kernel_rfl) (by kernel_rfl) ?_
      change WpE _ _ c_towpathlaw01_LeftBytes_17 _ _ _
      refine wpE_block (id := 0) (x := c_towpathlaw01_LeftBytes_18) (by kernel_rfl) ?_
      obtain ⟨I, μ, h0, hr⟩ := h
      refine wpE_loop (x := c_towpathlaw01_LeftBytes_19) (by kernel_rfl) (fun m l w => ∃ (i : Int), l = [(0, Value.slice t_.ptr t_.len t_.cap), (1, Value.slice l_.ptr l_.len l_.cap), (5, Value.int .i64 i)] ∧ I i w ∧ μ i w = m) (l' := [(0, Value.slice t_.ptr t_.len t_.cap), (1, Value.slice l_.ptr l_.len l_.cap), (5, Value.int .i64 0)]) (Sub.mk (by kernel_rfl)) ⟨0, rfl, h0, rfl⟩ ?_
      rintro _ _ w1 ⟨i, rfl, hI, rfl⟩
      obtain ⟨again_, again__h, h⟩ : ∃ again_ : Int → World → Prop, (∀ i' w', again_ i' w' → I i' w' ∧ μ i' w' < μ i w1) ∧ F_towpathlaw01_LeftBytes_L0 t_ l_ R again_ i w1 := ⟨_, fun _ _ h => h, hr i w1 hI⟩
      clear h0 hI
      unfold F_towpathlaw01_LeftBytes_L0 at h
      refine wpE_seq (x := c_towpathlaw01_LeftBytes_20) (y := c_towpathlaw01_LeftBytes_26) (by kernel_rfl) ?_
      refine wpE_seq (x := c_towpathlaw01_LeftBytes_21) (y := c_towpathlaw01_LeftBytes_23) (by kernel_rfl) ?_
      refine wpE_region (id := 4) (ops := r_towpathlaw01_LeftBytes_21) (by kernel_rfl) ?_
      refine reg_run [.plain, .plain, .plain, .plain] 4 [(0, [], Value.slice t_.ptr t_.len t_.cap), (1, [], Value.slice l_.ptr l_.len l_.cap), (5, [], Value.int .i64 i), (22, [], Value.bool (decide (i < ((l_.len : Nat) : Int))))] (by kernel_rfl) (by kernel_rfl) ?_
      refine reg_end [(0, Value.slice t_.ptr t_.len t_.cap), (1, Value.slice l_.ptr l_.len l_.cap), (5, Value.int .i64 i), (22, Value.bool (decide (i < ((l_.len : Nat) : Int))))] (by kernel_rfl) (by kernel_rfl) ?_
      change WpE _ _ c_towpathlaw01_LeftBytes_23 _ _ _
      refine wpE_cond (o := (Operand.tmp 22)) (b := (decide (i < ((l_.len : Nat) : Int)))) (x := c_towpathlaw01_LeftBytes_24) (y := c_towpathlaw01_LeftBytes_25) (by kernel_rfl) (by kernel_rfl) (fun hb => ?_) (fun hb => ?_)
      · replace h := h.1 hb
        refine wpE_skip (by kernel_rfl) ?_
        change WpE _ _ c_towpathlaw01_LeftBytes_26 _ _ _
        refine wpE_seq (x := c_towpathlaw01_LeftBytes_27) (y := c_towpathlaw01_LeftBytes_37) (by kernel_rfl) ?_
        refine wpE_block (id := 1) (x := c_towpathlaw01_LeftBytes_28) (by kernel_rfl) ?_
        refine wpE_seq (x := c_towpathlaw01_LeftBytes_29) (y := c_towpathlaw01_LeftBytes_31) (by kernel_rfl) ?_
        refine wpE_drawregion (id := 6) (ops := r_towpathlaw01_LeftBytes_29) (by kernel_rfl) (by kernel_rfl) (by kernel_rfl) ?_
        refine qreg_run [.plain, .plain] 2 [(0, [], Value.slice t_.ptr t_.len t_.cap), (1, [], Value.slice l_.ptr l_.len l_.cap), (5, [], Value.int .i64 i), (25, [], Value.slice t_.ptr t_.len t_.cap), (26, [], Value.int .i64 i)] (by kernel_rfl) (by kernel_rfl) ?_
        obtain ⟨hp_14, h⟩ := h
        refine qreg_conv [(0, [], Value.slice t_.ptr t_.len t_.cap), (1, [], Value.slice l_.ptr l_.len l_.cap), (5, [], Value.int .i64 i), (25, [], Value.slice (some ⟨(pblk t_.ptr), (poff t_.ptr), none⟩) t_.len t_.cap), (26, [], Value.int .i64 i)] (congrArg (fun pp => ([(0, [], Value.slice t_.ptr t_.len t_.cap), (1, [], Value.slice l_.ptr l_.len l_.cap), (5, [], Value.int .i64 i), (25, [], Value.slice pp t_.len t_.cap), (26, [], Value.int .i64 i)] : GEnv)) hp_14) ?_
        obtain ⟨h0, h1, h⟩ := h
        refine qreg_indexS1 (t := 22) (e := 5) (x := (Go.Operand.tmp 25)) (ix := (Go.Operand.tmp 26)) (b := (pblk t_.ptr)) (o := (poff t_.ptr)) (l := t_.len) (c := t_.cap) (k := .i64) (j := i) (ty := 0) (dst := some 27) (by kernel_rfl) (by kernel_rfl) (by kernel_rfl) (by kernel_rfl) (by kernel_rfl) h0 h1 ?_
        refine qreg_run [] 3 [(0, [], Value.slice t_.ptr t_.len t_.cap), (1, [], Value.slice l_.ptr l_.len l_.cap), (5, [], Value.int .i64 i), (27, [], Value.pointer (some ⟨(pblk t_.ptr), (poff t_.ptr) + i.toNat, none⟩))] (by kernel_rfl) (by kernel_rfl) ?_
        obtain ⟨v28, hc, h⟩ := h
        refine qreg_load1 (t := 5) (a := (Go.Operand.tmp 27)) (b := (pblk t_.ptr)) (o := ((poff t_.ptr) + i.toNat)) (ty := 5) (dst := some 28) (by kernel_rfl) (by kernel_rfl) (by kernel_rfl) hc ?_
        refine qreg_run [.plain, .plain] 6 [(0, [], Value.slice t_.ptr t_.len t_.cap), (1, [], Value.slice l_.ptr l_.len l_.cap), (5, [], Value.int .i64 i), (28, [], Value.int .u8 v28), (29, [], Value.slice l_.ptr l_.len l_.cap), (30, [], Value.int .i64 i)] (by kernel_rfl) (by kernel_rfl) ?_
        obtain ⟨hp_15, h⟩ := h
        refine qreg_conv [(0, [], Value.slice t_.ptr t_.len t_.cap), (1, [], Value.slice l_.ptr l_.len l_.cap), (5, [], Value.int .i64 i), (28, [], Value.int .u8 v28), (29, [], Value.slice (some ⟨(pblk l_.ptr), (poff l_.ptr), none⟩) l_.len l_.cap), (30, [], Value.int .i64 i)] (congrArg (fun pp => ([(0, [], Value.slice t_.ptr t_.len t_.cap), (1, [], Value.slice l_.ptr l_.len l_.cap), (5, [], Value.int .i64 i), (28, [], Value.int .u8 v28), (29, [], Value.slice pp l_.len l_.cap), (30, [], Value.int .i64 i)] : GEnv)) hp_15) ?_
        obtain ⟨h0, h1, h⟩ := h
        refine qreg_indexS1 (t := 22) (e := 5) (x := (Go.Operand.tmp 29)) (ix := (Go.Operand.tmp 30)) (b := (pblk l_.ptr)) (o := (poff l_.ptr)) (l := l_.len) (c := l_.cap) (k := .i64) (j := i) (ty := 0) (dst := some 31) (by kernel_rfl) (by kernel_rfl) (by kernel_rfl) (by kernel_rfl) (by kernel_rfl) h0 h1 ?_
        refine qreg_run [] 7 [(0, [], Value.slice t_.ptr t_.len t_.cap), (1, [], Value.slice l_.ptr l_.len l_.cap), (5, [], Value.int .i64 i), (28, [], Value.int .u8 v28), (31, [], Value.pointer (some ⟨(pblk l_.ptr), (poff l_.ptr) + i.toNat, none⟩))] (by kernel_rfl) (by kernel_rfl) ?_
        obtain ⟨v32, hc, h⟩ := h
        refine qreg_load1 (t := 5) (a := (Go.Operand.tmp 31)) (b := (pblk l_.ptr)) (o := ((poff l_.ptr) + i.toNat)) (ty := 5) (dst := some 32) (by kernel_rfl) (by kernel_rfl) (by kernel_rfl) hc ?_
        refine qreg_run [.plain] 9 [(0, [], Value.slice t_.ptr t_.len t_.cap), (1, [], Value.slice l_.ptr l_.len l_.cap), (5, [], Value.int .i64 i), (33, [], Value.bool (v28 != v32))] (by kernel_rfl) (by kernel_rfl) ?_
        refine qreg_end [(0, Value.slice t_.ptr t_.len t_.cap), (1, Value.slice l_.ptr l_.len l_.cap), (5, Value.int .i64 i), (33, Value.bool (v28 != v32))] (by kernel_rfl) (by kernel_rfl) (fun w2 hw => ?_)
        replace h := h w2 hw
        clear hw
        change WpE _ _ c_towpathlaw01_LeftBytes_31 _ _ _
        refine wpE_cond (o := (Operand.tmp 33)) (b := (v28 != v32)) (x := c_towpathlaw01_LeftBytes_32) (y := c_towpathlaw01_LeftBytes_36) (by kernel_rfl) (by kernel_rfl) (fun hb => ?_) (fun hb => ?_)
        · replace h := h.1 hb
          refine wpE_seq (x := c_towpathlaw01_LeftBytes_33) (y := c_towpathlaw01_LeftBytes_35) (by kernel_rfl) ?_
          refine wpE_region (id := 7) (ops := r_towpathlaw01_LeftBytes_33) (by kernel_rfl) ?_
          refine reg_run [.plain] 1 [(4, [], Value.bool false)] (by kernel_rfl) (by kernel_rfl) ?_
          refine reg_end [(4, Value.bool false)] (by kernel_rfl) (by kernel_rfl) ?_
          change WpE _ _ c_towpathlaw01_LeftBytes_35 _ _ _
          refine wpE_ret (by kernel_rfl) ?_
          repeat (first | refine seqQ_ret ?_ | refine blockQ_ret ?_ | refine loopQ_ret ?_ | refine cutQ_ret ?_)
          exact retS (rs := [(Go.ResultVar.tmp 4)]) (v := Value.bool false) (by kernel_rfl) (⟨by kernel_rfl, trivial⟩) ⟨false, rfl, h⟩
        · replace h := h.2 hb
          refine wpE_skip (by kernel_rfl) ?_
          change WpE _ _ c_towpathlaw01_LeftBytes_37 _ _ _
          refine wpE_region (id := 5) (ops := r_towpathlaw01_LeftBytes_37) (by kernel_rfl) ?_
          refine reg_run [.plain, .plain, .plain] 3 [(0, [], Value.slice t_.ptr t_.len t_.cap), (1, [], Value.slice l_.ptr l_.len l_.cap), (5, [], Value.int .i64 (IntKind.i64.wrap (i + 1)))] (by kernel_rfl) (by kernel_rfl) ?_
          refine reg_end [(0, Value.slice t_.ptr t_.len t_.cap), (1, Value.slice l_.ptr l_.len l_.cap), (5, Value.int .i64 (IntKind.i64.wrap (i + 1)))] (by kernel_rfl) (by kernel_rfl) ?_
          have hb_ := again__h _ _ h
          exact ⟨_, hb_.2, [(0, Value.slice t_.ptr t_.len t_.cap), (1, Value.slice l_.ptr l_.len l_.cap), (5, Value.int .i64 (IntKind.i64.wrap (i + 1)))], Sub.mk (by kernel_rfl), (IntKind.i64.wrap (i + 1)), rfl, hb_.1, rfl⟩
      · replace h := h.2 hb
        refine wpE_exit (id := 0) (by kernel_rfl) ?_
        change WpE _ _ c_towpathlaw01_LeftBytes_39 _ _ _
        refine wpE_seq (x := c_towpathlaw01_LeftBytes_40) (y := c_towpathlaw01_LeftBytes_42) (by kernel_rfl) ?_
        refine wpE_region (id := 8) (ops := r_towpathlaw01_LeftBytes_40) (by kernel_rfl) ?_
        refine reg_run [.plain, .plain, .plain, .plain] 4 [(1, [], Value.slice l_.ptr l_.len l_.cap), (34, [], Value.slice t_.ptr t_.len t_.cap), (37, [], Value.int .i64 (IntKind.i64.wrap (((l_.len : Nat) : Int) + 1)))] (by kernel_rfl) (by kernel_rfl) ?_
        obtain ⟨h0, h1, h⟩ := h
        refine reg_sliceHi (t := 22) (e := 5) (x := (Go.Operand.tmp 34)) (hi := (Go.Operand.tmp 37)) (p := t_.ptr) (l := t_.len) (c := t_.cap) (sz := 1) (k := .i64) (j := (IntKind.i64.wrap (((l_.len : Nat) : Int) + 1))) (ty := 22) (dst := some 38) (by kernel_rfl) (by kernel_rfl) (by kernel_rfl) (by kernel_rfl) (by kernel_rfl) h0 h1 ?_
        refine reg_run [.plain, .plain] 7 [(38, [], Value.slice t_.ptr ((IntKind.i64.wrap (((l_.len : Nat) : Int) + 1)).toNat) t_.cap), (40, [], Value.int .i64 ((l_.len : Nat) : Int))] (by kernel_rfl) (by kernel_rfl) ?_
        obtain ⟨hp_17, h⟩ := h
        refine reg_conv [(38, [], Value.slice (some ⟨(pblk t_.ptr), (poff t_.ptr), none⟩) ((IntKind.i64.wrap (((l_.len : Nat) : Int) + 1)).toNat) t_.cap), (40, [], Value.int .i64 ((l_.len : Nat) : Int))] (congrArg (fun pp => ([(38, [], Value.slice pp ((IntKind.i64.wrap (((l_.len : Nat) : Int) + 1)).toNat) t_.cap), (40, [], Value.int .i64 ((l_.len : Nat) : Int))] : GEnv)) hp_17) ?_
        obtain ⟨h0, h1, h⟩ := h
        refine reg_indexS1 (t := 22) (e := 5) (x := (Go.Operand.tmp 38)) (ix := (Go.Operand.tmp 40)) (b := (pblk t_.ptr)) (o := (poff t_.ptr)) (l := ((IntKind.i64.wrap (((l_.len : Nat) : Int) + 1)).toNat)) (c := t_.cap) (k := .i64) (j := ((l_.len : Nat) : Int)) (ty := 0) (dst := some 41) (by kernel_rfl) (by kernel_rfl) (by kernel_rfl) (by kernel_rfl) (by kernel_rfl) h0 h1 ?_
        refine reg_run [] 8 [(41, [], Value.pointer (some ⟨(pblk t_.ptr), (poff t_.ptr) + ((l_.len : Nat) : Int).toNat, none⟩))] (by kernel_rfl) (by kernel_rfl) ?_
        obtain ⟨x, hc, h⟩ := h
        refine reg_load1 (t := 5) (a := (Go.Operand.tmp 41)) (b := (pblk t_.ptr)) (o := ((poff t_.ptr) + ((l_.len : Nat) : Int).toNat)) (ty := 5) (dst := some 42) (by kernel_rfl) (by kernel_rfl) (by kernel_rfl) hc ?_
        refine reg_run [.plain] 10 [(6, [], Value.int .u8 x)] (by kernel_rfl) (by kernel_rfl) ?_
        refine reg_end [(6, Value.int .u8 x)] (by kernel_rfl) (by kernel_rfl) ?_
        change WpE _ _ c_towpathlaw01_LeftBytes_42 _ _ _
        refine wpE_seq (x := c_towpathlaw01_LeftBytes_43) (y := c_towpathlaw01_LeftBytes_45) (by kernel_rfl) ?_
        refine wpE_region (id := 9) (ops := r_towpathlaw01_LeftBytes_43) (by kernel_rfl) ?_
        refine reg_run [.plain, .plain, .plain] 3 [(4, [], Value.bool (x == 77))] (by kernel_rfl) (by kernel_rfl) ?_
        refine reg_end [(4, Value.bool (x == 77))] (by kernel_rfl) (by kernel_rfl) ?_
        change WpE _ _ c_towpathlaw01_LeftBytes_45 _ _ _
        refine wpE_ret (by kernel_rfl) ?_
        repeat (first | refine seqQ_ret ?_ | refine blockQ_ret ?_ | refine loopQ_ret ?_ | refine cutQ_ret ?_)
        exact retS (rs := [(Go.ResultVar.tmp 4)]) (v := Value.bool (x == 77)) (by kernel_rfl) (⟨by kernel_rfl, trivial⟩) ⟨(x == 77), rfl, h⟩
  · rintro e w' ⟨v, rfl, r0, rfl, h⟩; exact ⟨r0, rfl, h⟩

/-! ### towpath/towpathlaw01.TxnsSize (function 22) -/
noncomputable def c_towpathlaw01_TxnsSize_0 : Code := (Try.f22.body).getD Code.skip
noncomputable def c_towpathlaw01_TxnsSize_1 : Code := Code.l c_towpathlaw01_TxnsSize_0
noncomputable def r_towpathlaw01_TxnsSize_1 : Array Oper := Code.ops c_towpathlaw01_TxnsSize_1
noncomputable def c_towpathlaw01_TxnsSize_3 : Code := Code.r c_towpathlaw01_TxnsSize_0
noncomputable def c_towpathlaw01_TxnsSize_4 : Code := Code.l c_towpathlaw01_TxnsSize_3
noncomputable def r_towpathlaw01_TxnsSize_4 : Array Oper := Code.ops c_towpathlaw01_TxnsSize_4
noncomputable def c_towpathlaw01_TxnsSize_6 : Code := Code.r c_towpathlaw01_TxnsSize_3
noncomputable def c_towpathlaw01_TxnsSize_7 : Code := Code.l c_towpathlaw01_TxnsSize_6
noncomputable def c_towpathlaw01_TxnsSize_8 : Code := Code.l c_towpathlaw01_TxnsSize_7
noncomputable def r_towpathlaw01_TxnsSize_8 : Array Oper := Code.ops c_towpathlaw01_TxnsSize_8
noncomputable def c_towpathlaw01_TxnsSize_10 : Code := Code.r c_towpathlaw01_TxnsSize_7
noncomputable def c_towpathlaw01_TxnsSize_11 : Code := Code.l c_towpathlaw01_TxnsSize_10
noncomputable def c_towpathlaw01_TxnsSize_12 : Code := Code.l c_towpathlaw01_TxnsSize_11
noncomputable def c_towpathlaw01_TxnsSize_13 : Code := Code.l c_towpathlaw01_TxnsSize_12
noncomputable def c_towpathlaw01_TxnsSize_14 : Code := Code.l c_towpathlaw01_TxnsSize_13
noncomputable def r_towpathlaw01_TxnsSize_14 : Array Oper := Code.ops c_towpathlaw01_TxnsSize_14
noncomputable def c_towpathlaw01_TxnsSize_16 : Code := Code.r c_towpathlaw01_TxnsSize_13
noncomputable def c_towpathlaw01_TxnsSize_17 : Code := Code.l c_towpathlaw01_TxnsSize_16
noncomputable def c_towpathlaw01_TxnsSize_18 : Code := Code.r c_towpathlaw01_TxnsSize_16
noncomputable def c_towpathlaw01_TxnsSize_19 : Code := Code.r c_towpathlaw01_TxnsSize_12
noncomputable def c_towpathlaw01_TxnsSize_20 : Code := Code.l c_towpathlaw01_TxnsSize_19
noncomputable def c_towpathlaw01_TxnsSize_21 : Code := Code.l c_towpathlaw01_TxnsSize_20
noncomputable def r_towpathlaw01_TxnsSize_21 : Array Oper := Code.ops c_towpathlaw01_TxnsSize_21
noncomputable def c_towpathlaw01_TxnsSize_23 : Code := Code.r c_towpathlaw01_TxnsSize_19
noncomputable def r_towpathlaw01_TxnsSize_23 : Array Oper := Code.ops c_towpathlaw01_TxnsSize_23
noncomputable def c_towpathlaw01_TxnsSize_25 : Code := Code.r c_towpathlaw01_TxnsSize_6
noncomputable def c_towpathlaw01_TxnsSize_26 : Code := Code.l c_towpathlaw01_TxnsSize_25
noncomputable def r_towpathlaw01_TxnsSize_26 : Array Oper := Code.ops c_towpathlaw01_TxnsSize_26
noncomputable def c_towpathlaw01_TxnsSize_28 : Code := Code.r c_towpathlaw01_TxnsSize_25

set_option maxRecDepth 100000 in
set_option maxHeartbeats 4000000 in
theorem S_towpathlaw01_TxnsSize {l_ : Slc} {w : World} {R : Int → World → Prop} (h : F_towpathlaw01_TxnsSize l_ R w) : C_towpathlaw01_TxnsSize l_ w R := by
  unfold F_towpathlaw01_TxnsSize at h
  unfold C_towpathlaw01_TxnsSize
  refine Calls.mono (calls_of_wpE (args := [Value.slice l_.ptr l_.len l_.cap]) (R := fun v w' => ∃ (r0 : Int), v = Value.int .i64 r0 ∧ R r0 w') Try.func22 (c := c_towpathlaw01_TxnsSize_0) (by kernel_rfl) 25 (by kernel_rfl) (by kernel_rfl) [(0, Value.slice l_.ptr l_.len l_.cap)] (by kernel_rfl) ?_) ?_
  · refine wpE_seq (x := c_towpathlaw01_TxnsSize_1) (y := c_towpathlaw01_TxnsSize_3) (by kernel_rfl) ?_
    refine wpE_region (id := 0) (ops := r_towpathlaw01_TxnsSize_1) (by kernel_rfl) ?_
    refine reg_run [.plain] 1 [(0, [], Value.slice l_.ptr l_.len l_.cap)] (by kernel_rfl) (by kernel_rfl) ?_
    refine reg_end [(0, Value.slice l_.ptr l_.len l_.cap)] (by kernel_rfl) (by kernel_rfl) ?_
    change WpE _ _ c_towpathlaw01_TxnsSize_3 _ _ _
    refine wpE_seq (x := c_towpathlaw01_TxnsSize_4) (y := c_towpathlaw01_TxnsSize_6) (by kernel_rfl) ?_
    refine wpE_region (id := 1) (ops := r_towpathlaw01_TxnsSize_4) (by kernel_rfl) ?_
    refine reg_run [.plain, .plain, .plain] 3 [(0, [], Value.slice l_.ptr l_.len l_.cap), (3, [], Value.int .i64 ((l_.len : Nat) : Int))] (by kernel_rfl) (by kernel_rfl) ?_
    refine reg_end [(0, Value.slice l_.ptr l_.len l_.cap), (3, Value.int .i64 ((l_.len : Nat) : Int))] (by kernel_rfl) (by kernel_rfl) ?_
    change WpE _ _ c_towpathlaw01_TxnsSize_6 _ _ _
    refine wpE_seq (x := c_towpathlaw01_TxnsSize_7) (y := c_towpathlaw01_TxnsSize_25) (by kernel_rfl) ?_
    refine wpE_seq (x := c_towpathlaw01_TxnsSize_8) (y := c_towpathlaw01_TxnsSize_10) (by kernel_rfl) ?_
    refine wpE_region (id := 2) (ops := r_towpathlaw01_TxnsSize_8) (by kernel_rfl) ?_
    refine reg_run [.plain] 1 [(0, [], Value.slice l_.ptr l_.len l_.cap), (3, [], Value.int .i64 ((l_.len : Nat) : Int)), (4, [], Value.int .i64 0)] (by kernel_rfl) (by kernel_rfl) ?_
    refine reg_end [(0, Value.slice l_.ptr l_.len l_.cap), (3, Value.int .i64 ((l_.len : Nat) : Int)), (4, Value.int .i64 0)] (by kernel_rfl) (by kernel_rfl) ?_
    change WpE _ _ c_towpathlaw01_TxnsSize_10 _ _ _
    refine wpE_block (id := 0) (x := c_towpathlaw01_TxnsSize_11) (by kernel_rfl) ?_
    obtain ⟨I, μ, h0, hr⟩ := h
    refine wpE_loop (x := c_towpathlaw01_TxnsSize_12) (by kernel_rfl) (fun m l w => ∃ (n_ : Int) (i : Int), l = [(0, Value.slice l_.ptr l_.len l_.cap), (3, Value.int .i64 n_), (4, Value.int .i64 i)] ∧ I n_ i w ∧ μ n_ i w = m) (l' := [(0, Value.slice l_.ptr l_.len l_.cap), (3, Value.int .i64 ((l_.len : Nat) : Int)), (4, Value.int .i64 0)]) (Sub.mk (by kernel_rfl)) ⟨((l_.len : Nat) : Int), 0, rfl, h0, rfl⟩ ?_
    rintro _ _ w1 ⟨n_, i, rfl, hI, rfl⟩
    obtain ⟨again_, again__h, h⟩ : ∃ again_ : Int → Int → World → Prop, (∀ n_' i' w', again_ n_' i' w' → I n_' i' w' ∧ μ n_' i' w' < μ n_ i w1) ∧ F_towpathlaw01_TxnsSize_L0 l_ R again_ n_ i w1 := ⟨_, fun _ _ _ h => h, hr n_ i w1 hI⟩
    clear h0 hI
    unfold F_towpathlaw01_TxnsSize_L0 at h
    refine wpE_seq (x := c_towpathlaw01_TxnsSize_13) (y := c_towpathlaw01_TxnsSize_19) (by kernel_rfl) ?_
    refine wpE_seq (x := c_towpathlaw01_TxnsSize_14) (y := c_towpathlaw01_TxnsSize_16) (by kernel_rfl) ?_
    refine wpE_region (id := 3) (ops := r_towpathlaw01_TxnsSize_14) (by kernel_rfl) ?_
    refine reg_run [.plain, .plain, .plain, .plain, .plain, .plain, .plain, .pick] 8 [(0, [], Value.slice l_.ptr l_.len l_.cap), (3, [], Value.int .i64 n_), (4, [], Value.int .i64 i), (14, [], Value.bool ((decide (i < ((l_.len : Nat) : Int))) && (decide (n_ ≤ 1048576))))] (by kernel_rfl) (by kernel_rfl) ?_
    refine reg_end [(0, Value.slice l_.ptr l_.len l_.cap), (3, Value.int .i64 n_), (4, Value.int .i64 i), (14, Value.bool ((decide (i < ((l_.len : Nat) : Int))) && (decide (n_ ≤ 1048576))))] (by kernel_rfl) (by kernel_rfl) ?_
    change WpE _ _ c_towpathlaw01_TxnsSize_16 _ _ _
    refine wpE_cond (o := (Operand.tmp 14)) (b := ((decide (i < ((l_.len : Nat) : Int))) && (decide (n_ ≤ 1048576)))) (x := c_towpathlaw01_TxnsSize_17) (y := c_towpathlaw01_TxnsSize_18) (by kernel_rfl) (by kernel_rfl) (fun hb => ?_) (fun hb => ?_)
    · replace h := h.1 hb
      refine wpE_skip (by kernel_rfl) ?_
      change WpE _ _ c_towpathlaw01_TxnsSize_19 _ _ _
      refine wpE_seq (x := c_towpathlaw01_TxnsSize_20) (y := c_towpathlaw01_TxnsSize_23) (by kernel_rfl) ?_
      refine wpE_block (id := 1) (x := c_towpathlaw01_TxnsSize_21) (by kernel_rfl) ?_
      refine wpE_region (id := 5) (ops := r_towpathlaw01_TxnsSize_21) (by kernel_rfl) ?_
      refine reg_run [.plain, .plain, .plain] 3 [(0, [], Value.slice l_.ptr l_.len l_.cap), (3, [], Value.int .i64 n_), (4, [], Value.int .i64 i), (17, [], Value.int .i64 n_), (18, [], Value.slice l_.ptr l_.len l_.cap), (19, [], Value.int .i64 i)] (by kernel_rfl) (by kernel_rfl) ?_
      obtain ⟨hp_3, h⟩ := h
      refine reg_conv [(0, [], Value.slice l_.ptr l_.len l_.cap), (3, [], Value.int .i64 n_), (4, [], Value.int .i64 i), (17, [], Value.int .i64 n_), (18, [], Value.slice (some ⟨(pblk l_.ptr), (poff l_.ptr), none⟩) l_.len l_.cap), (19, [], Value.int .i64 i)] (congrArg (fun pp => ([(0, [], Value.slice l_.ptr l_.len l_.cap), (3, [], Value.int .i64 n_), (4, [], Value.int .i64 i), (17, [], Value.int .i64 n_), (18, [], Value.slice pp l_.len l_.cap), (19, [], Value.int .i64 i)] : GEnv)) hp_3) ?_
      obtain ⟨h0, h1, h⟩ := h
      refine reg_indexS (t := 52) (e := 27) (x := (Go.Operand.tmp 18)) (ix := (Go.Operand.tmp 19)) (b := (pblk l_.ptr)) (o := (poff l_.ptr)) (l := l_.len) (c := l_.cap) (k := .i64) (j := i) (ty := 0) (dst := some 20) (sz := 2) (by kernel_rfl) (by kernel_rfl) (by kernel_rfl) (by kernel_rfl) (by kernel_rfl) h0 h1 ?_
      refine reg_run [] 4 [(0, [], Value.slice l_.ptr l_.len l_.cap), (3, [], Value.int .i64 n_), (4, [], Value.int .i64 i), (17, [], Value.int .i64 n_), (20, [], Value.pointer (some ⟨(pblk l_.ptr), (poff l_.ptr) + i.toNat * 2, none⟩))] (by kernel_rfl) (by kernel_rfl) ?_
      obtain ⟨v21, hc, h⟩ := h
      refine reg_loadN (t := 27) (a := (Go.Operand.tmp 20)) (b := (pblk l_.ptr)) (o := ((poff l_.ptr) + i.toNat * 2)) (ty := 27) (dst := some 21) [Value.int .i64 v21.Number, Value.slice v21.Writes.ptr v21.Writes.len v21.Writes.cap] (by kernel_rfl) (by kernel_rfl) (by kernel_rfl) (k := 2) (by kernel_rfl) (by kernel_rfl) hc ?_
      refine reg_run [] 5 [(0, [], Value.slice l_.ptr l_.len l_.cap), (3, [], Value.int .i64 n_), (4, [], Value.int .i64 i), (17, [], Value.int .i64 n_), (21, [], Value.agg #[Value.int .i64 v21.Number, Value.slice v21.Writes.ptr v21.Writes.len v21.Writes.cap])] (by kernel_rfl) (by kernel_rfl) ?_
      refine reg_enter (op := (Go.Op.call (Go.Call.mk (Go.Callee.value (Go.Operand.func 32)) #[(Go.Operand.tmp 21)] #[27]))) (ty := 3) (dst := some 22) 32 #[Value.agg #[Value.int .i64 v21.Number, Value.slice v21.Writes.ptr v21.Writes.len v21.Writes.cap]] (by kernel_rfl) (fun ww => by kernel_rfl) (Calls.mono h ?_)
      rintro _ w2 ⟨v22, rfl, h⟩
      refine ⟨_, rfl, ?_⟩
      refine reg_run [.plain, .plain] 8 [(0, [], Value.slice l_.ptr l_.len l_.cap), (3, [], Value.int .i64 (IntKind.i64.wrap (n_ + v22))), (4, [], Value.int .i64 i)] (by kernel_rfl) (by kernel_rfl) ?_
      refine reg_end [(0, Value.slice l_.ptr l_.len l_.cap), (3, Value.int .i64 (IntKind.i64.wrap (n_ + v22))), (4, Value.int .i64 i)] (by kernel_rfl) (by kernel_rfl) ?_
      change WpE _ _ c_towpathlaw01_TxnsSize_23 _ _ _
      refine wpE_region (id := 4) (ops := r_towpathlaw01_TxnsSize_23) (by kernel_rfl) ?_
      refine reg_run [.plain, .plain, .plain] 3 [(0, [], Value.slice l_.ptr l_.len l_.cap), (3, [], Value.int .i64 (IntKind.i64.wrap (n_ + v22))), (4, [], Value.int .i64 (IntKind.i64.wrap (i + 1)))] (by kernel_rfl) (by kernel_rfl) ?_
      refine reg_end [(0, Value.slice l_.ptr l_.len l_.cap), (3, Value.int .i64 (IntKind.i64.wrap (n_ + v22))), (4, Value.int .i64 (IntKind.i64.wrap (i + 1)))] (by kernel_rfl) (by kernel_rfl) ?_
      have hb_ := again__h _ _ _ h
      exact ⟨_, hb_.2, [(0, Value.slice l_.ptr l_.len l_.cap), (3, Value.int .i64 (IntKind.i64.wrap (n_ + v22))), (4, Value.int .i64 (IntKind.i64.wrap (i + 1)))], Sub.mk (by kernel_rfl), (IntKind.i64.wrap (n_ + v22)), (IntKind.i64.wrap (i + 1)), rfl, hb_.1, rfl⟩
    · replace h := h.2 hb
      refine wpE_exit (id := 0) (by kernel_rfl) ?_
      change WpE _ _ c_towpathlaw01_TxnsSize_25 _ _ _
      refine wpE_seq (x := c_towpathlaw01_TxnsSize_26) (y := c_towpathlaw01_TxnsSize_28) (by kernel_rfl) ?_
      refine wpE_region (id := 6) (ops := r_towpathlaw01_TxnsSize_26) (by kernel_rfl) ?_
      refine reg_run [.plain, .plain] 2 [(2, [], Value.int .i64 n_)] (by kernel_rfl) (by kernel_rfl) ?_
      refine reg_end [(2, Value.int .i64 n_)] (by kernel_rfl) (by kernel_rfl) ?_
      change WpE _ _ c_towpathlaw01_TxnsSize_28 _ _ _
      refine wpE_ret (by kernel_rfl) ?_
      repeat (first | refine seqQ_ret ?_ | refine blockQ_ret ?_ | refine loopQ_ret ?_ | refine cutQ_ret ?_)
      exact retS (rs := [(Go.ResultVar.tmp 2)]) (v := Value.int .i64 n_) (by kernel_rfl) (⟨by kernel_rfl, trivial⟩) ⟨n_, rfl, h⟩
  · rintro e w' ⟨v, rfl, r0, rfl, h⟩; exact ⟨r0, rfl, h⟩

/-! ### towpath/towpathlaw01.TxnSize (function 32) -/
noncomputable def c_towpathlaw01_TxnSize_0 : Code := (Try.f32.body).getD Code.skip
noncomputable def c_towpathlaw01_TxnSize_1 : Code := Code.l c_towpathlaw01_TxnSize_0
noncomputable def r_towpathlaw01_TxnSize_1 : Array Oper := Code.ops c_towpathlaw01_TxnSize_1
noncomputable def c_towpathlaw01_TxnSize_3 : Code := Code.r c_towpathlaw01_TxnSize_0
noncomputable def c_towpathlaw01_TxnSize_4 : Code := Code.l c_towpathlaw01_TxnSize_3
noncomputable def r_towpathlaw01_TxnSize_4 : Array Oper := Code.ops c_towpathlaw01_TxnSize_4
noncomputable def c_towpathlaw01_TxnSize_6 : Code := Code.r c_towpathlaw01_TxnSize_3

set_option maxRecDepth 100000 in
set_option maxHeartbeats 4000000 in
theorem S_towpathlaw01_TxnSize {t_ : T_api_Txn} {w : World} {R : Int → World → Prop} (h : F_towpathlaw01_TxnSize t_ R w) : C_towpathlaw01_TxnSize t_ w R := by
  unfold F_towpathlaw01_TxnSize at h
  unfold C_towpathlaw01_TxnSize
  refine Calls.mono (calls_of_wpE (args := [Value.agg #[Value.int .i64 t_.Number, Value.slice t_.Writes.ptr t_.Writes.len t_.Writes.cap]]) (R := fun v w' => ∃ (r0 : Int), v = Value.int .i64 r0 ∧ R r0 w') Try.func32 (c := c_towpathlaw01_TxnSize_0) (by kernel_rfl) 7 (by kernel_rfl) (by kernel_rfl) [(0, Value.agg #[Value.int .i64 t_.Number, Value.slice t_.Writes.ptr t_.Writes.len t_.Writes.cap])] (by kernel_rfl) ?_) ?_
  · refine wpE_seq (x := c_towpathlaw01_TxnSize_1) (y := c_towpathlaw01_TxnSize_3) (by kernel_rfl) ?_
    refine wpE_region (id := 0) (ops := r_towpathlaw01_TxnSize_1) (by kernel_rfl) ?_
    refine reg_run [] 0 [(0, [], Value.agg #[Value.int .i64 t_.Number, Value.slice t_.Writes.ptr t_.Writes.len t_.Writes.cap])] (by kernel_rfl) (by kernel_rfl) ?_
    refine reg_new (op := (Go.Op.box 27 (Go.Operand.tmp 0))) (ty := 0) (dst := some 1) (fun bb => Value.pointer (some ⟨bb, 0, none⟩)) (Obj.cells ([Value.int .i64 t_.Number, Value.slice t_.Writes.ptr t_.Writes.len t_.Writes.cap]).toArray ty_api_Txn (0, 0)) (by kernel_rfl) (by kernel_rfl) (fun b_ w1 hb hw => ?_)
    replace h := h b_ w1 hb hw
    clear hb hw
    refine reg_run [.plain] 2 [(1, [], Value.pointer (some ⟨b_, 0, none⟩))] (by kernel_rfl) (by kernel_rfl) ?_
    refine reg_end [(1, Value.pointer (some ⟨b_, 0, none⟩))] (by kernel_rfl) (by kernel_rfl) ?_
    change WpE _ _ c_towpathlaw01_TxnSize_3 _ _ _
    refine wpE_seq (x := c_towpathlaw01_TxnSize_4) (y := c_towpathlaw01_TxnSize_6) (by kernel_rfl) ?_
    refine wpE_region (id := 1) (ops := r_towpathlaw01_TxnSize_4) (by kernel_rfl) ?_
    refine reg_run [.plain] 1 [(3, [], Value.pointer (some ⟨b_, 1, none⟩))] (by kernel_rfl) (by kernel_rfl) ?_
    obtain ⟨v4, hc, h⟩ := h
    refine reg_load1 (t := 25) (a := (Go.Operand.tmp 3)) (b := b_) (o := 1) (ty := 25) (dst := some 4) (by kernel_rfl) (by kernel_rfl) (by kernel_rfl) hc ?_
    refine reg_run [] 2 [(4, [], Value.slice v4.ptr v4.len v4.cap)] (by kernel_rfl) (by kernel_rfl) ?_
    refine reg_enter (op := (Go.Op.call (Go.Call.mk (Go.Callee.value (Go.Operand.func 65)) #[(Go.Operand.tmp 4)] #[25]))) (ty := 3) (dst := some 5) 65 #[Value.slice v4.ptr v4.len v4.cap] (by kernel_rfl) (fun ww => by kernel_rfl) (Calls.mono h ?_)
    rintro _ w2 ⟨v5, rfl, h⟩
    refine ⟨_, rfl, ?_⟩
    refine reg_run [.plain, .plain] 5 [(2, [], Value.int .i64 (IntKind.i64.wrap (1 + v5)))] (by kernel_rfl) (by kernel_rfl) ?_
    refine reg_end [(2, Value.int .i64 (IntKind.i64.wrap (1 + v5)))] (by kernel_rfl) (by kernel_rfl) ?_
    change WpE _ _ c_towpathlaw01_TxnSize_6 _ _ _
    refine wpE_ret (by kernel_rfl) ?_
    repeat (first | refine seqQ_ret ?_ | refine blockQ_ret ?_ | refine loopQ_ret ?_ | refine cutQ_ret ?_)
    exact retS (rs := [(Go.ResultVar.tmp 2)]) (v := Value.int .i64 (IntKind.i64.wrap (1 + v5))) (by kernel_rfl) (⟨by kernel_rfl, trivial⟩) ⟨(IntKind.i64.wrap (1 + v5)), rfl, h⟩
  · rintro e w' ⟨v, rfl, r0, rfl, h⟩; exact ⟨r0, rfl, h⟩

/-! ### towpath/towpathlaw01.SameReq (function 33) -/
noncomputable def c_towpathlaw01_SameReq_0 : Code := (Try.f33.body).getD Code.skip
noncomputable def c_towpathlaw01_SameReq_1 : Code := Code.l c_towpathlaw01_SameReq_0
noncomputable def r_towpathlaw01_SameReq_1 : Array Oper := Code.ops c_towpathlaw01_SameReq_1
noncomputable def c_towpathlaw01_SameReq_3 : Code := Code.r c_towpathlaw01_SameReq_0
noncomputable def c_towpathlaw01_SameReq_4 : Code := Code.l c_towpathlaw01_SameReq_3
noncomputable def r_towpathlaw01_SameReq_4 : Array Oper := Code.ops c_towpathlaw01_SameReq_4
noncomputable def c_towpathlaw01_SameReq_6 : Code := Code.r c_towpathlaw01_SameReq_3

set_option maxRecDepth 100000 in
set_option maxHeartbeats 4000000 in
theorem S_towpathlaw01_SameReq {a_ : T_api_Req} {b_ : T_api_Req} {w : World} {R : Bool → World → Prop} (h : F_towpathlaw01_SameReq a_ b_ R w) : C_towpathlaw01_SameReq a_ b_ w R := by
  unfold F_towpathlaw01_SameReq at h
  unfold C_towpathlaw01_SameReq
  refine Calls.mono (calls_of_wpE (args := [Value.agg #[Value.int .u8 a_.Kind, Value.int .i64 a_.From, Value.int .i64 a_.Number, Value.string a_.Write.Key, Value.string a_.Write.Val, Value.bool a_.Write.Drop, Value.string a_.Key, Value.string a_.End, Value.slice a_.Beyond.ptr a_.Beyond.len a_.Beyond.cap], Value.agg #[Value.int .u8 b_.Kind, Value.int .i64 b_.From, Value.int .i64 b_.Number, Value.string b_.Write.Key, Value.string b_.Write.Val, Value.bool b_.Write.Drop, Value.string b_.Key, Value.string b_.End, Value.slice b_.Beyond.ptr b_.Beyond.len b_.Beyond.cap]]) (R := fun v w' => ∃ (r0 : Bool), v = Value.bool r0 ∧ R r0 w') Try.func33 (c := c_towpathlaw01_SameReq_0) (by kernel_rfl) 52 (by kernel_rfl) (by kernel_rfl) [(0, Value.agg #[Value.int .u8 a_.Kind, Value.int .i64 a_.From, Value.int .i64 a_.Number, Value.string a_.Write.Key, Value.string a_.Write.Val, Value.bool a_.Write.Drop, Value.string a_.Key, Value.string a_.End, Value.slice a_.Beyond.ptr a_.Beyond.len a_.Beyond.cap]), (1, Value.agg #[Value.int .u8 b_.Kind, Value.int .i64 b_.From, Value.int .i64 b_.Number, Value.string b_.Write.Key, Value.string b_.Write.Val, Value.bool b_.Write.Drop, Value.string b_.Key, Value.string b_.End, Value.slice b_.Beyond.ptr b_.Beyond.len b_.Beyond.cap])] (by kernel_rfl) ?_) ?_
  · refine wpE_seq (x := c_towpathlaw01_SameReq_1) (y := c_towpathlaw01_SameReq_3) (by kernel_rfl) ?_
    refine wpE_region (id := 0) (ops := r_towpathlaw01_SameReq_1) (by kernel_rfl) ?_
    refine reg_run [] 0 [(0, [], Value.agg #[Value.int .u8 a_.Kind, Value.int .i64 a_.From, Value.int .i64 a_.Number, Value.string a_.Write.Key, Value.string a_.Write.Val, Value.bool a_.Write.Drop, Value.string a_.Key, Value.string a_.End, Value.slice a_.Beyond.ptr a_.Beyond.len a_.Beyond.cap]), (1, [], Value.agg #[Value.int .u8 b_.Kind, Value.int .i64 b_.From, Value.int .i64 b_.Number, Value.string b_.Write.Key, Value.string b_.Write.Val, Value.bool b_.Write.Drop, Value.string b_.Key, Value.string b_.End, Value.slice b_.Beyond.ptr b_.Beyond.len b_.Beyond.cap])] (by kernel_rfl) (by kernel_rfl) ?_
    refine reg_new (op := (Go.Op.box 65 (Go.Operand.tmp 0))) (ty := 0) (dst := some 2) (fun bb => Value.pointer (some ⟨bb, 0, none⟩)) (Obj.cells ([Value.int .u8 a_.Kind, Value.int .i64 a_.From, Value.int .i64 a_.Number, Value.string a_.Write.Key, Value.string a_.Write.Val, Value.bool a_.Write.Drop, Value.string a_.Key, Value.string a_.End, Value.slice a_.Beyond.ptr a_.Beyond.len a_.Beyond.cap]).toArray ty_api_Req (0, 0)) (by kernel_rfl) (by kernel_rfl) (fun b_1 w1 hb hw => ?_)
    replace h := h b_1 w1 hb hw
    clear hb hw
    refine reg_run [] 1 [(1, [], Value.agg #[Value.int .u8 b_.Kind, Value.int .i64 b_.From, Value.int .i64 b_.Number, Value.string b_.Write.Key, Value.string b_.Write.Val, Value.bool b_.Write.Drop, Value.string b_.Key, Value.string b_.End, Value.slice b_.Beyond.ptr b_.Beyond.len b_.Beyond.cap]), (2, [], Value.pointer (some ⟨b_1, 0, none⟩))] (by kernel_rfl) (by kernel_rfl) ?_
    refine reg_new (op := (Go.Op.box 65 (Go.Operand.tmp 1))) (ty := 0) (dst := some 3) (fun bb => Value.pointer (some ⟨bb, 0, none⟩)) (Obj.cells ([Value.int .u8 b_.Kind, Value.int .i64 b_.From, Value.int .i64 b_.Number, Value.string b_.Write.Key, Value.string b_.Write.Val, Value.bool b_.Write.Drop, Value.string b_.Key, Value.string b_.End, Value.slice b_.Beyond.ptr b_.Beyond.len b_.Beyond.cap]).toArray ty_api_Req (0, 0)) (by kernel_rfl) (by kernel_rfl) (fun b_2 w2 hb hw => ?_)
    replace h := h b_2 w2 hb hw
    clear hb hw
    refine reg_run [.plain] 3 [(2, [], Value.pointer (some ⟨b_1, 0, none⟩)), (3, [], Value.pointer (some ⟨b_2, 0, none⟩))] (by kernel_rfl) (by kernel_rfl) ?_
    refine reg_end [(2, Value.pointer (some ⟨b_1, 0, none⟩)), (3, Value.pointer (some ⟨b_2, 0, none⟩))] (by kernel_rfl) (by kernel_rfl) ?_
    change WpE _ _ c_towpathlaw01_SameReq_3 _ _ _
    refine wpE_seq (x := c_towpathlaw01_SameReq_4) (y := c_towpathlaw01_SameReq_6) (by kernel_rfl) ?_
    refine wpE_region (id := 1) (ops := r_towpathlaw01_SameReq_4) (by kernel_rfl) ?_
    refine reg_run [.plain] 1 [(2, [], Value.pointer (some ⟨b_1, 0, none⟩)), (3, [], Value.pointer (some ⟨b_2, 0, none⟩)), (5, [], Value.pointer (some ⟨b_1, 0, none⟩))] (by kernel_rfl) (by kernel_rfl) ?_
    obtain ⟨v6, hc, h⟩ := h
    refine reg_load1 (t := 62) (a := (Go.Operand.tmp 5)) (b := b_1) (o := 0) (ty := 62) (dst := some 6) (by kernel_rfl) (by kernel_rfl) (by kernel_rfl) hc ?_
    refine reg_run [.plain] 3 [(2, [], Value.pointer (some ⟨b_1, 0, none⟩)), (3, [], Value.pointer (some ⟨b_2, 0, none⟩)), (6, [], Value.int .u8 v6), (7, [], Value.pointer (some ⟨b_2, 0, none⟩))] (by kernel_rfl) (by kernel_rfl) ?_
    obtain ⟨v8, hc, h⟩ := h
    refine reg_load1 (t := 62) (a := (Go.Operand.tmp 7)) (b := b_2) (o := 0) (ty := 62) (dst := some 8) (by kernel_rfl) (by kernel_rfl) (by kernel_rfl) hc ?_
    refine reg_run [.plain, .plain, .plain] 7 [(2, [], Value.pointer (some ⟨b_1, 0, none⟩)), (3, [], Value.pointer (some ⟨b_2, 0, none⟩)), (10, [], Value.bool (v6 == v8)), (11, [(10, true)], Value.pointer (some ⟨b_1, 1, none⟩))] (by kernel_rfl) (by kernel_rfl) ?_
    refine reg_split 10 (v6 == v8) (by kernel_rfl) (fun hb => ?_) (fun hb => ?_)
    · replace h := h.1 hb
      refine reg_run [] 7 [(2, [], Value.pointer (some ⟨b_1, 0, none⟩)), (3, [], Value.pointer (some ⟨b_2, 0, none⟩)), (10, [], Value.bool true), (11, [], Value.pointer (some ⟨b_1, 1, none⟩))] (by kernel_rfl) (by kernel_rfl) ?_
      refine reg_run [] 7 [(2, [], Value.pointer (some ⟨b_1, 0, none⟩)), (3, [], Value.pointer (some ⟨b_2, 0, none⟩)), (10, [], Value.bool true), (11, [], Value.pointer (some ⟨b_1, 1, none⟩))] (by kernel_rfl) (by kernel_rfl) ?_
      obtain ⟨v12, hc, h⟩ := h
      refine reg_load1 (t := 3) (a := (Go.Operand.tmp 11)) (b := b_1) (o := 1) (ty := 3) (dst := some 12) (by kernel_rfl) (by kernel_rfl) (by kernel_rfl) hc ?_
      refine reg_run [.sure] 9 [(2, [], Value.pointer (some ⟨b_1, 0, none⟩)), (3, [], Value.pointer (some ⟨b_2, 0, none⟩)), (10, [], Value.bool true), (12, [], Value.int .i64 v12), (13, [], Value.pointer (some ⟨b_2, 1, none⟩))] (by kernel_rfl) (by kernel_rfl) ?_
      obtain ⟨v14, hc, h⟩ := h
      refine reg_load1 (t := 3) (a := (Go.Operand.tmp 13)) (b := b_2) (o := 1) (ty := 3) (dst := some 14) (by kernel_rfl) (by kernel_rfl) (by kernel_rfl) hc ?_
      refine reg_run [.sure, .plain, .plain, .plain] 14 [(2, [], Value.pointer (some ⟨b_1, 0, none⟩)), (3, [], Value.pointer (some ⟨b_2, 0, none⟩)), (17, [], Value.bool (v12 == v14)), (18, [(17, true)], Value.pointer (some ⟨b_1, 2, none⟩))] (by kernel_rfl) (by kernel_rfl) ?_
      refine reg_split 17 (v12 == v14) (by kernel_rfl) (fun hb => ?_) (fun hb => ?_)
      · replace h := h.1 hb
        refine reg_run [] 14 [(2, [], Value.pointer (some ⟨b_1, 0, none⟩)), (3, [], Value.pointer (some ⟨b_2, 0, none⟩)), (17, [], Value.bool true), (18, [], Value.pointer (some ⟨b_1, 2, none⟩))] (by kernel_rfl) (by kernel_rfl) ?_
        refine reg_run [] 14 [(2, [], Value.pointer (some ⟨b_1, 0, none⟩)), (3, [], Value.pointer (some ⟨b_2, 0, none⟩)), (17, [], Value.bool true), (18, [], Value.pointer (some ⟨b_1, 2, none⟩))] (by kernel_rfl) (by kernel_rfl) ?_
        obtain ⟨v19, hc, h⟩ := h
        refine reg_load1 (t := 3) (a := (Go.Operand.tmp 18)) (b := b_1) (o := 2) (ty := 3) (dst := some 19) (by kernel_rfl) (by kernel_rfl) (by kernel_rfl) hc ?_
        refine reg_run [.sure] 16 [(2, [], Value.pointer (some ⟨b_1, 0, none⟩)), (3, [], Value.pointer (some ⟨b_2, 0, none⟩)), (17, [], Value.bool true), (19, [], Value.int .i64 v19), (20, [], Value.pointer (some ⟨b_2, 2, none⟩))] (by kernel_rfl) (by kernel_rfl) ?_
        obtain ⟨v21, hc, h⟩ := h
        refine reg_load1 (t := 3) (a := (Go.Operand.tmp 20)) (b := b_2) (o := 2) (ty := 3) (dst := some 21) (by kernel_rfl) (by kernel_rfl) (by kernel_rfl) hc ?_
        refine reg_run [.sure, .plain, .plain, .plain] 21 [(2, [], Value.pointer (some ⟨b_1, 0, none⟩)), (3, [], Value.pointer (some ⟨b_2, 0, none⟩)), (24, [], Value.bool (v19 == v21)), (25, [(24, true)], Value.pointer (some ⟨b_1, 3, none⟩))] (by kernel_rfl) (by kernel_rfl) ?_
        refine reg_split 24 (v19 == v21) (by kernel_rfl) (fun hb => ?_) (fun hb => ?_)
        · replace h := h.1 hb
          refine reg_run [] 21 [(2, [], Value.pointer (some ⟨b_1, 0, none⟩)), (3, [], Value.pointer (some ⟨b_2, 0, none⟩)), (24, [], Value.bool true), (25, [], Value.pointer (some ⟨b_1, 3, none⟩))] (by kernel_rfl) (by kernel_rfl) ?_
          refine reg_run [] 21 [(2, [], Value.pointer (some ⟨b_1, 0, none⟩)), (3, [], Value.pointer (some ⟨b_2, 0, none⟩)), (24, [], Value.bool true), (25, [], Value.pointer (some ⟨b_1, 3, none⟩))] (by kernel_rfl) (by kernel_rfl) ?_
          obtain ⟨v26, hc, h⟩ := h
          refine reg_loadN (t := 61) (a := (Go.Operand.tmp 25)) (b := b_1) (o := 3) (ty := 61) (dst := some 26) [Value.string v26.Key, Value.string v26.Val, Value.bool v26.Drop] (by kernel_rfl) (by kernel_rfl) (by kernel_rfl) (k := 3) (by kernel_rfl) (by kernel_rfl) hc ?_
          refine reg_run [.sure] 23 [(2, [], Value.pointer (some ⟨b_1, 0, none⟩)), (3, [], Value.pointer (some ⟨b_2, 0, none⟩)), (24, [], Value.bool true), (26, [], Value.agg #[Value.string v26.Key, Value.string v26.Val, Value.bool v26.Drop]), (27, [], Value.pointer (some ⟨b_2, 3, none⟩))] (by kernel_rfl) (by kernel_rfl) ?_
          obtain ⟨v28, hc, h⟩ := h
          refine reg_loadN (t := 61) (a := (Go.Operand.tmp 27)) (b := b_2) (o := 3) (ty := 61) (dst := some 28) [Value.string v28.Key, Value.string v28.Val, Value.bool v28.Drop] (by kernel_rfl) (by kernel_rfl) (by kernel_rfl) (k := 3) (by kernel_rfl) (by kernel_rfl) hc ?_
          refine reg_run [] 24 [(2, [], Value.pointer (some ⟨b_1, 0, none⟩)), (3, [], Value.pointer (some ⟨b_2, 0, none⟩)), (24, [], Value.bool true), (26, [], Value.agg #[Value.string v26.Key, Value.string v26.Val, Value.bool v26.Drop]), (28, [], Value.agg #[Value.string v28.Key, Value.string v28.Val, Value.bool v28.Drop])] (by kernel_rfl) (by kernel_rfl) ?_
          refine reg_val (op := (Go.Op.binOp Go.BinOp.eql 61 (Go.Operand.tmp 26) (Go.Operand.tmp 28) 61)) (ty := 4) (dst := some 29) (Value.bool (((v26.Key == v28.Key) && (v26.Val == v28.Val)) && (v26.Drop == v28.Drop))) (by kernel_rfl) (fun ww => run_struct_eql (xs := [Value.string v26.Key, Value.string v26.Val, Value.bool v26.Drop]) (ys := [Value.string v28.Key, Value.string v28.Val, Value.bool v28.Drop]) (by kernel_rfl) (by kernel_rfl) (by kernel_rfl) (by kernel_rfl) (by kernel_rfl) ww) ?_
          refine reg_run [.plain, .plain, .plain] 28 [(2, [], Value.pointer (some ⟨b_1, 0, none⟩)), (3, [], Value.pointer (some ⟨b_2, 0, none⟩)), (31, [], Value.bool (((v26.Key == v28.Key) && (v26.Val == v28.Val)) && (v26.Drop == v28.Drop))), (32, [(31, true)], Value.pointer (some ⟨b_1, 6, none⟩))] (by kernel_rfl) (by kernel_rfl) ?_
          refine reg_split 31 (((v26.Key == v28.Key) && (v26.Val == v28.Val)) && (v26.Drop == v28.Drop)) (by kernel_rfl) (fun hb => ?_) (fun hb => ?_)
          · replace h := h.1 hb
            refine reg_run [] 28 [(2, [], Value.pointer (some ⟨b_1, 0, none⟩)), (3, [], Value.pointer (some ⟨b_2, 0, none⟩)), (31, [], Value.bool true), (32, [], Value.pointer (some ⟨b_1, 6, none⟩))] (by kernel_rfl) (by kernel_rfl) ?_
            refine reg_run [] 28 [(2, [], Value.pointer (some ⟨b_1, 0, none⟩)), (3, [], Value.pointer (some ⟨b_2, 0, none⟩)), (31, [], Value.bool true), (32, [], Value.pointer (some ⟨b_1, 6, none⟩))] (by kernel_rfl) (by kernel_rfl) ?_
            obtain ⟨v33, hc, h⟩ := h
            refine reg_load1 (t := 9) (a := (Go.Operand.tmp 32)) (b := b_1) (o := 6) (ty := 9) (dst := some 33) (by kernel_rfl) (by kernel_rfl) (by kernel_rfl) hc ?_
            refine reg_run [.sure] 30 [(2, [], Value.pointer (some ⟨b_1, 0, none⟩)), (3, [], Value.pointer (some ⟨b_2, 0, none⟩)), (31, [], Value.bool true), (33, [], Value.string v33), (34, [], Value.pointer (some ⟨b_2, 6, none⟩))] (by kernel_rfl) (by kernel_rfl) ?_
            obtain ⟨v35, hc, h⟩ := h
            refine reg_load1 (t := 9) (a := (Go.Operand.tmp 34)) (b := b_2) (o := 6) (ty := 9) (dst := some 35) (by kernel_rfl) (by kernel_rfl) (by kernel_rfl) hc ?_
            refine reg_run [.sure, .plain, .plain, .plain] 35 [(2, [], Value.pointer (some ⟨b_1, 0, none⟩)), (3, [], Value.pointer (some ⟨b_2, 0, none⟩)), (38, [], Value.bool (v33.toList == v35.toList)), (39, [(38, true)], Value.pointer (some ⟨b_1, 7, none⟩))] (by kernel_rfl) (by kernel_rfl) ?_
            refine reg_split 38 (v33.toList == v35.toList) (by kernel_rfl) (fun hb => ?_) (fun hb => ?_)
            · replace h := h.1 hb
              refine reg_run [] 35 [(2, [], Value.pointer (some ⟨b_1, 0, none⟩)), (3, [], Value.pointer (some ⟨b_2, 0, none⟩)), (38, [], Value.bool true), (39, [], Value.pointer (some ⟨b_1, 7, none⟩))] (by kernel_rfl) (by kernel_rfl) ?_
              refine reg_run [] 35 [(2, [], Value.pointer (some ⟨b_1, 0, none⟩)), (3, [], Value.pointer (some ⟨b_2, 0, none⟩)), (38, [], Value.bool true), (39, [], Value.pointer (some ⟨b_1, 7, none⟩))] (by kernel_rfl) (by kernel_rfl) ?_
              obtain ⟨v40, hc, h⟩ := h
              refine reg_load1 (t := 9) (a := (Go.Operand.tmp 39)) (b := b_1) (o := 7) (ty := 9) (dst := some 40) (by kernel_rfl) (by kernel_rfl) (by kernel_rfl) hc ?_
              refine reg_run [.sure] 37 [(2, [], Value.pointer (some ⟨b_1, 0, none⟩)), (3, [], Value.pointer (some ⟨b_2, 0, none⟩)), (38, [], Value.bool true), (40, [], Value.string v40), (41, [], Value.pointer (some ⟨b_2, 7, none⟩))] (by kernel_rfl) (by kernel_rfl) ?_
              obtain ⟨v42, hc, h⟩ := h
              refine reg_load1 (t := 9) (a := (Go.Operand.tmp 41)) (b := b_2) (o := 7) (ty := 9) (dst := some 42) (by kernel_rfl) (by kernel_rfl) (by kernel_rfl) hc ?_
              refine reg_run [.sure, .plain, .plain, .plain] 42 [(3, [], Value.pointer (some ⟨b_2, 0, none⟩)), (45, [], Value.bool (v40.toList == v42.toList)), (46, [(45, true)], Value.pointer (some ⟨b_1, 8, none⟩))] (by kernel_rfl) (by kernel_rfl) ?_
              refine reg_split 45 (v40.toList == v42.toList) (by kernel_rfl) (fun hb => ?_) (fun hb => ?_)
              · replace h := h.1 hb
                refine reg_run [] 42 [(3, [], Value.pointer (some ⟨b_2, 0, none⟩)), (45, [], Value.bool true), (46, [], Value.pointer (some ⟨b_1, 8, none⟩))] (by kernel_rfl) (by kernel_rfl) ?_
                refine reg_run [] 42 [(3, [], Value.pointer (some ⟨b_2, 0, none⟩)), (45, [], Value.bool true), (46, [], Value.pointer (some ⟨b_1, 8, none⟩))] (by kernel_rfl) (by kernel_rfl) ?_
                obtain ⟨v47, hc, h⟩ := h
                refine reg_load1 (t := 63) (a := (Go.Operand.tmp 46)) (b := b_1) (o := 8) (ty := 63) (dst := some 47) (by kernel_rfl) (by kernel_rfl) (by kernel_rfl) hc ?_
                refine reg_run [.sure] 44 [(45, [], Value.bool true), (47, [], Value.slice v47.ptr v47.len v47.cap), (48, [], Value.pointer (some ⟨b_2, 8, none⟩))] (by kernel_rfl) (by kernel_rfl) ?_
                obtain ⟨v49, hc, h⟩ := h
                refine reg_load1 (t := 63) (a := (Go.Operand.tmp 48)) (b := b_2) (o := 8) (ty := 63) (dst := some 49) (by kernel_rfl) (by kernel_rfl) (by kernel_rfl) hc ?_
                refine reg_run [] 45 [(45, [], Value.bool true), (47, [], Value.slice v47.ptr v47.len v47.cap), (49, [], Value.slice v49.ptr v49.len v49.cap)] (by kernel_rfl) (by kernel_rfl) ?_
                refine reg_enter (op := (Go.Op.call (Go.Call.mk (Go.Callee.value (Go.Operand.func 66)) #[(Go.Operand.tmp 47), (Go.Operand.tmp 49)] #[63, 63]))) (ty := 4) (dst := some 50) 66 #[Value.slice v47.ptr v47.len v47.cap, Value.slice v49.ptr v49.len v49.cap] (by kernel_rfl) (fun ww => by kernel_rfl) (Calls.mono h ?_)
                rintro _ w3 ⟨v50, rfl, h⟩
                refine ⟨_, rfl, ?_⟩
                refine reg_run [.plain, .plain] 48 [(4, [], Value.bool v50)] (by kernel_rfl) (by kernel_rfl) ?_
                refine reg_end [(4, Value.bool v50)] (by kernel_rfl) (by kernel_rfl) ?_
                change WpE _ _ c_towpathlaw01_SameReq_6 _ _ _
                refine wpE_ret (by kernel_rfl) ?_
                repeat (first | refine seqQ_ret ?_ | refine blockQ_ret ?_ | refine loopQ_ret ?_ | refine cutQ_ret ?_)
                exact retS (rs := [(Go.ResultVar.tmp 4)]) (v := Value.bool v50) (by kernel_rfl) (⟨by kernel_rfl, trivial⟩) ⟨v50, rfl, h⟩
              · replace h := h.2 hb
                refine reg_run [] 42 [(3, [], Value.pointer (some ⟨b_2, 0, none⟩)), (45, [], Value.bool false), (46, [], undef)] (by kernel_rfl) (by kernel_rfl) ?_
                refine reg_run [.skip, .skip, .skip, .skip, .plain, .plain] 48 [(4, [], Value.bool false)] (by kernel_rfl) (by kernel_rfl) ?_
                refine reg_end [(4, Value.bool false)] (by kernel_rfl) (by kernel_rfl) ?_
                change WpE _ _ c_towpathlaw01_SameReq_6 _ _ _
                refine wpE_ret (by kernel_rfl) ?_
                repeat (first | refine seqQ_ret ?_ | refine blockQ_ret ?_ | refine loopQ_ret ?_ | refine cutQ_ret ?_)
                exact retS (rs := [(Go.ResultVar.tmp 4)]) (v := Value.bool false) (by kernel_rfl) (⟨by kernel_rfl, trivial⟩) ⟨false, rfl, h⟩
            · replace h := h.2 hb
              refine reg_run [] 35 [(2, [], Value.pointer (some ⟨b_1, 0, none⟩)), (3, [], Value.pointer (some ⟨b_2, 0, none⟩)), (38, [], Value.bool false), (39, [], undef)] (by kernel_rfl) (by kernel_rfl) ?_
              refine reg_run [.skip, .skip, .skip, .skip, .plain, .plain, .skip, .skip, .skip, .skip, .skip, .plain, .plain] 48 [(4, [], Value.bool false)] (by kernel_rfl) (by kernel_rfl) ?_
              refine reg_end [(4, Value.bool false)] (by kernel_rfl) (by kernel_rfl) ?_
              change WpE _ _ c_towpathlaw01_SameReq_6 _ _ _
              refine wpE_ret (by kernel_rfl) ?_
              repeat (first | refine seqQ_ret ?_ | refine blockQ_ret ?_ | refine loopQ_ret ?_ | refine cutQ_ret ?_)
              exact retS (rs := [(Go.ResultVar.tmp 4)]) (v := Value.bool false) (by kernel_rfl) (⟨by kernel_rfl, trivial⟩) ⟨false, rfl, h⟩
          · replace h := h.2 hb
            refine reg_run [] 28 [(2, [], Value.pointer (some ⟨b_1, 0, none⟩)), (3, [], Value.pointer (some ⟨b_2, 0, none⟩)), (31, [], Value.bool false), (32, [], undef)] (by kernel_rfl) (by kernel_rfl) ?_
            refine reg_run [.skip, .skip, .skip, .skip, .plain, .plain, .skip, .skip, .skip, .skip, .skip, .plain, .plain, .skip, .skip, .skip, .skip, .skip, .plain, .plain] 48 [(4, [], Value.bool false)] (by kernel_rfl) (by kernel_rfl) ?_
            refine reg_end [(4, Value.bool false)] (by kernel_rfl) (by kernel_rfl) ?_
            change WpE _ _ c_towpathlaw01_SameReq_6 _ _ _
            refine wpE_ret (by kernel_rfl) ?_
            repeat (first | refine seqQ_ret ?_ | refine blockQ_ret ?_ | refine loopQ_ret ?_ | refine cutQ_ret ?_)
            exact retS (rs := [(Go.ResultVar.tmp 4)]) (v := Value.bool false) (by kernel_rfl) (⟨by kernel_rfl, trivial⟩) ⟨false, rfl, h⟩
        · replace h := h.2 hb
          refine reg_run [] 21 [(2, [], Value.pointer (some ⟨b_1, 0, none⟩)), (3, [], Value.pointer (some ⟨b_2, 0, none⟩)), (24, [], Value.bool false), (25, [], undef)] (by kernel_rfl) (by kernel_rfl) ?_
          refine reg_run [.skip, .skip, .skip, .skip, .plain, .plain, .skip, .skip, .skip, .skip, .skip, .plain, .plain, .skip, .skip, .skip, .skip, .skip, .plain, .plain, .skip, .skip, .skip, .skip, .skip, .plain, .plain] 48 [(4, [], Value.bool false)] (by kernel_rfl) (by kernel_rfl) ?_
          refine reg_end [(4, Value.bool false)] (by kernel_rfl) (by kernel_rfl) ?_
          change WpE _ _ c_towpathlaw01_SameReq_6 _ _ _
          refine wpE_ret (by kernel_rfl) ?_
          repeat (first | refine seqQ_ret ?_ | refine blockQ_ret ?_ | refine loopQ_ret ?_ | refine cutQ_ret ?_)
          exact retS (rs := [(Go.ResultVar.tmp 4)]) (v := Value.bool false) (by kernel_rfl) (⟨by kernel_rfl, trivial⟩) ⟨false, rfl, h⟩
      · replace h := h.2 hb
        refine reg_run [] 14 [(2, [], Value.pointer (some ⟨b_1, 0, none⟩)), (3, [], Value.pointer (some ⟨b_2, 0, none⟩)), (17, [], Value.bool false), (18, [], undef)] (by kernel_rfl) (by kernel_rfl) ?_
        refine reg_run [.skip, .skip, .skip, .skip, .plain, .plain, .skip, .skip, .skip, .skip, .skip, .plain, .plain, .skip, .skip, .skip, .skip, .skip, .plain, .plain, .skip, .skip, .skip, .skip, .skip, .plain, .plain, .skip, .skip, .skip, .skip, .skip, .plain, .plain] 48 [(4, [], Value.bool false)] (by kernel_rfl) (by kernel_rfl) ?_
        refine reg_end [(4, Value.bool false)] (by kernel_rfl) (by kernel_rfl) ?_
        change WpE _ _ c_towpathlaw01_SameReq_6 _ _ _
        refine wpE_ret (by kernel_rfl) ?_
        repeat (first | refine seqQ_ret ?_ | refine blockQ_ret ?_ | refine loopQ_ret ?_ | refine cutQ_ret ?_)
        exact retS (rs := [(Go.ResultVar.tmp 4)]) (v := Value.bool false) (by kernel_rfl) (⟨by kernel_rfl, trivial⟩) ⟨false, rfl, h⟩
    · replace h := h.2 hb
      refine reg_run [] 7 [(2, [], Value.pointer (some ⟨b_1, 0, none⟩)), (3, [], Value.pointer (some ⟨b_2, 0, none⟩)), (10, [], Value.bool false), (11, [], undef)] (by kernel_rfl) (by kernel_rfl) ?_
      refine reg_run [.skip, .skip, .skip, .skip, .plain, .plain, .skip, .skip, .skip, .skip, .skip, .plain, .plain, .skip, .skip, .skip, .skip, .skip, .plain, .plain, .skip, .skip, .skip, .skip, .skip, .plain, .plain, .skip, .skip, .skip, .skip, .skip, .plain, .plain, .skip, .skip, .skip, .skip, .skip, .plain, .plain] 48 [(4, [], Value.bool false)] (by kernel_rfl) (by kernel_rfl) ?_
      refine reg_end [(4, Value.bool false)] (by kernel_rfl) (by kernel_rfl) ?_
      change WpE _ _ c_towpathlaw01_SameReq_6 _ _ _
      refine wpE_ret (by kernel_rfl) ?_
      repeat (first | refine seqQ_ret ?_ | refine blockQ_ret ?_ | refine loopQ_ret ?_ | refine cutQ_ret ?_)
      exact retS (rs := [(Go.ResultVar.tmp 4)]) (v := Value.bool false) (by kernel_rfl) (⟨by kernel_rfl, trivial⟩) ⟨false, rfl, h⟩
  · rintro e w' ⟨v, rfl, r0, rfl, h⟩; exact ⟨r0, rfl, h⟩

/-! ### towpath/towpathlaw01.SameBytes (function 36) -/
noncomputable def c_towpathlaw01_SameBytes_0 : Code := (Try.f36.body).getD Code.skip
noncomputable def c_towpathlaw01_SameBytes_1 : Code := Code.l c_towpathlaw01_SameBytes_0
noncomputable def r_towpathlaw01_SameBytes_1 : Array Oper := Code.ops c_towpathlaw01_SameBytes_1
noncomputable def c_towpathlaw01_SameBytes_3 : Code := Code.r c_towpathlaw01_SameBytes_0
noncomputable def c_towpathlaw01_SameBytes_4 : Code := Code.l c_towpathlaw01_SameBytes_3
noncomputable def c_towpathlaw01_SameBytes_5 : Code := Code.l c_towpathlaw01_SameBytes_4
noncomputable def r_towpathlaw01_SameBytes_5 : Array Oper := Code.ops c_towpathlaw01_SameBytes_5
noncomputable def c_towpathlaw01_SameBytes_7 : Code := Code.r c_towpathlaw01_SameBytes_4
noncomputable def c_towpathlaw01_SameBytes_8 : Code := Code.l c_towpathlaw01_SameBytes_7
noncomputable def c_towpathlaw01_SameBytes_9 : Code := Code.l c_towpathlaw01_SameBytes_8
noncomputable def r_towpathlaw01_SameBytes_9 : Array Oper := Code.ops c_towpathlaw01_SameBytes_9
noncomputable def c_towpathlaw01_SameBytes_11 : Code := Code.r c_towpathlaw01_SameBytes_8
noncomputable def c_towpathlaw01_SameBytes_12 : Code := Code.r c_towpathlaw01_SameBytes_7
noncomputable def c_towpathlaw01_SameBytes_13 : Code := Code.r c_towpathlaw01_SameBytes_3
noncomputable def c_towpathlaw01_SameBytes_14 : Code := Code.l c_towpathlaw01_SameBytes_13
noncomputable def c_towpathlaw01_SameBytes_15 : Code := Code.l c_towpathlaw01_SameBytes_14
noncomputable def r_towpathlaw01_SameBytes_15 : Array Oper := Code.ops c_towpathlaw01_SameBytes_15
noncomputable def c_towpathlaw01_SameBytes_17 : Code := Code.r c_towpathlaw01_SameBytes_14
noncomputable def c_towpathlaw01_SameBytes_18 : Code := Code.l c_towpathlaw01_SameBytes_17
noncomputable def c_towpathlaw01_SameBytes_19 : Code := Code.l c_towpathlaw01_SameBytes_18
noncomputable def c_towpathlaw01_SameBytes_20 : Code := Code.l c_towpathlaw01_SameBytes_19
noncomputable def c_towpathlaw01_SameBytes_21 : Code := Code.l c_towpathlaw01_SameBytes_20
noncomputable def r_towpathlaw01_SameBytes_21 : Array Oper := Code.ops c_towpathlaw01_SameBytes_21
noncomputable def c_towpathlaw01_SameBytes_23 : Code := Code.r c_towpathlaw01_SameBytes_20
noncomputable def c_towpathlaw01_SameBytes_24 : Code := Code.l c_towpathlaw01_SameBytes_23
noncomputable def c_towpathlaw01_SameBytes_25 : Code := Code.r c_towpathlaw01_SameBytes_23
noncomputable def c_towpathlaw01_SameBytes_26 : Code := Code.r c_towpathlaw01_SameBytes_19
noncomputable def c_towpathlaw01_SameBytes_27 : Code := Code.l c_towpathlaw01_SameBytes_26
noncomputable def c_towpathlaw01_SameBytes_28 : Code := Code.l c_towpathlaw01_SameBytes_27
noncomputable def c_towpathlaw01_SameBytes_29 : Code := Code.l c_towpathlaw01_SameBytes_28
noncomputable def r_towpathlaw01_SameBytes_29 : Array Oper := Code.ops c_towpathlaw01_SameBytes_29
noncomputable def c_towpathlaw01_SameBytes_31 : Code := Code.r c_towpathlaw01_SameBytes_28
noncomputable def c_towpathlaw01_SameBytes_32 : Code := Code.l c_towpathlaw01_SameBytes_31
noncomputable def c_towpathlaw01_SameBytes_33 : Code := Code.l c_towpathlaw01_SameBytes_32
noncomputable def r_towpathlaw01_SameBytes_33 : Array Oper := Code.ops c_towpathlaw01_SameBytes_33
noncomputable def c_towpathlaw01_SameBytes_35 : Code := Code.r c_towpathlaw01_SameBytes_32
noncomputable def c_towpathlaw01_SameBytes_36 : Code := Code.r c_towpathlaw01_SameBytes_31
noncomputable def c_towpathlaw01_SameBytes_37 : Code := Code.r c_towpathlaw01_SameBytes_26
noncomputable def r_towpathlaw01_SameBytes_37 : Array Oper := Code.ops c_towpathlaw01_SameBytes_37
noncomputable def c_towpathlaw01_SameBytes_39 : Code := Code.r c_towpathlaw01_SameBytes_13
noncomputable def c_towpathlaw01_SameBytes_40 : Code := Code.l c_towpathlaw01_SameBytes_39
noncomputable def r_towpathlaw01_SameBytes_40 : Array Oper := Code.ops c_towpathlaw01_SameBytes_40
noncomputable def c_towpathlaw01_SameBytes_42 : Code := Code.r c_towpathlaw01_SameBytes_39

set_option maxRecDepth 100000 in
set_option maxHeartbeats 4000000 in
theorem S_towpathlaw01_SameBytes {a_ : Slc} {b_ : Slc} {w : World} {R : Bool → World → Prop} (h : F_towpathlaw01_SameBytes a_ b_ R w) : C_towpathlaw01_SameBytes a_ b_ w R := by
  unfold F_towpathlaw01_SameBytes at h
  unfold C_towpathlaw01_SameBytes
  refine Calls.mono (calls_of_wpE (args := [Value.slice a_.ptr a_.len a_.cap, Value.slice b_.ptr b_.len b_.cap]) (R := fun v w' => ∃ (r0 : Bool), v = Value.bool r0 ∧ R r0 w') Try.func36 (c := c_towpathlaw01_SameBytes_0) (by kernel_rfl) 26 (by kernel_rfl) (by kernel_rfl) [(0, Value.slice a_.ptr a_.len a_.cap), (1, Value.slice b_.ptr b_.len b_.cap)] (by kernel_rfl) ?_) ?_
  · refine wpE_seq (x := c_towpathlaw01_SameBytes_1) (y := c_towpathlaw01_SameBytes_3) (by kernel_rfl) ?_
    refine wpE_region (id := 0) (ops := r_towpathlaw01_SameBytes_1) (by kernel_rfl) ?_
    refine reg_run [.plain] 1 [(0, [], Value.slice a_.ptr a_.len a_.cap), (1, [], Value.slice b_.ptr b_.len b_.cap)] (by kernel_rfl) (by kernel_rfl) ?_
    refine reg_end [(0, Value.slice a_.ptr a_.len a_.cap), (1, Value.slice b_.ptr b_.len b_.cap)] (by kernel_rfl) (by kernel_rfl) ?_
    change WpE _ _ c_towpathlaw01_SameBytes_3 _ _ _
    refine wpE_seq (x := c_towpathlaw01_SameBytes_4) (y := c_towpathlaw01_SameBytes_13) (by kernel_rfl) ?_
    refine wpE_seq (x := c_towpathlaw01_SameBytes_5) (y := c_towpathlaw01_SameBytes_7) (by kernel_rfl) ?_
    refine wpE_region (id := 1) (ops := r_towpathlaw01_SameBytes_5) (by kernel_rfl) ?_
    refine reg_run [.plain, .plain, .plain, .plain, .plain] 5 [(0, [], Value.slice a_.ptr a_.len a_.cap), (1, [], Value.slice b_.ptr b_.len b_.cap), (10, [], Value.bool (((a_.len : Nat) : Int) != ((b_.len : Nat) : Int)))] (by kernel_rfl) (by kernel_rfl) ?_
    refine reg_end [(0, Value.slice a_.ptr a_.len a_.cap), (1, Value.slice b_.ptr b_.len b_.cap), (10, Value.bool (((a_.len : Nat) : Int) != ((b_.len : Nat) : Int)))] (by kernel_rfl) (by kernel_rfl) ?_
    change WpE _ _ c_towpathlaw01_SameBytes_7 _ _ _
    refine wpE_cond (o := (Operand.tmp 10)) (b := (((a_.len : Nat) : Int) != ((b_.len : Nat) : Int))) (x := c_towpathlaw01_SameBytes_8) (y := c_towpathlaw01_SameBytes_12) (by kernel_rfl) (by kernel_rfl) (fun hb => ?_) (fun hb => ?_)
    · replace h := h.1 hb
      refine wpE_seq (x := c_towpathlaw01_SameBytes_9) (y := c_towpathlaw01_SameBytes_11) (by kernel_rfl) ?_
      refine wpE_region (id := 2) (ops := r_towpathlaw01_SameBytes_9) (by kernel_rfl) ?_
      refine reg_run [.plain] 1 [(4, [], Value.bool false)] (by kernel_rfl) (by kernel_rfl) ?_
      refine reg_end [(4, Value.bool false)] (by kernel_rfl) (by kernel_rfl) ?_
      change WpE _ _ c_towpathlaw01_SameBytes_11 _ _ _
      refine wpE_ret (by kernel_rfl) ?_
      repeat (first | refine seqQ_ret ?_ | refine blockQ_ret ?_ | refine loopQ_ret ?_ | refine cutQ_ret ?_)
      exact retS (rs := [(Go.ResultVar.tmp 4)]) (v := Value.bool false) (by kernel_rfl) (⟨by kernel_rfl, trivial⟩) ⟨false, rfl, h⟩
    · replace h := h.2 hb
      refine wpE_skip (by kernel_rfl) ?_
      change WpE _ _ c_towpathlaw01_SameBytes_13 _ _ _
      refine wpE_seq (x := c_towpathlaw01_SameBytes_14) (y := c_towpathlaw01_SameBytes_39) (by kernel_rfl) ?_
      refine wpE_seq (x := c_towpathlaw01_SameBytes_15) (y := c_towpathlaw01_SameBytes_17) (by kernel_rfl) ?_
      refine wpE_region (id := 3) (ops := r_towpathlaw01_SameBytes_15) (by kernel_rfl) ?_
      refine reg_run [.plain] 1 [(0, [], Value.slice a_.ptr a_.len a_.cap), (1, [], Value.slice b_.ptr b_.len b_.cap), (5, [], Value.int .i64 0)] (by kernel_rfl) (by kernel_rfl) ?_
      refine reg_end [(0, Value.slice a_.ptr a_.len a_.cap), (1, Value.slice b_.ptr b_.len b_.cap), (5, Value.int .i64 0)] (by kernel_rfl) (by kernel_rfl) ?_
      change WpE _ _ c_towpathlaw01_SameBytes_17 _ _ _
      refine wpE_block (id := 0) (x := c_towpathlaw01_SameBytes_18) (by kernel_rfl) ?_
      obtain ⟨I, μ, h0, hr⟩ := h
      refine wpE_loop (x := c_towpathlaw01_SameBytes_19) (by kernel_rfl) (fun m l w => ∃ (i : Int), l = [(0, Value.slice a_.ptr a_.len a_.cap), (1, Value.slice b_.ptr b_.len b_.cap), (5, Value.int .i64 i)] ∧ I i w ∧ μ i w = m) (l' := [(0, Value.slice a_.ptr a_.len a_.cap), (1, Value.slice b_.ptr b_.len b_.cap), (5, Value.int .i64 0)]) (Sub.mk (by kernel_rfl)) ⟨0, rfl, h0, rfl⟩ ?_
      rintro _ _ w1 ⟨i, rfl, hI, rfl⟩
      obtain ⟨again_, again__h, h⟩ : ∃ again_ : Int → World → Prop, (∀ i' w', again_ i' w' → I i' w' ∧ μ i' w' < μ i w1) ∧ F_towpathlaw01_SameBytes_L0 a_ b_ R again_ i w1 := ⟨_, fun _ _ h => h, hr i w1 hI⟩
      clear h0 hI
      unfold F_towpathlaw01_SameBytes_L0 at h
      refine wpE_seq (x := c_towpathlaw01_SameBytes_20) (y := c_towpathlaw01_SameBytes_26) (by kernel_rfl) ?_
      refine wpE_seq (x := c_towpathlaw01_SameBytes_21) (y := c_towpathlaw01_SameBytes_23) (by kernel_rfl) ?_
      refine wpE_region (id := 4) (ops := r_towpathlaw01_SameBytes_21) (by kernel_rfl) ?_
      refine reg_run [.plain, .plain, .plain, .plain] 4 [(0, [], Value.slice a_.ptr a_.len a_.cap), (1, [], Value.slice b_.ptr b_.len b_.cap), (5, [], Value.int .i64 i), (14, [], Value.bool (decide (i < ((a_.len : Nat) : Int))))] (by kernel_rfl) (by kernel_rfl) ?_
      refine reg_end [(0, Value.slice a_.ptr a_.len a_.cap), (1, Value.slice b_.ptr b_.len b_.cap), (5, Value.int .i64 i), (14, Value.bool (decide (i < ((a_.len : Nat) : Int))))] (by kernel_rfl) (by kernel_rfl) ?_
      change WpE _ _ c_towpathlaw01_SameBytes_23 _ _ _
      refine wpE_cond (o := (Operand.tmp 14)) (b := (decide (i < ((a_.len : Nat) : Int)))) (x := c_towpathlaw01_SameBytes_24) (y := c_towpathlaw01_SameBytes_25) (by kernel_rfl) (by kernel_rfl) (fun hb => ?_) (fun hb => ?_)
      · replace h := h.1 hb
        refine wpE_skip (by kernel_rfl) ?_
        change WpE _ _ c_towpathlaw01_SameBytes_26 _ _ _
        refine wpE_seq (x := c_towpathlaw01_SameBytes_27) (y := c_towpathlaw01_SameBytes_37) (by kernel_rfl) ?_
        refine wpE_block (id := 1) (x := c_towpathlaw01_SameBytes_28) (by kernel_rfl) ?_
        refine wpE_seq (x := c_towpathlaw01_SameBytes_29) (y := c_towpathlaw01_SameBytes_31) (by kernel_rfl) ?_
        refine wpE_drawregion (id := 6) (ops := r_towpathlaw01_SameBytes_29) (by kernel_rfl) (by kernel_rfl) (by kernel_rfl) ?_
        refine qreg_run [.plain, .plain] 2 [(0, [], Value.slice a_.ptr a_.len a_.cap), (1, [], Value.slice b_.ptr b_.len b_.cap), (5, [], Value.int .i64 i), (17, [], Value.slice a_.ptr a_.len a_.cap), (18, [], Value.int .i64 i)] (by kernel_rfl) (by kernel_rfl) ?_
        obtain ⟨hp_14, h⟩ := h
        refine qreg_conv [(0, [], Value.slice a_.ptr a_.len a_.cap), (1, [], Value.slice b_.ptr b_.len b_.cap), (5, [], Value.int .i64 i), (17, [], Value.slice (some ⟨(pblk a_.ptr), (poff a_.ptr), none⟩) a_.len a_.cap), (18, [], Value.int .i64 i)] (congrArg (fun pp => ([(0, [], Value.slice a_.ptr a_.len a_.cap), (1, [], Value.slice b_.ptr b_.len b_.cap), (5, [], Value.int .i64 i), (17, [], Value.slice pp a_.len a_.cap), (18, [], Value.int .i64 i)] : GEnv)) hp_14) ?_
        obtain ⟨h0, h1, h⟩ := h
        refine qreg_indexS1 (t := 22) (e := 5) (x := (Go.Operand.tmp 17)) (ix := (Go.Operand.tmp 18)) (b := (pblk a_.ptr)) (o := (poff a_.ptr)) (l := a_.len) (c := a_.cap) (k := .i64) (j := i) (ty := 0) (dst := some 19) (by kernel_rfl) (by kernel_rfl) (by kernel_rfl) (by kernel_rfl) (by kernel_rfl) h0 h1 ?_
        refine qreg_run [] 3 [(0, [], Value.slice a_.ptr a_.len a_.cap), (1, [], Value.slice b_.ptr b_.len b_.cap), (5, [], Value.int .i64 i), (19, [], Value.pointer (some ⟨(pblk a_.ptr), (poff a_.ptr) + i.toNat, none⟩))] (by kernel_rfl) (by kernel_rfl) ?_
        obtain ⟨v20, hc, h⟩ := h
        refine qreg_load1 (t := 5) (a := (Go.Operand.tmp 19)) (b := (pblk a_.ptr)) (o := ((poff a_.ptr) + i.toNat)) (ty := 5) (dst := some 20) (by kernel_rfl) (by kernel_rfl) (by kernel_rfl) hc ?_
        refine qreg_run [.plain, .plain] 6 [(0, [], Value.slice a_.ptr a_.len a_.cap), (1, [], Value.slice b_.ptr b_.len b_.cap), (5, [], Value.int .i64 i), (20, [], Value.int .u8 v20), (21, [], Value.slice b_.ptr b_.len b_.cap), (22, [], Value.int .i64 i)] (by kernel_rfl) (by kernel_rfl) ?_
        obtain ⟨hp_15, h⟩ := h
        refine qreg_conv [(0, [], Value.slice a_.ptr a_.len a_.cap), (1, [], Value.slice b_.ptr b_.len b_.cap), (5, [], Value.int .i64 i), (20, [], Value.int .u8 v20), (21, [], Value.slice (some ⟨(pblk b_.ptr), (poff b_.ptr), none⟩) b_.len b_.cap), (22, [], Value.int .i64 i)] (congrArg (fun pp => ([(0, [], Value.slice a_.ptr a_.len a_.cap), (1, [], Value.slice b_.ptr b_.len b_.cap), (5, [], Value.int .i64 i), (20, [], Value.int .u8 v20), (21, [], Value.slice pp b_.len b_.cap), (22, [], Value.int .i64 i)] : GEnv)) hp_15) ?_
        obtain ⟨h0, h1, h⟩ := h
        refine qreg_indexS1 (t := 22) (e := 5) (x := (Go.Operand.tmp 21)) (ix := (Go.Operand.tmp 22)) (b := (pblk b_.ptr)) (o := (poff b_.ptr)) (l := b_.len) (c := b_.cap) (k := .i64) (j := i) (ty := 0) (dst := some 23) (by kernel_rfl) (by kernel_rfl) (by kernel_rfl) (by kernel_rfl) (by kernel_rfl) h0 h1 ?_
        refine qreg_run [] 7 [(0, [], Value.slice a_.ptr a_.len a_.cap), (1, [], Value.slice b_.ptr b_.len b_.cap), (5, [], Value.int .i64 i), (20, [], Value.int .u8 v20), (23, [], Value.pointer (some ⟨(pblk b_.ptr), (poff b_.ptr) + i.toNat, none⟩))] (by kernel_rfl) (by kernel_rfl) ?_
        obtain ⟨v24, hc, h⟩ := h
        refine qreg_load1 (t := 5) (a := (Go.Operand.tmp 23)) (b := (pblk b_.ptr)) (o := ((poff b_.ptr) + i.toNat)) (ty := 5) (dst := some 24) (by kernel_rfl) (by kernel_rfl) (by kernel_rfl) hc ?_
        refine qreg_run [.plain] 9 [(0, [], Value.slice a_.ptr a_.len a_.cap), (1, [], Value.slice b_.ptr b_.len b_.cap), (5, [], Value.int .i64 i), (25, [], Value.bool (v20 != v24))] (by kernel_rfl) (by kernel_rfl) ?_
        refine qreg_end [(0, Value.slice a_.ptr a_.len a_.cap), (1, Value.slice b_.ptr b_.len b_.cap), (5, Value.int .i64 i), (25, Value.bool (v20 != v24))] (by kernel_rfl) (by kernel_rfl) (fun w2 hw => ?_)
        replace h := h w2 hw
        clear hw
        change WpE _ _ c_towpathlaw01_SameBytes_31 _ _ _
        refine wpE_cond (o := (Operand.tmp 25)) (b := (v20 != v24)) (x := c_towpathlaw01_SameBytes_32) (y := c_towpathlaw01_SameBytes_36) (by kernel_rfl) (by kernel_rfl) (fun hb => ?_) (fun hb => ?_)
        · replace h := h.1 hb
          refine wpE_seq (x := c_towpathlaw01_SameBytes_33) (y := c_towpathlaw01_SameBytes_35) (by kernel_rfl) ?_
          refine wpE_region (id := 7) (ops := r_towpathlaw01_SameBytes_33) (by kernel_rfl) ?_
          refine reg_run [.plain] 1 [(4, [], Value.bool false)] (by kernel_rfl) (by kernel_rfl) ?_
          refine reg_end [(4, Value.bool false)] (by kernel_rfl) (by kernel_rfl) ?_
          change WpE _ _ c_towpathlaw01_SameBytes_35 _ _ _
          refine wpE_ret (by kernel_rfl) ?_
          repeat (first | refine seqQ_ret ?_ | refine blockQ_ret ?_ | refine loopQ_ret ?_ | refine cutQ_ret ?_)
          exact retS (rs := [(Go.ResultVar.tmp 4)]) (v := Value.bool false) (by kernel_rfl) (⟨by kernel_rfl, trivial⟩) ⟨false, rfl, h⟩
        · replace h := h.2 hb
          refine wpE_skip (by kernel_rfl) ?_
          change WpE _ _ c_towpathlaw01_SameBytes_37 _ _ _
          refine wpE_region (id := 5) (ops := r_towpathlaw01_SameBytes_37) (by kernel_rfl) ?_
          refine reg_run [.plain, .plain, .plain] 3 [(0, [], Value.slice a_.ptr a_.len a_.cap), (1, [], Value.slice b_.ptr b_.len b_.cap), (5, [], Value.int .i64 (IntKind.i64.wrap (i + 1)))] (by kernel_rfl) (by kernel_rfl) ?_
          refine reg_end [(0, Value.slice a_.ptr a_.len a_.cap), (1, Value.slice b_.ptr b_.len b_.cap), (5, Value.int .i64 (IntKind.i64.wrap (i + 1)))] (by kernel_rfl) (by kernel_rfl) ?_
          have hb_ := again__h _ _ h
          exact ⟨_, hb_.2, [(0, Value.slice a_.ptr a_.len a_.cap), (1, Value.slice b_.ptr b_.len b_.cap), (5, Value.int .i64 (IntKind.i64.wrap (i + 1)))], Sub.mk (by kernel_rfl), (IntKind.i64.wrap (i + 1)), rfl, hb_.1, rfl⟩
      · replace h := h.2 hb
        refine wpE_exit (id := 0) (by kernel_rfl) ?_
        change WpE _ _ c_towpathlaw01_SameBytes_39 _ _ _
        refine wpE_seq (x := c_towpathlaw01_SameBytes_40) (y := c_towpathlaw01_SameBytes_42) (by kernel_rfl) ?_
        refine wpE_region (id := 8) (ops := r_towpathlaw01_SameBytes_40) (by kernel_rfl) ?_
        refine reg_run [.plain] 1 [(4, [], Value.bool true)] (by kernel_rfl) (by kernel_rfl) ?_
        refine reg_end [(4, Value.bool true)] (by kernel_rfl) (by kernel_rfl) ?_
        change WpE _ _ c_towpathlaw01_SameBytes_42 _ _ _
        refine wpE_ret (by kernel_rfl) ?_
        repeat (first | refine seqQ_ret ?_ | refine blockQ_ret ?_ | refine loopQ_ret ?_ | refine cutQ_ret ?_)
        exact retS (rs := [(Go.ResultVar.tmp 4)]) (v := Value.bool true) (by kernel_rfl) (⟨by kernel_rfl, trivial⟩) ⟨true, rfl, h⟩
  · rintro e w' ⟨v, rfl, r0, rfl, h⟩; exact ⟨r0, rfl, h⟩

/-! ### towpath/towpathlaw01.SameWrites (function 48) -/
noncomputable def c_towpathlaw01_SameWrites_0 : Code := (Try.f48.body).getD Code.skip
noncomputable def c_towpathlaw01_SameWrites_1 : Code := Code.l c_towpathlaw01_SameWrites_0
noncomputable def r_towpathlaw01_SameWrites_1 : Array Oper := Code.ops c_towpathlaw01_SameWrites_1
noncomputable def c_towpathlaw01_SameWrites_3 : Code := Code.r c_towpathlaw01_SameWrites_0
noncomputable def c_towpathlaw01_SameWrites_4 : Code := Code.l c_towpathlaw01_SameWrites_3
noncomputable def c_towpathlaw01_SameWrites_5 : Code := Code.l c_towpathlaw01_SameWrites_4
noncomputable def r_towpathlaw01_SameWrites_5 : Array Oper := Code.ops c_towpathlaw01_SameWrites_5
noncomputable def c_towpathlaw01_SameWrites_7 : Code := Code.r c_towpathlaw01_SameWrites_4
noncomputable def c_towpathlaw01_SameWrites_8 : Code := Code.l c_towpathlaw01_SameWrites_7
noncomputable def c_towpathlaw01_SameWrites_9 : Code := Code.l c_towpathlaw01_SameWrites_8
noncomputable def r_towpathlaw01_SameWrites_9 : Array Oper := Code.ops c_towpathlaw01_SameWrites_9
noncomputable def c_towpathlaw01_SameWrites_11 : Code := Code.r c_towpathlaw01_SameWrites_8
noncomputable def c_towpathlaw01_SameWrites_12 : Code := Code.r c_towpathlaw01_SameWrites_7
noncomputable def c_towpathlaw01_SameWrites_13 : Code := Code.r c_towpathlaw01_SameWrites_3
noncomputable def c_towpathlaw01_SameWrites_14 : Code := Code.l c_towpathlaw01_SameWrites_13
noncomputable def c_towpathlaw01_SameWrites_15 : Code := Code.l c_towpathlaw01_SameWrites_14
noncomputable def r_towpathlaw01_SameWrites_15 : Array Oper := Code.ops c_towpathlaw01_SameWrites_15
noncomputable def c_towpathlaw01_SameWrites_17 : Code := Code.r c_towpathlaw01_SameWrites_14
noncomputable def c_towpathlaw01_SameWrites_18 : Code := Code.l c_towpathlaw01_SameWrites_17
noncomputable def c_towpathlaw01_SameWrites_19 : Code := Code.l c_towpathlaw01_SameWrites_18
noncomputable def c_towpathlaw01_SameWrites_20 : Code := Code.l c_towpathlaw01_SameWrites_19
noncomputable def c_towpathlaw01_SameWrites_21 : Code := Code.l c_towpathlaw01_SameWrites_20
noncomputable def r_towpathlaw01_SameWrites_21 : Array Oper := Code.ops c_towpathlaw01_SameWrites_21
noncomputable def c_towpathlaw01_SameWrites_23 : Code := Code.r c_towpathlaw01_SameWrites_20
noncomputable def c_towpathlaw01_SameWrites_24 : Code := Code.l c_towpathlaw01_SameWrites_23
noncomputable def c_towpathlaw01_SameWrites_25 : Code := Code.r c_towpathlaw01_SameWrites_23
noncomputable def c_towpathlaw01_SameWrites_26 : Code := Code.r c_towpathlaw01_SameWrites_19
noncomputable def c_towpathlaw01_SameWrites_27 : Code := Code.l c_towpathlaw01_SameWrites_26
noncomputable def c_towpathlaw01_SameWrites_28 : Code := Code.l c_towpathlaw01_SameWrites_27
noncomputable def c_towpathlaw01_SameWrites_29 : Code := Code.l c_towpathlaw01_SameWrites_28
noncomputable def r_towpathlaw01_SameWrites_29 : Array Oper := Code.ops c_towpathlaw01_SameWrites_29
noncomputable def c_towpathlaw01_SameWrites_31 : Code := Code.r c_towpathlaw01_SameWrites_28
noncomputable def c_towpathlaw01_SameWrites_32 : Code := Code.l c_towpathlaw01_SameWrites_31
noncomputable def c_towpathlaw01_SameWrites_33 : Code := Code.l c_towpathlaw01_SameWrites_32
noncomputable def r_towpathlaw01_SameWrites_33 : Array Oper := Code.ops c_towpathlaw01_SameWrites_33
noncomputable def c_towpathlaw01_SameWrites_35 : Code := Code.r c_towpathlaw01_SameWrites_32
noncomputable def c_towpathlaw01_SameWrites_36 : Code := Code.r c_towpathlaw01_SameWrites_31
noncomputable def c_towpathlaw01_SameWrites_37 : Code := Code.r c_towpathlaw01_SameWrites_26
noncomputable def r_towpathlaw01_SameWrites_37 : Array Oper := Code.ops c_towpathlaw01_SameWrites_37
noncomputable def c_towpathlaw01_SameWrites_39 : Code := Code.r c_towpathlaw01_SameWrites_13
noncomputable def c_towpathlaw01_SameWrites_40 : Code := Code.l c_towpathlaw01_SameWrites_39
noncomputable def r_towpathlaw01_SameWrites_40 : Array Oper := Code.ops c_towpathlaw01_SameWrites_40
noncomputable def c_towpathlaw01_SameWrites_42 : Code := Code.r c_towpathlaw01_SameWrites_39

set_option maxRecDepth 100000 in
set_option maxHeartbeats 4000000 in
theorem S_towpathlaw01_SameWrites {a_ : Slc} {b_ : Slc} {w : World} {R : Bool → World → Prop} (h : F_towpathlaw01_SameWrites a_ b_ R w) : C_towpathlaw01_SameWrites a_ b_ w R := by
  unfold F_towpathlaw01_SameWrites at h
  unfold C_towpathlaw01_SameWrites
  refine Calls.mono (calls_of_wpE (args := [Value.slice a_.ptr a_.len a_.cap, Value.slice b_.ptr b_.len b_.cap]) (R := fun v w' => ∃ (r0 : Bool), v = Value.bool r0 ∧ R r0 w') Try.func48 (c := c_towpathlaw01_SameWrites_0) (by kernel_rfl) 26 (by kernel_rfl) (by kernel_rfl) [(0, Value.slice a_.ptr a_.len a_.cap), (1, Value.slice b_.ptr b_.len b_.cap)] (by kernel_rfl) ?_) ?_
  · refine wpE_seq (x := c_towpathlaw01_SameWrites_1) (y := c_towpathlaw01_SameWrites_3) (by kernel_rfl) ?_
    refine wpE_region (id := 0) (ops := r_towpathlaw01_SameWrites_1) (by kernel_rfl) ?_
    refine reg_run [.plain] 1 [(0, [], Value.slice a_.ptr a_.len a_.cap), (1, [], Value.slice b_.ptr b_.len b_.cap)] (by kernel_rfl) (by kernel_rfl) ?_
    refine reg_end [(0, Value.slice a_.ptr a_.len a_.cap), (1, Value.slice b_.ptr b_.len b_.cap)] (by kernel_rfl) (by kernel_rfl) ?_
    change WpE _ _ c_towpathlaw01_SameWrites_3 _ _ _
    refine wpE_seq (x := c_towpathlaw01_SameWrites_4) (y := c_towpathlaw01_SameWrites_13) (by kernel_rfl) ?_
    refine wpE_seq (x := c_towpathlaw01_SameWrites_5) (y := c_towpathlaw01_SameWrites_7) (by kernel_rfl) ?_
    refine wpE_region (id := 1) (ops := r_towpathlaw01_SameWrites_5) (by kernel_rfl) ?_
    refine reg_run [.plain, .plain, .plain, .plain, .plain] 5 [(0, [], Value.slice a_.ptr a_.len a_.cap), (1, [], Value.slice b_.ptr b_.len b_.cap), (10, [], Value.bool (((a_.len : Nat) : Int) != ((b_.len : Nat) : Int)))] (by kernel_rfl) (by kernel_rfl) ?_
    refine reg_end [(0, Value.slice a_.ptr a_.len a_.cap), (1, Value.slice b_.ptr b_.len b_.cap), (10, Value.bool (((a_.len : Nat) : Int) != ((b_.len : Nat) : Int)))] (by kernel_rfl) (by kernel_rfl) ?_
    change WpE _ _ c_towpathlaw01_SameWrites_7 _ _ _
    refine wpE_cond (o := (Operand.tmp 10)) (b := (((a_.len : Nat) : Int) != ((b_.len : Nat) : Int))) (x := c_towpathlaw01_SameWrites_8) (y := c_towpathlaw01_SameWrites_12) (by kernel_rfl) (by kernel_rfl) (fun hb => ?_) (fun hb => ?_)
    · replace h := h.1 hb
      refine wpE_seq (x := c_towpathlaw01_SameWrites_9) (y := c_towpathlaw01_SameWrites_11) (by kernel_rfl) ?_
      refine wpE_region (id := 2) (ops := r_towpathlaw01_SameWrites_9) (by kernel_rfl) ?_
      refine reg_run [.plain] 1 [(4, [], Value.bool false)] (by kernel_rfl) (by kernel_rfl) ?_
      refine reg_end [(4, Value.bool false)] (by kernel_rfl) (by kernel_rfl) ?_
      change WpE _ _ c_towpathlaw01_SameWrites_11 _ _ _
      refine wpE_ret (by kernel_rfl) ?_
      repeat (first | refine seqQ_ret ?_ | refine blockQ_ret ?_ | refine loopQ_ret ?_ | refine cutQ_ret ?_)
      exact retS (rs := [(Go.ResultVar.tmp 4)]) (v := Value.bool false) (by kernel_rfl) (⟨by kernel_rfl, trivial⟩) ⟨false, rfl, h⟩
    · replace h := h.2 hb
      refine wpE_skip (by kernel_rfl) ?_
      change WpE _ _ c_towpathlaw01_SameWrites_13 _ _ _
      refine wpE_seq (x := c_towpathlaw01_SameWrites_14) (y := c_towpathlaw01_SameWrites_39) (by kernel_rfl) ?_
      refine wpE_seq (x := c_towpathlaw01_SameWrites_15) (y := c_towpathlaw01_SameWrites_17) (by kernel_rfl) ?_
      refine wpE_region (id := 3) (ops := r_towpathlaw01_SameWrites_15) (by kernel_rfl) ?_
      refine reg_run [.plain] 1 [(0, [], Value.slice a_.ptr a_.len a_.cap), (1, [], Value.slice b_.ptr b_.len b_.cap), (5, [], Value.int .i64 0)] (by kernel_rfl) (by kernel_rfl) ?_
      refine reg_end [(0, Value.slice a_.ptr a_.len a_.cap), (1, Value.slice b_.ptr b_.len b_.cap), (5, Value.int .i64 0)] (by kernel_rfl) (by kernel_rfl) ?_
      change WpE _ _ c_towpathlaw01_SameWrites_17 _ _ _
      refine wpE_block (id := 0) (x := c_towpathlaw01_SameWrites_18) (by kernel_rfl) ?_
      obtain ⟨I, μ, h0, hr⟩ := h
      refine wpE_loop (x := c_towpathlaw01_SameWrites_19) (by kernel_rfl) (fun m l w => ∃ (i : Int), l = [(0, Value.slice a_.ptr a_.len a_.cap), (1, Value.slice b_.ptr b_.len b_.cap), (5, Value.int .i64 i)] ∧ I i w ∧ μ i w = m) (l' := [(0, Value.slice a_.ptr a_.len a_.cap), (1, Value.slice b_.ptr b_.len b_.cap), (5, Value.int .i64 0)]) (Sub.mk (by kernel_rfl)) ⟨0, rfl, h0, rfl⟩ ?_
      rintro _ _ w1 ⟨i, rfl, hI, rfl⟩
      obtain ⟨again_, again__h, h⟩ : ∃ again_ : Int → World → Prop, (∀ i' w', again_ i' w' → I i' w' ∧ μ i' w' < μ i w1) ∧ F_towpathlaw01_SameWrites_L0 a_ b_ R again_ i w1 := ⟨_, fun _ _ h => h, hr i w1 hI⟩
      clear h0 hI
      unfold F_towpathlaw01_SameWrites_L0 at h
      refine wpE_seq (x := c_towpathlaw01_SameWrites_20) (y := c_towpathlaw01_SameWrites_26) (by kernel_rfl) ?_
      refine wpE_seq (x := c_towpathlaw01_SameWrites_21) (y := c_towpathlaw01_SameWrites_23) (by kernel_rfl) ?_
      refine wpE_region (id := 4) (ops := r_towpathlaw01_SameWrites_21) (by kernel_rfl) ?_
      refine reg_run [.plain, .plain, .plain, .plain] 4 [(0, [], Value.slice a_.ptr a_.len a_.cap), (1, [], Value.slice b_.ptr b_.len b_.cap), (5, [], Value.int .i64 i), (14, [], Value.bool (decide (i < ((a_.len : Nat) : Int))))] (by kernel_rfl) (by kernel_rfl) ?_
      refine reg_end [(0, Value.slice a_.ptr a_.len a_.cap), (1, Value.slice b_.ptr b_.len b_.cap), (5, Value.int .i64 i), (14, Value.bool (decide (i < ((a_.len : Nat) : Int))))] (by kernel_rfl) (by kernel_rfl) ?_
      change WpE _ _ c_towpathlaw01_SameWrites_23 _ _ _
      refine wpE_cond (o := (Operand.tmp 14)) (b := (decide (i < ((a_.len : Nat) : Int)))) (x := c_towpathlaw01_SameWrites_24) (y := c_towpathlaw01_SameWrites_25) (by kernel_rfl) (by kernel_rfl) (fun hb => ?_) (fun hb => ?_)
      · replace h := h.1 hb
        refine wpE_skip (by kernel_rfl) ?_
        change WpE _ _ c_towpathlaw01_SameWrites_26 _ _ _
        refine wpE_seq (x := c_towpathlaw01_SameWrites_27) (y := c_towpathlaw01_SameWrites_37) (by kernel_rfl) ?_
        refine wpE_block (id := 1) (x := c_towpathlaw01_SameWrites_28) (by kernel_rfl) ?_
        refine wpE_seq (x := c_towpathlaw01_SameWrites_29) (y := c_towpathlaw01_SameWrites_31) (by kernel_rfl) ?_
        refine wpE_drawregion (id := 6) (ops := r_towpathlaw01_SameWrites_29) (by kernel_rfl) (by kernel_rfl) (by kernel_rfl) ?_
        refine qreg_run [.plain, .plain] 2 [(0, [], Value.slice a_.ptr a_.len a_.cap), (1, [], Value.slice b_.ptr b_.len b_.cap), (5, [], Value.int .i64 i), (17, [], Value.slice a_.ptr a_.len a_.cap), (18, [], Value.int .i64 i)] (by kernel_rfl) (by kernel_rfl) ?_
        obtain ⟨hp_14, h⟩ := h
        refine qreg_conv [(0, [], Value.slice a_.ptr a_.len a_.cap), (1, [], Value.slice b_.ptr b_.len b_.cap), (5, [], Value.int .i64 i), (17, [], Value.slice (some ⟨(pblk a_.ptr), (poff a_.ptr), none⟩) a_.len a_.cap), (18, [], Value.int .i64 i)] (congrArg (fun pp => ([(0, [], Value.slice a_.ptr a_.len a_.cap), (1, [], Value.slice b_.ptr b_.len b_.cap), (5, [], Value.int .i64 i), (17, [], Value.slice pp a_.len a_.cap), (18, [], Value.int .i64 i)] : GEnv)) hp_14) ?_
        obtain ⟨h0, h1, h⟩ := h
        refine qreg_indexS (t := 25) (e := 61) (x := (Go.Operand.tmp 17)) (ix := (Go.Operand.tmp 18)) (b := (pblk a_.ptr)) (o := (poff a_.ptr)) (l := a_.len) (c := a_.cap) (k := .i64) (j := i) (ty := 0) (dst := some 19) (sz := 3) (by kernel_rfl) (by kernel_rfl) (by kernel_rfl) (by kernel_rfl) (by kernel_rfl) h0 h1 ?_
        refine qreg_run [] 3 [(0, [], Value.slice a_.ptr a_.len a_.cap), (1, [], Value.slice b_.ptr b_.len b_.cap), (5, [], Value.int .i64 i), (19, [], Value.pointer (some ⟨(pblk a_.ptr), (poff a_.ptr) + i.toNat * 3, none⟩))] (by kernel_rfl) (by kernel_rfl) ?_
        obtain ⟨v20, hc, h⟩ := h
        refine qreg_loadN (t := 61) (a := (Go.Operand.tmp 19)) (b := (pblk a_.ptr)) (o := ((poff a_.ptr) + i.toNat * 3)) (ty := 61) (dst := some 20) [Value.string v20.Key, Value.string v20.Val, Value.bool v20.Drop] (by kernel_rfl) (by kernel_rfl) (by kernel_rfl) (k := 3) (by kernel_rfl) (by kernel_rfl) hc ?_
        refine qreg_run [.plain, .plain] 6 [(0, [], Value.slice a_.ptr a_.len a_.cap), (1, [], Value.slice b_.ptr b_.len b_.cap), (5, [], Value.int .i64 i), (20, [], Value.agg #[Value.string v20.Key, Value.string v20.Val, Value.bool v20.Drop]), (21, [], Value.slice b_.ptr b_.len b_.cap), (22, [], Value.int .i64 i)] (by kernel_rfl) (by kernel_rfl) ?_
        obtain ⟨hp_15, h⟩ := h
        refine qreg_conv [(0, [], Value.slice a_.ptr a_.len a_.cap), (1, [], Value.slice b_.ptr b_.len b_.cap), (5, [], Value.int .i64 i), (20, [], Value.agg #[Value.string v20.Key, Value.string v20.Val, Value.bool v20.Drop]), (21, [], Value.slice (some ⟨(pblk b_.ptr), (poff b_.ptr), none⟩) b_.len b_.cap), (22, [], Value.int .i64 i)] (congrArg (fun pp => ([(0, [], Value.slice a_.ptr a_.len a_.cap), (1, [], Value.slice b_.ptr b_.len b_.cap), (5, [], Value.int .i64 i), (20, [], Value.agg #[Value.string v20.Key, Value.string v20.Val, Value.bool v20.Drop]), (21, [], Value.slice pp b_.len b_.cap), (22, [], Value.int .i64 i)] : GEnv)) hp_15) ?_
        obtain ⟨h0, h1, h⟩ := h
        refine qreg_indexS (t := 25) (e := 61) (x := (Go.Operand.tmp 21)) (ix := (Go.Operand.tmp 22)) (b := (pblk b_.ptr)) (o := (poff b_.ptr)) (l := b_.len) (c := b_.cap) (k := .i64) (j := i) (ty := 0) (dst := some 23) (sz := 3) (by kernel_rfl) (by kernel_rfl) (by kernel_rfl) (by kernel_rfl) (by kernel_rfl) h0 h1 ?_
        refine qreg_run [] 7 [(0, [], Value.slice a_.ptr a_.len a_.cap), (1, [], Value.slice b_.ptr b_.len b_.cap), (5, [], Value.int .i64 i), (20, [], Value.agg #[Value.string v20.Key, Value.string v20.Val, Value.bool v20.Drop]), (23, [], Value.pointer (some ⟨(pblk b_.ptr), (poff b_.ptr) + i.toNat * 3, none⟩))] (by kernel_rfl) (by kernel_rfl) ?_
        obtain ⟨v24, hc, h⟩ := h
        refine qreg_loadN (t := 61) (a := (Go.Operand.tmp 23)) (b := (pblk b_.ptr)) (o := ((poff b_.ptr) + i.toNat * 3)) (ty := 61) (dst := some 24) [Value.string v24.Key, Value.string v24.Val, Value.bool v24.Drop] (by kernel_rfl) (by kernel_rfl) (by kernel_rfl) (k := 3) (by kernel_rfl) (by kernel_rfl) hc ?_
        refine qreg_run [] 8 [(0, [], Value.slice a_.ptr a_.len a_.cap), (1, [], Value.slice b_.ptr b_.len b_.cap), (5, [], Value.int .i64 i), (20, [], Value.agg #[Value.string v20.Key, Value.string v20.Val, Value.bool v20.Drop]), (24, [], Value.agg #[Value.string v24.Key, Value.string v24.Val, Value.bool v24.Drop])] (by kernel_rfl) (by kernel_rfl) ?_
        refine qreg_val (op := (Go.Op.binOp Go.BinOp.neq 61 (Go.Operand.tmp 20) (Go.Operand.tmp 24) 61)) (ty := 4) (dst := some 25) (Value.bool (!(((v20.Key == v24.Key) && (v20.Val == v24.Val)) && (v20.Drop == v24.Drop)))) (by kernel_rfl) (fun ww => run_struct_neq (xs := [Value.string v20.Key, Value.string v20.Val, Value.bool v20.Drop]) (ys := [Value.string v24.Key, Value.string v24.Val, Value.bool v24.Drop]) (by kernel_rfl) (by kernel_rfl) (by kernel_rfl) (by kernel_rfl) (by kernel_rfl) ww) ?_
        refine qreg_end [(0, Value.slice a_.ptr a_.len a_.cap), (1, Value.slice b_.ptr b_.len b_.cap), (5, Value.int .i64 i), (25, Value.bool (!(((v20.Key == v24.Key) && (v20.Val == v24.Val)) && (v20.Drop == v24.Drop))))] (by kernel_rfl) (by kernel_rfl) (fun w2 hw => ?_)
        replace h := h w2 hw
        clear hw
        change WpE _ _ c_towpathlaw01_SameWrites_31 _ _ _
        refine wpE_cond (o := (Operand.tmp 25)) (b := (!(((v20.Key == v24.Key) && (v20.Val == v24.Val)) && (v20.Drop == v24.Drop)))) (x := c_towpathlaw01_SameWrites_32) (y := c_towpathlaw01_SameWrites_36) (by kernel_rfl) (by kernel_rfl) (fun hb => ?_) (fun hb => ?_)
        · replace h := h.1 hb
          refine wpE_seq (x := c_towpathlaw01_SameWrites_33) (y := c_towpathlaw01_SameWrites_35) (by kernel_rfl) ?_
          refine wpE_region (id := 7) (ops := r_towpathlaw01_SameWrites_33) (by kernel_rfl) ?_
          refine reg_run [.plain] 1 [(4, [], Value.bool false)] (by kernel_rfl) (by kernel_rfl) ?_
          refine reg_end [(4, Value.bool false)] (by kernel_rfl) (by kernel_rfl) ?_
          change WpE _ _ c_towpathlaw01_SameWrites_35 _ _ _
          refine wpE_ret (by kernel_rfl) ?_
          repeat (first | refine seqQ_ret ?_ | refine blockQ_ret ?_ | refine loopQ_ret ?_ | refine cutQ_ret ?_)
          exact retS (rs := [(Go.ResultVar.tmp 4)]) (v := Value.bool false) (by kernel_rfl) (⟨by kernel_rfl, trivial⟩) ⟨false, rfl, h⟩
        · replace h := h.2 hb
          refine wpE_skip (by kernel_rfl) ?_
          change WpE _ _ c_towpathlaw01_SameWrites_37 _ _ _
          refine wpE_region (id := 5) (ops := r_towpathlaw01_SameWrites_37) (by kernel_rfl) ?_
          refine reg_run [.plain, .plain, .plain] 3 [(0, [], Value.slice a_.ptr a_.len a_.cap), (1, [], Value.slice b_.ptr b_.len b_.cap), (5, [], Value.int .i64 (IntKind.i64.wrap (i + 1)))] (by kernel_rfl) (by kernel_rfl) ?_
          refine reg_end [(0, Value.slice a_.ptr a_.len a_.cap), (1, Value.slice b_.ptr b_.len b_.cap), (5, Value.int .i64 (IntKind.i64.wrap (i + 1)))] (by kernel_rfl) (by kernel_rfl) ?_
          have hb_ := again__h _ _ h
          exact ⟨_, hb_.2, [(0, Value.slice a_.ptr a_.len a_.cap), (1, Value.slice b_.ptr b_.len b_.cap), (5, Value.int .i64 (IntKind.i64.wrap (i + 1)))], Sub.mk (by kernel_rfl), (IntKind.i64.wrap (i + 1)), rfl, hb_.1, rfl⟩
      · replace h := h.2 hb
        refine wpE_exit (id := 0) (by kernel_rfl) ?_
        change WpE _ _ c_towpathlaw01_SameWrites_39 _ _ _
        refine wpE_seq (x := c_towpathlaw01_SameWrites_40) (y := c_towpathlaw01_SameWrites_42) (by kernel_rfl) ?_
        refine wpE_region (id := 8) (ops := r_towpathlaw01_SameWrites_40) (by kernel_rfl) ?_
        refine reg_run [.plain] 1 [(4, [], Value.bool true)] (by kernel_rfl) (by kernel_rfl) ?_
        refine reg_end [(4, Value.bool true)] (by kernel_rfl) (by kernel_rfl) ?_
        change WpE _ _ c_towpathlaw01_SameWrites_42 _ _ _
        refine wpE_ret (by kernel_rfl) ?_
        repeat (first | refine seqQ_ret ?_ | refine blockQ_ret ?_ | refine loopQ_ret ?_ | refine cutQ_ret ?_)
        exact retS (rs := [(Go.ResultVar.tmp 4)]) (v := Value.bool true) (by kernel_rfl) (⟨by kernel_rfl, trivial⟩) ⟨true, rfl, h⟩
  · rintro e w' ⟨v, rfl, r0, rfl, h⟩; exact ⟨r0, rfl, h⟩

/-! ### towpath/towpathlaw01.TwinTxn (function 50) -/
noncomputable def c_towpathlaw01_TwinTxn_0 : Code := (Try.f50.body).getD Code.skip
noncomputable def c_towpathlaw01_TwinTxn_1 : Code := Code.l c_towpathlaw01_TwinTxn_0
noncomputable def r_towpathlaw01_TwinTxn_1 : Array Oper := Code.ops c_towpathlaw01_TwinTxn_1
noncomputable def c_towpathlaw01_TwinTxn_3 : Code := Code.r c_towpathlaw01_TwinTxn_0
noncomputable def c_towpathlaw01_TwinTxn_4 : Code := Code.l c_towpathlaw01_TwinTxn_3
noncomputable def r_towpathlaw01_TwinTxn_4 : Array Oper := Code.ops c_towpathlaw01_TwinTxn_4
noncomputable def c_towpathlaw01_TwinTxn_6 : Code := Code.r c_towpathlaw01_TwinTxn_3
def o_towpathlaw01_TwinTxn_4 : List Nat := [0, 1, 2, 3, 4, 5, 6]

set_option maxRecDepth 100000 in
set_option maxHeartbeats 4000000 in
theorem S_towpathlaw01_TwinTxn {x : T_api_Txn} {w : World} {R : T_api_Txn → World → Prop} (h : F_towpathlaw01_TwinTxn x R w) : C_towpathlaw01_TwinTxn x w R := by
  unfold F_towpathlaw01_TwinTxn at h
  unfold C_towpathlaw01_TwinTxn
  refine Calls.mono (calls_of_wpE (args := [Value.agg #[Value.int .i64 x.Number, Value.slice x.Writes.ptr x.Writes.len x.Writes.cap]]) (R := fun v w' => ∃ (r0 : T_api_Txn), v = Value.agg #[Value.int .i64 r0.Number, Value.slice r0.Writes.ptr r0.Writes.len r0.Writes.cap] ∧ R r0 w') Try.func50 (c := c_towpathlaw01_TwinTxn_0) (by kernel_rfl) 9 (by kernel_rfl) (by kernel_rfl) [(0, Value.agg #[Value.int .i64 x.Number, Value.slice x.Writes.ptr x.Writes.len x.Writes.cap])] (by kernel_rfl) ?_) ?_
  · refine wpE_seq (x := c_towpathlaw01_TwinTxn_1) (y := c_towpathlaw01_TwinTxn_3) (by kernel_rfl) ?_
    refine wpE_region (id := 0) (ops := r_towpathlaw01_TwinTxn_1) (by kernel_rfl) ?_
    refine reg_run [] 0 [(0, [], Value.agg #[Value.int .i64 x.Number, Value.slice x.Writes.ptr x.Writes.len x.Writes.cap])] (by kernel_rfl) (by kernel_rfl) ?_
    refine reg_new (op := (Go.Op.box 27 (Go.Operand.tmp 0))) (ty := 0) (dst := some 1) (fun bb => Value.pointer (some ⟨bb, 0, none⟩)) (Obj.cells ([Value.int .i64 x.Number, Value.slice x.Writes.ptr x.Writes.len x.Writes.cap]).toArray ty_api_Txn (0, 0)) (by kernel_rfl) (by kernel_rfl) (fun b_ w1 hb hw => ?_)
    replace h := h b_ w1 hb hw
    clear hb hw
    refine reg_run [] 1 [(1, [], Value.pointer (some ⟨b_, 0, none⟩))] (by kernel_rfl) (by kernel_rfl) ?_
    refine reg_new (op := (Go.Op.alloc 27)) (ty := 0) (dst := some 2) (fun bb => Value.pointer (some ⟨bb, 0, none⟩)) (Obj.cells ([Value.int .i64 0, Value.slice none 0 0]).toArray ty_api_Txn (0, 0)) (by kernel_rfl) (by kernel_rfl) (fun b_1 w2 hb hw => ?_)
    replace h := h b_1 w2 hb hw
    clear hb hw
    refine reg_end [(1, Value.pointer (some ⟨b_, 0, none⟩)), (2, Value.pointer (some ⟨b_1, 0, none⟩))] (by kernel_rfl) (by kernel_rfl) ?_
    change WpE _ _ c_towpathlaw01_TwinTxn_3 _ _ _
    refine wpE_seq (x := c_towpathlaw01_TwinTxn_4) (y := c_towpathlaw01_TwinTxn_6) (by kernel_rfl) ?_
    refine wpE_mixregion (id := 1) (ops := r_towpathlaw01_TwinTxn_4) o_towpathlaw01_TwinTxn_4 (by kernel_rfl) (by kernel_rfl) (by kernel_rfl) (by kernel_rfl) (fun w3 hw => ?_)
    replace h := h w3 hw
    clear hw
    refine mreg_run [.plain] 1 [(1, [], Value.pointer (some ⟨b_, 0, none⟩)), (2, [], Value.pointer (some ⟨b_1, 0, none⟩)), (3, [], Value.pointer (some ⟨b_, 0, none⟩))] (by kernel_rfl) (by kernel_rfl) ?_
    obtain ⟨v4, hc, h⟩ := h
    refine mreg_load1 (i := 1) (by kernel_rfl) (t := 3) (a := (Go.Operand.tmp 3)) (b := b_) (o := 0) (ty := 3) (dst := some 4) (by kernel_rfl) (by kernel_rfl) (by kernel_rfl) hc ?_
    refine mreg_run [.plain] 3 [(2, [], Value.pointer (some ⟨b_1, 0, none⟩)), (4, [], Value.int .i64 v4), (5, [], Value.pointer (some ⟨b_, 1, none⟩))] (by kernel_rfl) (by kernel_rfl) ?_
    obtain ⟨v6, hc, h⟩ := h
    refine mreg_load1 (i := 3) (by kernel_rfl) (t := 25) (a := (Go.Operand.tmp 5)) (b := b_) (o := 1) (ty := 25) (dst := some 6) (by kernel_rfl) (by kernel_rfl) (by kernel_rfl) hc ?_
    refine mreg_run [] 4 [(2, [], Value.pointer (some ⟨b_1, 0, none⟩)), (4, [], Value.int .i64 v4), (6, [], Value.slice v6.ptr v6.len v6.cap)] (by kernel_rfl) (by kernel_rfl) ?_
    refine mreg_enter (op := (Go.Op.call (Go.Call.mk (Go.Callee.value (Go.Operand.func 83)) #[(Go.Operand.tmp 6)] #[25]))) (ty := 25) (dst := some 7) 4 [3, 2] [(1, fun w' => w'.cell? ⟨b_, 0, none⟩ = some (Value.int .i64 v4))] 83 #[Value.slice v6.ptr v6.len v6.cap] (by kernel_rfl) (by kernel_rfl) (by kernel_rfl) (by kernel_rfl) (by kernel_rfl) (fun ww => by kernel_rfl) (Calls.mono h ?_)
    rintro _ w4 ⟨v7, rfl, h⟩
    obtain ⟨hk0, h⟩ := h
    refine ⟨_, rfl, ⟨hk0, trivial⟩, ?_⟩
    refine mreg_run [.plain] 6 [(2, [], Value.pointer (some ⟨b_1, 0, none⟩)), (8, [], Value.agg #[Value.int .i64 v4, Value.slice v7.ptr v7.len v7.cap])] (by kernel_rfl) (by kernel_rfl) ?_
    obtain ⟨hc, h⟩ := h
    refine mreg_store (t := 27) (a := (Go.Operand.tmp 2)) (x := (Go.Operand.tmp 8)) (b := b_1) (o := 0) (k := 2) (ty := 0) (dst := none) 6 [0, 1, 2, 3, 4, 5] [] [Value.int .i64 v4, Value.slice v7.ptr v7.len v7.cap] (by kernel_rfl) (by kernel_rfl) (by kernel_rfl) (by kernel_rfl) (by kernel_rfl) (by kernel_rfl) (by kernel_rfl) (by kernel_rfl) (by kernel_rfl) (by kernel_rfl) hc (fun w5 hw => ?_)
    replace h := h w5 hw
    clear hw
    refine ⟨trivial, ?_⟩
    refine mreg_end [(2, Value.pointer (some ⟨b_1, 0, none⟩))] (by kernel_rfl) (by kernel_rfl) (by kernel_rfl) ?_
    change WpE _ _ c_towpathlaw01_TwinTxn_6 _ _ _
    refine wpE_ret (by kernel_rfl) ?_
    obtain ⟨res, hc_res, h⟩ := h
    repeat (first | refine seqQ_ret ?_ | refine blockQ_ret ?_ | refine loopQ_ret ?_ | refine cutQ_ret ?_)
    exact retS (rs := [(Go.ResultVar.cell 2 27)]) (v := Value.agg #[Value.int .i64 res.Number, Value.slice res.Writes.ptr res.Writes.len res.Writes.cap]) (by kernel_rfl) (⟨b_1, 0, [Value.int .i64 res.Number, Value.slice res.Writes.ptr res.Writes.len res.Writes.cap], by kernel_rfl, hc_res, (sizeP_of (k := 2) (by kernel_rfl) (by kernel_rfl)), .inl ⟨by kernel_rfl, rfl⟩, trivial⟩) ⟨res, rfl, h⟩
  · rintro e w' ⟨v, rfl, r0, rfl, h⟩; exact ⟨r0, rfl, h⟩

/-! ### towpath/towpathlaw01.LeftTxn (function 52) -/
noncomputable def c_towpathlaw01_LeftTxn_0 : Code := (Try.f52.body).getD Code.skip
noncomputable def c_towpathlaw01_LeftTxn_1 : Code := Code.l c_towpathlaw01_LeftTxn_0
noncomputable def r_towpathlaw01_LeftTxn_1 : Array Oper := Code.ops c_towpathlaw01_LeftTxn_1
noncomputable def c_towpathlaw01_LeftTxn_3 : Code := Code.r c_towpathlaw01_LeftTxn_0
noncomputable def c_towpathlaw01_LeftTxn_4 : Code := Code.l c_towpathlaw01_LeftTxn_3
noncomputable def r_towpathlaw01_LeftTxn_4 : Array Oper := Code.ops c_towpathlaw01_LeftTxn_4
noncomputable def c_towpathlaw01_LeftTxn_6 : Code := Code.r c_towpathlaw01_LeftTxn_3

set_option maxRecDepth 100000 in
set_option maxHeartbeats 4000000 in
theorem S_towpathlaw01_LeftTxn {t_ : T_api_Txn} {x : T_api_Txn} {w : World} {R : Bool → World → Prop} (h : F_towpathlaw01_LeftTxn t_ x R w) : C_towpathlaw01_LeftTxn t_ x w R := by
  unfold F_towpathlaw01_LeftTxn at h
  unfold C_towpathlaw01_LeftTxn
  refine Calls.mono (calls_of_wpE (args := [Value.agg #[Value.int .i64 t_.Number, Value.slice t_.Writes.ptr t_.Writes.len t_.Writes.cap], Value.agg #[Value.int .i64 x.Number, Value.slice x.Writes.ptr x.Writes.len x.Writes.cap]]) (R := fun v w' => ∃ (r0 : Bool), v = Value.bool r0 ∧ R r0 w') Try.func52 (c := c_towpathlaw01_LeftTxn_0) (by kernel_rfl) 17 (by kernel_rfl) (by kernel_rfl) [(0, Value.agg #[Value.int .i64 t_.Number, Value.slice t_.Writes.ptr t_.Writes.len t_.Writes.cap]), (1, Value.agg #[Value.int .i64 x.Number, Value.slice x.Writes.ptr x.Writes.len x.Writes.cap])] (by kernel_rfl) ?_) ?_
  · refine wpE_seq (x := c_towpathlaw01_LeftTxn_1) (y := c_towpathlaw01_LeftTxn_3) (by kernel_rfl) ?_
    refine wpE_region (id := 0) (ops := r_towpathlaw01_LeftTxn_1) (by kernel_rfl) ?_
    refine reg_run [] 0 [(0, [], Value.agg #[Value.int .i64 t_.Number, Value.slice t_.Writes.ptr t_.Writes.len t_.Writes.cap]), (1, [], Value.agg #[Value.int .i64 x.Number, Value.slice x.Writes.ptr x.Writes.len x.Writes.cap])] (by kernel_rfl) (by kernel_rfl) ?_
    refine reg_new (op := (Go.Op.box 27 (Go.Operand.tmp 0))) (ty := 0) (dst := some 2) (fun bb => Value.pointer (some ⟨bb, 0, none⟩)) (Obj.cells ([Value.int .i64 t_.Number, Value.slice t_.Writes.ptr t_.Writes.len t_.Writes.cap]).toArray ty_api_Txn (0, 0)) (by kernel_rfl) (by kernel_rfl) (fun b_ w1 hb hw => ?_)
    replace h := h b_ w1 hb hw
    clear hb hw
    refine reg_run [] 1 [(1, [], Value.agg #[Value.int .i64 x.Number, Value.slice x.Writes.ptr x.Writes.len x.Writes.cap]), (2, [], Value.pointer (some ⟨b_, 0, none⟩))] (by kernel_rfl) (by kernel_rfl) ?_
    refine reg_new (op := (Go.Op.box 27 (Go.Operand.tmp 1))) (ty := 0) (dst := some 3) (fun bb => Value.pointer (some ⟨bb, 0, none⟩)) (Obj.cells ([Value.int .i64 x.Number, Value.slice x.Writes.ptr x.Writes.len x.Writes.cap]).toArray ty_api_Txn (0, 0)) (by kernel_rfl) (by kernel_rfl) (fun b_1 w2 hb hw => ?_)
    replace h := h b_1 w2 hb hw
    clear hb hw
    refine reg_run [.plain] 3 [(2, [], Value.pointer (some ⟨b_, 0, none⟩)), (3, [], Value.pointer (some ⟨b_1, 0, none⟩))] (by kernel_rfl) (by kernel_rfl) ?_
    refine reg_end [(2, Value.pointer (some ⟨b_, 0, none⟩)), (3, Value.pointer (some ⟨b_1, 0, none⟩))] (by kernel_rfl) (by kernel_rfl) ?_
    change WpE _ _ c_towpathlaw01_LeftTxn_3 _ _ _
    refine wpE_seq (x := c_towpathlaw01_LeftTxn_4) (y := c_towpathlaw01_LeftTxn_6) (by kernel_rfl) ?_
    refine wpE_region (id := 1) (ops := r_towpathlaw01_LeftTxn_4) (by kernel_rfl) ?_
    refine reg_run [.plain] 1 [(2, [], Value.pointer (some ⟨b_, 0, none⟩)), (3, [], Value.pointer (some ⟨b_1, 0, none⟩)), (5, [], Value.pointer (some ⟨b_, 0, none⟩))] (by kernel_rfl) (by kernel_rfl) ?_
    obtain ⟨v6, hc, h⟩ := h
    refine reg_load1 (t := 3) (a := (Go.Operand.tmp 5)) (b := b_) (o := 0) (ty := 3) (dst := some 6) (by kernel_rfl) (by kernel_rfl) (by kernel_rfl) hc ?_
    refine reg_run [.plain] 3 [(2, [], Value.pointer (some ⟨b_, 0, none⟩)), (3, [], Value.pointer (some ⟨b_1, 0, none⟩)), (6, [], Value.int .i64 v6), (7, [], Value.pointer (some ⟨b_1, 0, none⟩))] (by kernel_rfl) (by kernel_rfl) ?_
    obtain ⟨v8, hc, h⟩ := h
    refine reg_load1 (t := 3) (a := (Go.Operand.tmp 7)) (b := b_1) (o := 0) (ty := 3) (dst := some 8) (by kernel_rfl) (by kernel_rfl) (by kernel_rfl) hc ?_
    refine reg_run [.plain, .plain, .plain] 7 [(3, [], Value.pointer (some ⟨b_1, 0, none⟩)), (10, [], Value.bool (v6 == v8)), (11, [(10, true)], Value.pointer (some ⟨b_, 1, none⟩))] (by kernel_rfl) (by kernel_rfl) ?_
    refine reg_split 10 (v6 == v8) (by kernel_rfl) (fun hb => ?_) (fun hb => ?_)
    · replace h := h.1 hb
      refine reg_run [] 7 [(3, [], Value.pointer (some ⟨b_1, 0, none⟩)), (10, [], Value.bool true), (11, [], Value.pointer (some ⟨b_, 1, none⟩))] (by kernel_rfl) (by kernel_rfl) ?_
      refine reg_run [] 7 [(3, [], Value.pointer (some ⟨b_1, 0, none⟩)), (10, [], Value.bool true), (11, [], Value.pointer (some ⟨b_, 1, none⟩))] (by kernel_rfl) (by kernel_rfl) ?_
      obtain ⟨v12, hc, h⟩ := h
      refine reg_load1 (t := 25) (a := (Go.Operand.tmp 11)) (b := b_) (o := 1) (ty := 25) (dst := some 12) (by kernel_rfl) (by kernel_rfl) (by kernel_rfl) hc ?_
      refine reg_run [.sure] 9 [(10, [], Value.bool true), (12, [], Value.slice v12.ptr v12.len v12.cap), (13, [], Value.pointer (some ⟨b_1, 1, none⟩))] (by kernel_rfl) (by kernel_rfl) ?_
      obtain ⟨v14, hc, h⟩ := h
      refine reg_load1 (t := 25) (a := (Go.Operand.tmp 13)) (b := b_1) (o := 1) (ty := 25) (dst := some 14) (by kernel_rfl) (by kernel_rfl) (by kernel_rfl) hc ?_
      refine reg_run [] 10 [(10, [], Value.bool true), (12, [], Value.slice v12.ptr v12.len v12.cap), (14, [], Value.slice v14.ptr v14.len v14.cap)] (by kernel_rfl) (by kernel_rfl) ?_
      refine reg_enter (op := (Go.Op.call (Go.Call.mk (Go.Callee.value (Go.Operand.func 86)) #[(Go.Operand.tmp 12), (Go.Operand.tmp 14)] #[25, 25]))) (ty := 4) (dst := some 15) 86 #[Value.slice v12.ptr v12.len v12.cap, Value.slice v14.ptr v14.len v14.cap] (by kernel_rfl) (fun ww => by kernel_rfl) (Calls.mono h ?_)
      rintro _ w3 ⟨v15, rfl, h⟩
      refine ⟨_, rfl, ?_⟩
      refine reg_run [.plain, .plain] 13 [(4, [], Value.bool v15)] (by kernel_rfl) (by kernel_rfl) ?_
      refine reg_end [(4, Value.bool v15)] (by kernel_rfl) (by kernel_rfl) ?_
      change WpE _ _ c_towpathlaw01_LeftTxn_6 _ _ _
      refine wpE_ret (by kernel_rfl) ?_
      repeat (first | refine seqQ_ret ?_ | refine blockQ_ret ?_ | refine loopQ_ret ?_ | refine cutQ_ret ?_)
      exact retS (rs := [(Go.ResultVar.tmp 4)]) (v := Value.bool v15) (by kernel_rfl) (⟨by kernel_rfl, trivial⟩) ⟨v15, rfl, h⟩
    · replace h := h.2 hb
      refine reg_run [] 7 [(3, [], Value.pointer (some ⟨b_1, 0, none⟩)), (10, [], Value.bool false), (11, [], undef)] (by kernel_rfl) (by kernel_rfl) ?_
      refine reg_run [.skip, .skip, .skip, .skip, .plain, .plain] 13 [(4, [], Value.bool false)] (by kernel_rfl) (by kernel_rfl) ?_
      refine reg_end [(4, Value.bool false)] (by kernel_rfl) (by kernel_rfl) ?_
      change WpE _ _ c_towpathlaw01_LeftTxn_6 _ _ _
      refine wpE_ret (by kernel_rfl) ?_
      repeat (first | refine seqQ_ret ?_ | refine blockQ_ret ?_ | refine loopQ_ret ?_ | refine cutQ_ret ?_)
      exact retS (rs := [(Go.ResultVar.tmp 4)]) (v := Value.bool false) (by kernel_rfl) (⟨by kernel_rfl, trivial⟩) ⟨false, rfl, h⟩
  · rintro e w' ⟨v, rfl, r0, rfl, h⟩; exact ⟨r0, rfl, h⟩
end Go.Proofs.Ytfmkemmgakdddaa
