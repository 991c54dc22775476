/- WRITTEN BY PROGRAM (dec.py): for each Go function the clean formula F, the call's contract C, and the proof S that F gives C. -/
import Derived.Test.YtchcljkflklddaaRows
import Derived.Test.YtchcljkflklddaaGF
namespace Go.Proofs.Ytchcljkflklddaa
open Go
set_option linter.unusedVariables false

/-! ### slices.Concat[[]int,int] (function 61) -/
noncomputable def c_slices_Concat_int_int_0 : Code := (Try.f61.body).getD Code.skip
noncomputable def c_slices_Concat_int_int_1 : Code := Code.l c_slices_Concat_int_int_0
noncomputable def r_slices_Concat_int_int_1 : Array Oper := Code.ops c_slices_Concat_int_int_1
noncomputable def c_slices_Concat_int_int_3 : Code := Code.r c_slices_Concat_int_int_0
noncomputable def c_slices_Concat_int_int_4 : Code := Code.l c_slices_Concat_int_int_3
noncomputable def r_slices_Concat_int_int_4 : Array Oper := Code.ops c_slices_Concat_int_int_4
noncomputable def c_slices_Concat_int_int_6 : Code := Code.r c_slices_Concat_int_int_3
noncomputable def c_slices_Concat_int_int_7 : Code := Code.l c_slices_Concat_int_int_6
noncomputable def c_slices_Concat_int_int_8 : Code := Code.l c_slices_Concat_int_int_7
noncomputable def r_slices_Concat_int_int_8 : Array Oper := Code.ops c_slices_Concat_int_int_8
noncomputable def c_slices_Concat_int_int_10 : Code := Code.r c_slices_Concat_int_int_7
noncomputable def c_slices_Concat_int_int_11 : Code := Code.l c_slices_Concat_int_int_10
noncomputable def c_slices_Concat_int_int_12 : Code := Code.l c_slices_Concat_int_int_11
noncomputable def c_slices_Concat_int_int_13 : Code := Code.l c_slices_Concat_int_int_12
noncomputable def r_slices_Concat_int_int_13 : Array Oper := Code.ops c_slices_Concat_int_int_13
noncomputable def c_slices_Concat_int_int_15 : Code := Code.r c_slices_Concat_int_int_12
noncomputable def c_slices_Concat_int_int_16 : Code := Code.l c_slices_Concat_int_int_15
noncomputable def c_slices_Concat_int_int_17 : Code := Code.l c_slices_Concat_int_int_16
noncomputable def c_slices_Concat_int_int_18 : Code := Code.r c_slices_Concat_int_int_16
noncomputable def c_slices_Concat_int_int_19 : Code := Code.r c_slices_Concat_int_int_15
noncomputable def c_slices_Concat_int_int_20 : Code := Code.l c_slices_Concat_int_int_19
noncomputable def c_slices_Concat_int_int_21 : Code := Code.l c_slices_Concat_int_int_20
noncomputable def c_slices_Concat_int_int_22 : Code := Code.l c_slices_Concat_int_int_21
noncomputable def r_slices_Concat_int_int_22 : Array Oper := Code.ops c_slices_Concat_int_int_22
noncomputable def c_slices_Concat_int_int_24 : Code := Code.r c_slices_Concat_int_int_21
noncomputable def c_slices_Concat_int_int_25 : Code := Code.l c_slices_Concat_int_int_24
noncomputable def r_slices_Concat_int_int_25 : Array Oper := Code.ops c_slices_Concat_int_int_25
noncomputable def c_slices_Concat_int_int_27 : Code := Code.r c_slices_Concat_int_int_24
noncomputable def c_slices_Concat_int_int_28 : Code := Code.l c_slices_Concat_int_int_27
noncomputable def r_slices_Concat_int_int_28 : Array Oper := Code.ops c_slices_Concat_int_int_28
noncomputable def c_slices_Concat_int_int_30 : Code := Code.r c_slices_Concat_int_int_27
noncomputable def c_slices_Concat_int_int_31 : Code := Code.l c_slices_Concat_int_int_30
noncomputable def r_slices_Concat_int_int_31 : Array Oper := Code.ops c_slices_Concat_int_int_31
noncomputable def c_slices_Concat_int_int_33 : Code := Code.r c_slices_Concat_int_int_30
noncomputable def c_slices_Concat_int_int_34 : Code := Code.r c_slices_Concat_int_int_19
noncomputable def r_slices_Concat_int_int_34 : Array Oper := Code.ops c_slices_Concat_int_int_34
noncomputable def c_slices_Concat_int_int_36 : Code := Code.r c_slices_Concat_int_int_6
noncomputable def c_slices_Concat_int_int_37 : Code := Code.l c_slices_Concat_int_int_36
noncomputable def r_slices_Concat_int_int_37 : Array Oper := Code.ops c_slices_Concat_int_int_37
noncomputable def c_slices_Concat_int_int_39 : Code := Code.r c_slices_Concat_int_int_36
noncomputable def c_slices_Concat_int_int_40 : Code := Code.l c_slices_Concat_int_int_39
noncomputable def c_slices_Concat_int_int_41 : Code := Code.l c_slices_Concat_int_int_40
noncomputable def r_slices_Concat_int_int_41 : Array Oper := Code.ops c_slices_Concat_int_int_41
noncomputable def c_slices_Concat_int_int_43 : Code := Code.r c_slices_Concat_int_int_40
noncomputable def c_slices_Concat_int_int_44 : Code := Code.l c_slices_Concat_int_int_43
noncomputable def c_slices_Concat_int_int_45 : Code := Code.l c_slices_Concat_int_int_44
noncomputable def c_slices_Concat_int_int_46 : Code := Code.l c_slices_Concat_int_int_45
noncomputable def r_slices_Concat_int_int_46 : Array Oper := Code.ops c_slices_Concat_int_int_46
noncomputable def c_slices_Concat_int_int_48 : Code := Code.r c_slices_Concat_int_int_45
noncomputable def c_slices_Concat_int_int_49 : Code := Code.l c_slices_Concat_int_int_48
noncomputable def c_slices_Concat_int_int_50 : Code := Code.l c_slices_Concat_int_int_49
noncomputable def c_slices_Concat_int_int_51 : Code := Code.r c_slices_Concat_int_int_49
noncomputable def c_slices_Concat_int_int_52 : Code := Code.r c_slices_Concat_int_int_48
noncomputable def c_slices_Concat_int_int_53 : Code := Code.l c_slices_Concat_int_int_52
noncomputable def c_slices_Concat_int_int_54 : Code := Code.l c_slices_Concat_int_int_53
noncomputable def c_slices_Concat_int_int_55 : Code := Code.l c_slices_Concat_int_int_54
noncomputable def r_slices_Concat_int_int_55 : Array Oper := Code.ops c_slices_Concat_int_int_55
noncomputable def c_slices_Concat_int_int_57 : Code := Code.r c_slices_Concat_int_int_54
noncomputable def r_slices_Concat_int_int_57 : Array Oper := Code.ops c_slices_Concat_int_int_57
noncomputable def c_slices_Concat_int_int_59 : Code := Code.r c_slices_Concat_int_int_52
noncomputable def r_slices_Concat_int_int_59 : Array Oper := Code.ops c_slices_Concat_int_int_59
noncomputable def c_slices_Concat_int_int_61 : Code := Code.r c_slices_Concat_int_int_39
noncomputable def c_slices_Concat_int_int_62 : Code := Code.l c_slices_Concat_int_int_61
noncomputable def r_slices_Concat_int_int_62 : Array Oper := Code.ops c_slices_Concat_int_int_62
noncomputable def c_slices_Concat_int_int_64 : Code := Code.r c_slices_Concat_int_int_61

set_option maxRecDepth 100000 in
set_option maxHeartbeats 4000000 in
theorem S_slices_Concat_int_int {slices : Slc} {w : World} {R : Slc → World → Prop} (h : F_slices_Concat_int_int slices R w) : C_slices_Concat_int_int slices w R := by
  unfold F_slices_Concat_int_int at h
  unfold C_slices_Concat_int_int
  refine Calls.mono (calls_of_wpE (args := [Value.slice slices.ptr slices.len slices.cap]) (R := fun v w' => ∃ (r0 : Slc), v = Value.slice r0.ptr r0.len r0.cap ∧ R r0 w') Try.func61 (c := c_slices_Concat_int_int_0) (by kernel_rfl) 36 (by kernel_rfl) (by kernel_rfl) [(0, Value.slice slices.ptr slices.len slices.cap)] (by kernel_rfl) ?_) ?_
  · refine wpE_seq (x := c_slices_Concat_int_int_1) (y := c_slices_Concat_int_int_3) (by kernel_rfl) ?_
    refine wpE_region (id := 0) (ops := r_slices_Concat_int_int_1) (by kernel_rfl) ?_
    refine reg_run [.plain] 1 [(0, [], Value.slice slices.ptr slices.len slices.cap)] (by kernel_rfl) (by kernel_rfl) ?_
    refine reg_end [(0, Value.slice slices.ptr slices.len slices.cap)] (by kernel_rfl) (by kernel_rfl) ?_
    change WpE _ _ c_slices_Concat_int_int_3 _ _ _
    refine wpE_seq (x := c_slices_Concat_int_int_4) (y := c_slices_Concat_int_int_6) (by kernel_rfl) ?_
    refine wpE_region (id := 1) (ops := r_slices_Concat_int_int_4) (by kernel_rfl) ?_
    refine reg_run [.plain] 1 [(0, [], Value.slice slices.ptr slices.len slices.cap), (3, [], Value.int .i64 0)] (by kernel_rfl) (by kernel_rfl) ?_
    refine reg_end [(0, Value.slice slices.ptr slices.len slices.cap), (3, Value.int .i64 0)] (by kernel_rfl) (by kernel_rfl) ?_
    change WpE _ _ c_slices_Concat_int_int_6 _ _ _
    refine wpE_seq (x := c_slices_Concat_int_int_7) (y := c_slices_Concat_int_int_36) (by kernel_rfl) ?_
    refine wpE_seq (x := c_slices_Concat_int_int_8) (y := c_slices_Concat_int_int_10) (by kernel_rfl) ?_
    refine wpE_region (id := 2) (ops := r_slices_Concat_int_int_8) (by kernel_rfl) ?_
    refine reg_run [.plain, .plain, .plain] 3 [(0, [], Value.slice slices.ptr slices.len slices.cap), (3, [], Value.int .i64 0), (9, [], Value.slice slices.ptr slices.len slices.cap), (10, [], Value.int .i64 ((slices.len : Nat) : Int)), (11, [], Value.int .i64 0)] (by kernel_rfl) (by kernel_rfl) ?_
    refine reg_end [(0, Value.slice slices.ptr slices.len slices.cap), (3, Value.int .i64 0), (9, Value.slice slices.ptr slices.len slices.cap), (10, Value.int .i64 ((slices.len : Nat) : Int)), (11, Value.int .i64 0)] (by kernel_rfl) (by kernel_rfl) ?_
    change WpE _ _ c_slices_Concat_int_int_10 _ _ _
    refine wpE_block (id := 0) (x := c_slices_Concat_int_int_11) (by kernel_rfl) ?_
    obtain ⟨I, μ, h0, hr⟩ := h
    refine wpE_loop (x := c_slices_Concat_int_int_12) (by kernel_rfl) (fun m l w => ∃ (size : Int) (t11 : Int), l = [(0, Value.slice slices.ptr slices.len slices.cap), (3, Value.int .i64 size), (9, Value.slice slices.ptr slices.len slices.cap), (10, Value.int .i64 ((slices.len : Nat) : Int)), (11, Value.int .i64 t11)] ∧ I size t11 w ∧ μ size t11 w = m) (l' := [(0, Value.slice slices.ptr slices.len slices.cap), (3, Value.int .i64 0), (9, Value.slice slices.ptr slices.len slices.cap), (10, Value.int .i64 ((slices.len : Nat) : Int)), (11, Value.int .i64 0)]) (Sub.mk (by kernel_rfl)) ⟨0, 0, rfl, h0, rfl⟩ ?_
    rintro _ _ w1 ⟨size, t11, rfl, hI, rfl⟩
    obtain ⟨again_, again__h, h⟩ : ∃ again_ : Int → Int → World → Prop, (∀ size' t11' w', again_ size' t11' w' → I size' t11' w' ∧ μ size' t11' w' < μ size t11 w1) ∧ F_slices_Concat_int_int_L0 slices R again_ size t11 w1 := ⟨_, fun _ _ _ h => h, hr size t11 w1 hI⟩
    clear h0 hI
    unfold F_slices_Concat_int_int_L0 at h
    refine wpE_seq (x := c_slices_Concat_int_int_13) (y := c_slices_Concat_int_int_15) (by kernel_rfl) ?_
    refine wpE_region (id := 3) (ops := r_slices_Concat_int_int_13) (by kernel_rfl) ?_
    refine reg_run [.plain] 1 [(0, [], Value.slice slices.ptr slices.len slices.cap), (3, [], Value.int .i64 size), (9, [], Value.slice slices.ptr slices.len slices.cap), (10, [], Value.int .i64 ((slices.len : Nat) : Int)), (11, [], Value.int .i64 t11), (12, [], Value.bool (decide (t11 < ((slices.len : Nat) : Int))))] (by kernel_rfl) (by kernel_rfl) ?_
    refine reg_end [(0, Value.slice slices.ptr slices.len slices.cap), (3, Value.int .i64 size), (9, Value.slice slices.ptr slices.len slices.cap), (10, Value.int .i64 ((slices.len : Nat) : Int)), (11, Value.int .i64 t11), (12, Value.bool (decide (t11 < ((slices.len : Nat) : Int))))] (by kernel_rfl) (by kernel_rfl) ?_
    change WpE _ _ c_slices_Concat_int_int_15 _ _ _
    refine wpE_seq (x := c_slices_Concat_int_int_16) (y := c_slices_Concat_int_int_19) (by kernel_rfl) ?_
    refine wpE_cond (o := (Operand.tmp 12)) (b := (decide (t11 < ((slices.len : Nat) : Int)))) (x := c_slices_Concat_int_int_17) (y := c_slices_Concat_int_int_18) (by kernel_rfl) (by kernel_rfl) (fun hb => ?_) (fun hb => ?_)
    · replace h := h.1 hb
      refine wpE_skip (by kernel_rfl) ?_
      change WpE _ _ c_slices_Concat_int_int_19 _ _ _
      refine wpE_seq (x := c_slices_Concat_int_int_20) (y := c_slices_Concat_int_int_34) (by kernel_rfl) ?_
      refine wpE_block (id := 1) (x := c_slices_Concat_int_int_21) (by kernel_rfl) ?_
      refine wpE_seq (x := c_slices_Concat_int_int_22) (y := c_slices_Concat_int_int_24) (by kernel_rfl) ?_
      refine wpE_region (id := 4) (ops := r_slices_Concat_int_int_22) (by kernel_rfl) ?_
      refine reg_run [] 0 [(0, [], Value.slice slices.ptr slices.len slices.cap), (3, [], Value.int .i64 size), (9, [], Value.slice slices.ptr slices.len slices.cap), (10, [], Value.int .i64 ((slices.len : Nat) : Int)), (11, [], Value.int .i64 t11)] (by kernel_rfl) (by kernel_rfl) ?_
      obtain ⟨hp_7, h⟩ := h
      refine reg_conv [(0, [], Value.slice slices.ptr slices.len slices.cap), (3, [], Value.int .i64 size), (9, [], Value.slice (some ⟨(pblk slices.ptr), (poff slices.ptr), none⟩) slices.len slices.cap), (10, [], Value.int .i64 ((slices.len : Nat) : Int)), (11, [], Value.int .i64 t11)] (congrArg (fun pp => ([(0, [], Value.slice slices.ptr slices.len slices.cap), (3, [], Value.int .i64 size), (9, [], Value.slice pp slices.len slices.cap), (10, [], Value.int .i64 ((slices.len : Nat) : Int)), (11, [], Value.int .i64 t11)] : GEnv)) hp_7) ?_
      obtain ⟨h0, h1, h⟩ := h
      refine reg_indexS1 (t := 90) (e := 49) (x := (Go.Operand.tmp 9)) (ix := (Go.Operand.tmp 11)) (b := (pblk slices.ptr)) (o := (poff slices.ptr)) (l := slices.len) (c := slices.cap) (k := .i64) (j := t11) (ty := 0) (dst := some 13) (by kernel_rfl) (by kernel_rfl) (by kernel_rfl) (by kernel_rfl) (by kernel_rfl) h0 h1 ?_
      refine reg_run [] 1 [(0, [], Value.slice slices.ptr slices.len slices.cap), (3, [], Value.int .i64 size), (9, [], Value.slice (some ⟨(pblk slices.ptr), (poff slices.ptr), none⟩) slices.len slices.cap), (10, [], Value.int .i64 ((slices.len : Nat) : Int)), (11, [], Value.int .i64 t11), (13, [], Value.pointer (some ⟨(pblk slices.ptr), (poff slices.ptr) + t11.toNat, none⟩))] (by kernel_rfl) (by kernel_rfl) ?_
      obtain ⟨s, hc, h⟩ := h
      refine reg_load1 (t := 49) (a := (Go.Operand.tmp 13)) (b := (pblk slices.ptr)) (o := ((poff slices.ptr) + t11.toNat)) (ty := 49) (dst := some 14) (by kernel_rfl) (by kernel_rfl) (by kernel_rfl) hc ?_
      refine reg_run [.plain] 3 [(0, [], Value.slice slices.ptr slices.len slices.cap), (3, [], Value.int .i64 size), (5, [], Value.slice s.ptr s.len s.cap), (9, [], Value.slice (some ⟨(pblk slices.ptr), (poff slices.ptr), none⟩) slices.len slices.cap), (10, [], Value.int .i64 ((slices.len : Nat) : Int)), (11, [], Value.int .i64 t11)] (by kernel_rfl) (by kernel_rfl) ?_
      refine reg_conv [(0, [], Value.slice slices.ptr slices.len slices.cap), (3, [], Value.int .i64 size), (5, [], Value.slice s.ptr s.len s.cap), (9, [], Value.slice slices.ptr slices.len slices.cap), (10, [], Value.int .i64 ((slices.len : Nat) : Int)), (11, [], Value.int .i64 t11)] (congrArg (fun pp => ([(0, [], Value.slice slices.ptr slices.len slices.cap), (3, [], Value.int .i64 size), (5, [], Value.slice s.ptr s.len s.cap), (9, [], Value.slice pp slices.len slices.cap), (10, [], Value.int .i64 ((slices.len : Nat) : Int)), (11, [], Value.int .i64 t11)] : GEnv)) hp_7.symm) ?_
      refine reg_end [(0, Value.slice slices.ptr slices.len slices.cap), (3, Value.int .i64 size), (5, Value.slice s.ptr s.len s.cap), (9, Value.slice slices.ptr slices.len slices.cap), (10, Value.int .i64 ((slices.len : Nat) : Int)), (11, Value.int .i64 t11)] (by kernel_rfl) (by kernel_rfl) ?_
      change WpE _ _ c_slices_Concat_int_int_24 _ _ _
      refine wpE_seq (x := c_slices_Concat_int_int_25) (y := c_slices_Concat_int_int_27) (by kernel_rfl) ?_
      refine wpE_region (id := 5) (ops := r_slices_Concat_int_int_25) (by kernel_rfl) ?_
      refine reg_run [.plain, .plain, .plain, .plain, .plain] 5 [(0, [], Value.slice slices.ptr slices.len slices.cap), (3, [], Value.int .i64 (IntKind.i64.wrap (size + ((s.len : Nat) : Int)))), (9, [], Value.slice slices.ptr slices.len slices.cap), (10, [], Value.int .i64 ((slices.len : Nat) : Int)), (11, [], Value.int .i64 t11)] (by kernel_rfl) (by kernel_rfl) ?_
      refine reg_end [(0, Value.slice slices.ptr slices.len slices.cap), (3, Value.int .i64 (IntKind.i64.wrap (size + ((s.len : Nat) : Int)))), (9, Value.slice slices.ptr slices.len slices.cap), (10, Value.int .i64 ((slices.len : Nat) : Int)), (11, Value.int .i64 t11)] (by kernel_rfl) (by kernel_rfl) ?_
      change WpE _ _ c_slices_Concat_int_int_27 _ _ _
      refine wpE_seq (x := c_slices_Concat_int_int_28) (y := c_slices_Concat_int_int_30) (by kernel_rfl) ?_
      refine wpE_region (id := 6) (ops := r_slices_Concat_int_int_28) (by kernel_rfl) ?_
      refine reg_run [.plain, .plain] 2 [(0, [], Value.slice slices.ptr slices.len slices.cap), (3, [], Value.int .i64 (IntKind.i64.wrap (size + ((s.len : Nat) : Int)))), (9, [], Value.slice slices.ptr slices.len slices.cap), (10, [], Value.int .i64 ((slices.len : Nat) : Int)), (11, [], Value.int .i64 t11), (20, [], Value.bool (decide ((IntKind.i64.wrap (size + ((s.len : Nat) : Int))) < 0)))] (by kernel_rfl) (by kernel_rfl) ?_
      refine reg_end [(0, Value.slice slices.ptr slices.len slices.cap), (3, Value.int .i64 (IntKind.i64.wrap (size + ((s.len : Nat) : Int)))), (9, Value.slice slices.ptr slices.len slices.cap), (10, Value.int .i64 ((slices.len : Nat) : Int)), (11, Value.int .i64 t11), (20, Value.bool (decide ((IntKind.i64.wrap (size + ((s.len : Nat) : Int))) < 0)))] (by kernel_rfl) (by kernel_rfl) ?_
      change WpE _ _ c_slices_Concat_int_int_30 _ _ _
      refine wpE_cond (o := (Operand.tmp 20)) (b := (decide ((IntKind.i64.wrap (size + ((s.len : Nat) : Int))) < 0))) (x := c_slices_Concat_int_int_31) (y := c_slices_Concat_int_int_33) (by kernel_rfl) (by kernel_rfl) (fun hb => ?_) (fun hb => ?_)
      · replace h := h.1 hb
        refine wpE_region (id := 7) (ops := r_slices_Concat_int_int_31) (by kernel_rfl) ?_
        refine reg_run [.plain] 1 [(0, [], Value.slice slices.ptr slices.len slices.cap), (3, [], Value.int .i64 (IntKind.i64.wrap (size + ((s.len : Nat) : Int)))), (9, [], Value.slice slices.ptr slices.len slices.cap), (10, [], Value.int .i64 ((slices.len : Nat) : Int)), (11, [], Value.int .i64 t11), (21, [], Value.iface 9 (Value.string (ByteArray.mk #[108, 101, 110, 32, 111, 117, 116, 32, 111, 102, 32, 114, 97, 110, 103, 101])))] (by kernel_rfl) (by kernel_rfl) ?_
        exact h.elim
      · replace h := h.2 hb
        refine wpE_skip (by kernel_rfl) ?_
        change WpE _ _ c_slices_Concat_int_int_34 _ _ _
        refine wpE_region (id := 8) (ops := r_slices_Concat_int_int_34) (by kernel_rfl) ?_
        refine reg_run [.plain, .plain] 2 [(0, [], Value.slice slices.ptr slices.len slices.cap), (3, [], Value.int .i64 (IntKind.i64.wrap (size + ((s.len : Nat) : Int)))), (9, [], Value.slice slices.ptr slices.len slices.cap), (10, [], Value.int .i64 ((slices.len : Nat) : Int)), (11, [], Value.int .i64 (IntKind.i64.wrap (t11 + 1)))] (by kernel_rfl) (by kernel_rfl) ?_
        refine reg_end [(0, Value.slice slices.ptr slices.len slices.cap), (3, Value.int .i64 (IntKind.i64.wrap (size + ((s.len : Nat) : Int)))), (9, Value.slice slices.ptr slices.len slices.cap), (10, Value.int .i64 ((slices.len : Nat) : Int)), (11, Value.int .i64 (IntKind.i64.wrap (t11 + 1)))] (by kernel_rfl) (by kernel_rfl) ?_
        have hb_ := again__h _ _ _ h
        exact ⟨_, hb_.2, [(0, Value.slice slices.ptr slices.len slices.cap), (3, Value.int .i64 (IntKind.i64.wrap (size + ((s.len : Nat) : Int)))), (9, Value.slice slices.ptr slices.len slices.cap), (10, Value.int .i64 ((slices.len : Nat) : Int)), (11, Value.int .i64 (IntKind.i64.wrap (t11 + 1)))], Sub.mk (by kernel_rfl), (IntKind.i64.wrap (size + ((s.len : Nat) : Int))), (IntKind.i64.wrap (t11 + 1)), rfl, hb_.1, rfl⟩
    · replace h := h.2 hb
      refine wpE_exit (id := 0) (by kernel_rfl) ?_
      change WpE _ _ c_slices_Concat_int_int_36 _ _ _
      refine wpE_seq (x := c_slices_Concat_int_int_37) (y := c_slices_Concat_int_int_39) (by kernel_rfl) ?_
      refine wpE_region (id := 9) (ops := r_slices_Concat_int_int_37) (by kernel_rfl) ?_
      refine reg_run [.plain] 1 [(0, [], Value.slice slices.ptr slices.len slices.cap), (23, [], Value.int .i64 size)] (by kernel_rfl) (by kernel_rfl) ?_
      refine reg_enter (op := (Go.Op.call (Go.Call.mk (Go.Callee.value (Go.Operand.func 62)) #[(Go.Operand.const (Go.Value.slice none 0 0)), (Go.Operand.tmp 23)] #[49, 3]))) (ty := 49) (dst := some 24) 62 #[Value.slice none 0 0, Value.int .i64 size] (by kernel_rfl) (fun ww => by kernel_rfl) (Calls.mono h ?_)
      rintro _ w2 ⟨v24, rfl, h⟩
      refine ⟨_, rfl, ?_⟩
      refine reg_run [.plain] 3 [(0, [], Value.slice slices.ptr slices.len slices.cap), (6, [], Value.slice v24.ptr v24.len v24.cap)] (by kernel_rfl) (by kernel_rfl) ?_
      refine reg_end [(0, Value.slice slices.ptr slices.len slices.cap), (6, Value.slice v24.ptr v24.len v24.cap)] (by kernel_rfl) (by kernel_rfl) ?_
      change WpE _ _ c_slices_Concat_int_int_39 _ _ _
      refine wpE_seq (x := c_slices_Concat_int_int_40) (y := c_slices_Concat_int_int_61) (by kernel_rfl) ?_
      refine wpE_seq (x := c_slices_Concat_int_int_41) (y := c_slices_Concat_int_int_43) (by kernel_rfl) ?_
      refine wpE_region (id := 10) (ops := r_slices_Concat_int_int_41) (by kernel_rfl) ?_
      refine reg_run [.plain, .plain, .plain] 3 [(6, [], Value.slice v24.ptr v24.len v24.cap), (25, [], Value.slice slices.ptr slices.len slices.cap), (26, [], Value.int .i64 ((slices.len : Nat) : Int)), (27, [], Value.int .i64 0)] (by kernel_rfl) (by kernel_rfl) ?_
      refine reg_end [(6, Value.slice v24.ptr v24.len v24.cap), (25, Value.slice slices.ptr slices.len slices.cap), (26, Value.int .i64 ((slices.len : Nat) : Int)), (27, Value.int .i64 0)] (by kernel_rfl) (by kernel_rfl) ?_
      change WpE _ _ c_slices_Concat_int_int_43 _ _ _
      refine wpE_block (id := 2) (x := c_slices_Concat_int_int_44) (by kernel_rfl) ?_
      obtain ⟨I, μ, h0, hr⟩ := h
      refine wpE_loop (x := c_slices_Concat_int_int_45) (by kernel_rfl) (fun m l w => ∃ (newslice : Slc) (t27 : Int), l = [(6, Value.slice newslice.ptr newslice.len newslice.cap), (25, Value.slice slices.ptr slices.len slices.cap), (26, Value.int .i64 ((slices.len : Nat) : Int)), (27, Value.int .i64 t27)] ∧ I newslice t27 w ∧ μ newslice t27 w = m) (l' := [(6, Value.slice v24.ptr v24.len v24.cap), (25, Value.slice slices.ptr slices.len slices.cap), (26, Value.int .i64 ((slices.len : Nat) : Int)), (27, Value.int .i64 0)]) (Sub.mk (by kernel_rfl)) ⟨v24, 0, rfl, h0, rfl⟩ ?_
      rintro _ _ w3 ⟨newslice, t27, rfl, hI, rfl⟩
      obtain ⟨again_1, again_1_h, h⟩ : ∃ again_1 : Slc → Int → World → Prop, (∀ newslice' t27' w', again_1 newslice' t27' w' → I newslice' t27' w' ∧ μ newslice' t27' w' < μ newslice t27 w3) ∧ F_slices_Concat_int_int_L1 slices R again_1 newslice t27 w3 := ⟨_, fun _ _ _ h => h, hr newslice t27 w3 hI⟩
      clear h0 hI
      unfold F_slices_Concat_int_int_L1 at h
      refine wpE_seq (x := c_slices_Concat_int_int_46) (y := c_slices_Concat_int_int_48) (by kernel_rfl) ?_
      refine wpE_region (id := 11) (ops := r_slices_Concat_int_int_46) (by kernel_rfl) ?_
      refine reg_run [.plain] 1 [(6, [], Value.slice newslice.ptr newslice.len newslice.cap), (25, [], Value.slice slices.ptr slices.len slices.cap), (26, [], Value.int .i64 ((slices.len : Nat) : Int)), (27, [], Value.int .i64 t27), (28, [], Value.bool (decide (t27 < ((slices.len : Nat) : Int))))] (by kernel_rfl) (by kernel_rfl) ?_
      refine reg_end [(6, Value.slice newslice.ptr newslice.len newslice.cap), (25, Value.slice slices.ptr slices.len slices.cap), (26, Value.int .i64 ((slices.len : Nat) : Int)), (27, Value.int .i64 t27), (28, Value.bool (decide (t27 < ((slices.len : Nat) : Int))))] (by kernel_rfl) (by kernel_rfl) ?_
      change WpE _ _ c_slices_Concat_int_int_48 _ _ _
      refine wpE_seq (x := c_slices_Concat_int_int_49) (y := c_slices_Concat_int_int_52) (by kernel_rfl) ?_
      refine wpE_cond (o := (Operand.tmp 28)) (b := (decide (t27 < ((slices.len : Nat) : Int)))) (x := c_slices_Concat_int_int_50) (y := c_slices_Concat_int_int_51) (by kernel_rfl) (by kernel_rfl) (fun hb => ?_) (fun hb => ?_)
      · replace h := h.1 hb
        refine wpE_skip (by kernel_rfl) ?_
        change WpE _ _ c_slices_Concat_int_int_52 _ _ _
        refine wpE_seq (x := c_slices_Concat_int_int_53) (y := c_slices_Concat_int_int_59) (by kernel_rfl) ?_
        refine wpE_block (id := 3) (x := c_slices_Concat_int_int_54) (by kernel_rfl) ?_
        refine wpE_seq (x := c_slices_Concat_int_int_55) (y := c_slices_Concat_int_int_57) (by kernel_rfl) ?_
        refine wpE_region (id := 12) (ops := r_slices_Concat_int_int_55) (by kernel_rfl) ?_
        refine reg_run [] 0 [(6, [], Value.slice newslice.ptr newslice.len newslice.cap), (25, [], Value.slice slices.ptr slices.len slices.cap), (26, [], Value.int .i64 ((slices.len : Nat) : Int)), (27, [], Value.int .i64 t27)] (by kernel_rfl) (by kernel_rfl) ?_
        obtain ⟨hp_15, h⟩ := h
        refine reg_conv [(6, [], Value.slice newslice.ptr newslice.len newslice.cap), (25, [], Value.slice (some ⟨(pblk slices.ptr), (poff slices.ptr), none⟩) slices.len slices.cap), (26, [], Value.int .i64 ((slices.len : Nat) : Int)), (27, [], Value.int .i64 t27)] (congrArg (fun pp => ([(6, [], Value.slice newslice.ptr newslice.len newslice.cap), (25, [], Value.slice pp slices.len slices.cap), (26, [], Value.int .i64 ((slices.len : Nat) : Int)), (27, [], Value.int .i64 t27)] : GEnv)) hp_15) ?_
        obtain ⟨h0, h1, h⟩ := h
        refine reg_indexS1 (t := 90) (e := 49) (x := (Go.Operand.tmp 25)) (ix := (Go.Operand.tmp 27)) (b := (pblk slices.ptr)) (o := (poff slices.ptr)) (l := slices.len) (c := slices.cap) (k := .i64) (j := t27) (ty := 0) (dst := some 29) (by kernel_rfl) (by kernel_rfl) (by kernel_rfl) (by kernel_rfl) (by kernel_rfl) h0 h1 ?_
        refine reg_run [] 1 [(6, [], Value.slice newslice.ptr newslice.len newslice.cap), (25, [], Value.slice (some ⟨(pblk slices.ptr), (poff slices.ptr), none⟩) slices.len slices.cap), (26, [], Value.int .i64 ((slices.len : Nat) : Int)), (27, [], Value.int .i64 t27), (29, [], Value.pointer (some ⟨(pblk slices.ptr), (poff slices.ptr) + t27.toNat, none⟩))] (by kernel_rfl) (by kernel_rfl) ?_
        obtain ⟨s1, hc, h⟩ := h
        refine reg_load1 (t := 49) (a := (Go.Operand.tmp 29)) (b := (pblk slices.ptr)) (o := ((poff slices.ptr) + t27.toNat)) (ty := 49) (dst := some 30) (by kernel_rfl) (by kernel_rfl) (by kernel_rfl) hc ?_
        refine reg_run [.plain] 3 [(6, [], Value.slice newslice.ptr newslice.len newslice.cap), (8, [], Value.slice s1.ptr s1.len s1.cap), (25, [], Value.slice (some ⟨(pblk slices.ptr), (poff slices.ptr), none⟩) slices.len slices.cap), (26, [], Value.int .i64 ((slices.len : Nat) : Int)), (27, [], Value.int .i64 t27)] (by kernel_rfl) (by kernel_rfl) ?_
        refine reg_conv [(6, [], Value.slice newslice.ptr newslice.len newslice.cap), (8, [], Value.slice s1.ptr s1.len s1.cap), (25, [], Value.slice slices.ptr slices.len slices.cap), (26, [], Value.int .i64 ((slices.len : Nat) : Int)), (27, [], Value.int .i64 t27)] (congrArg (fun pp => ([(6, [], Value.slice newslice.ptr newslice.len newslice.cap), (8, [], Value.slice s1.ptr s1.len s1.cap), (25, [], Value.slice pp slices.len slices.cap), (26, [], Value.int .i64 ((slices.len : Nat) : Int)), (27, [], Value.int .i64 t27)] : GEnv)) hp_15.symm) ?_
        refine reg_end [(6, Value.slice newslice.ptr newslice.len newslice.cap), (8, Value.slice s1.ptr s1.len s1.cap), (25, Value.slice slices.ptr slices.len slices.cap), (26, Value.int .i64 ((slices.len : Nat) : Int)), (27, Value.int .i64 t27)] (by kernel_rfl) (by kernel_rfl) ?_
        change WpE _ _ c_slices_Concat_int_int_57 _ _ _
        refine wpE_region (id := 13) (ops := r_slices_Concat_int_int_57) (by kernel_rfl) ?_
        refine reg_run [.plain, .plain] 2 [(6, [], Value.slice newslice.ptr newslice.len newslice.cap), (25, [], Value.slice slices.ptr slices.len slices.cap), (26, [], Value.int .i64 ((slices.len : Nat) : Int)), (27, [], Value.int .i64 t27), (31, [], Value.slice newslice.ptr newslice.len newslice.cap), (32, [], Value.slice s1.ptr s1.len s1.cap)] (by kernel_rfl) (by kernel_rfl) ?_
        obtain ⟨src, hs, h⟩ := h
        refine reg_append (t := 49) (tx := 49) (e := 3) (a := (Go.Operand.tmp 31)) (xo := (Go.Operand.tmp 32)) (s := newslice) (x := s1) (sz := 1) (by_ := 8) (zs := [Value.int .i64 0]) (ty := 49) (dst := some 33)  src (by kernel_rfl) (by kernel_rfl) (by kernel_rfl) (by kernel_rfl) (by kernel_rfl) (by kernel_rfl) (by kernel_rfl) (by kernel_rfl) (by kernel_rfl) hs (AppendW.mono h (fun newslice1 w4 h => ?_))
        refine reg_run [.plain] 4 [(6, [], Value.slice newslice1.ptr newslice1.len newslice1.cap), (25, [], Value.slice slices.ptr slices.len slices.cap), (26, [], Value.int .i64 ((slices.len : Nat) : Int)), (27, [], Value.int .i64 t27)] (by kernel_rfl) (by kernel_rfl) ?_
        refine reg_end [(6, Value.slice newslice1.ptr newslice1.len newslice1.cap), (25, Value.slice slices.ptr slices.len slices.cap), (26, Value.int .i64 ((slices.len : Nat) : Int)), (27, Value.int .i64 t27)] (by kernel_rfl) (by kernel_rfl) ?_
        change WpE _ _ c_slices_Concat_int_int_59 _ _ _
        refine wpE_region (id := 14) (ops := r_slices_Concat_int_int_59) (by kernel_rfl) ?_
        refine reg_run [.plain, .plain] 2 [(6, [], Value.slice newslice1.ptr newslice1.len newslice1.cap), (25, [], Value.slice slices.ptr slices.len slices.cap), (26, [], Value.int .i64 ((slices.len : Nat) : Int)), (27, [], Value.int .i64 (IntKind.i64.wrap (t27 + 1)))] (by kernel_rfl) (by kernel_rfl) ?_
        refine reg_end [(6, Value.slice newslice1.ptr newslice1.len newslice1.cap), (25, Value.slice slices.ptr slices.len slices.cap), (26, Value.int .i64 ((slices.len : Nat) : Int)), (27, Value.int .i64 (IntKind.i64.wrap (t27 + 1)))] (by kernel_rfl) (by kernel_rfl) ?_
        have hb_ := again_1_h _ _ _ h
        exact ⟨_, hb_.2, [(6, Value.slice newslice1.ptr newslice1.len newslice1.cap), (25, Value.slice slices.ptr slices.len slices.cap), (26, Value.int .i64 ((slices.len : Nat) : Int)), (27, Value.int .i64 (IntKind.i64.wrap (t27 + 1)))], Sub.mk (by kernel_rfl), newslice1, (IntKind.i64.wrap (t27 + 1)), rfl, hb_.1, rfl⟩
      · replace h := h.2 hb
        refine wpE_exit (id := 2) (by kernel_rfl) ?_
        change WpE _ _ c_slices_Concat_int_int_61 _ _ _
        refine wpE_seq (x := c_slices_Concat_int_int_62) (y := c_slices_Concat_int_int_64) (by kernel_rfl) ?_
        refine wpE_region (id := 15) (ops := r_slices_Concat_int_int_62) (by kernel_rfl) ?_
        refine reg_run [.plain, .plain] 2 [(2, [], Value.slice newslice.ptr newslice.len newslice.cap)] (by kernel_rfl) (by kernel_rfl) ?_
        refine reg_end [(2, Value.slice newslice.ptr newslice.len newslice.cap)] (by kernel_rfl) (by kernel_rfl) ?_
        change WpE _ _ c_slices_Concat_int_int_64 _ _ _
        refine wpE_ret (by kernel_rfl) ?_
        repeat (first | refine seqQ_ret ?_ | refine blockQ_ret ?_ | refine loopQ_ret ?_ | refine cutQ_ret ?_)
        exact retS (rs := [(Go.ResultVar.tmp 2)]) (v := Value.slice newslice.ptr newslice.len newslice.cap) (by kernel_rfl) (⟨by kernel_rfl, trivial⟩) ⟨newslice, rfl, h⟩
  · rintro e w' ⟨v, rfl, r0, rfl, h⟩; exact ⟨r0, rfl, h⟩

/-! ### slices.Grow[[]int,int] (function 62) -/
noncomputable def c_slices_Grow_int_int_0 : Code := (Try.f62.body).getD Code.skip
noncomputable def c_slices_Grow_int_int_1 : Code := Code.l c_slices_Grow_int_int_0
noncomputable def r_slices_Grow_int_int_1 : Array Oper := Code.ops c_slices_Grow_int_int_1
noncomputable def c_slices_Grow_int_int_3 : Code := Code.r c_slices_Grow_int_int_0
noncomputable def c_slices_Grow_int_int_4 : Code := Code.l c_slices_Grow_int_int_3
noncomputable def c_slices_Grow_int_int_5 : Code := Code.l c_slices_Grow_int_int_4
noncomputable def r_slices_Grow_int_int_5 : Array Oper := Code.ops c_slices_Grow_int_int_5
noncomputable def c_slices_Grow_int_int_7 : Code := Code.r c_slices_Grow_int_int_4
noncomputable def c_slices_Grow_int_int_8 : Code := Code.l c_slices_Grow_int_int_7
noncomputable def r_slices_Grow_int_int_8 : Array Oper := Code.ops c_slices_Grow_int_int_8
noncomputable def c_slices_Grow_int_int_10 : Code := Code.r c_slices_Grow_int_int_7
noncomputable def c_slices_Grow_int_int_11 : Code := Code.r c_slices_Grow_int_int_3
noncomputable def c_slices_Grow_int_int_12 : Code := Code.l c_slices_Grow_int_int_11
noncomputable def c_slices_Grow_int_int_13 : Code := Code.l c_slices_Grow_int_int_12
noncomputable def r_slices_Grow_int_int_13 : Array Oper := Code.ops c_slices_Grow_int_int_13
noncomputable def c_slices_Grow_int_int_15 : Code := Code.r c_slices_Grow_int_int_12
noncomputable def c_slices_Grow_int_int_16 : Code := Code.l c_slices_Grow_int_int_15
noncomputable def r_slices_Grow_int_int_16 : Array Oper := Code.ops c_slices_Grow_int_int_16
noncomputable def c_slices_Grow_int_int_18 : Code := Code.r c_slices_Grow_int_int_15
noncomputable def c_slices_Grow_int_int_19 : Code := Code.l c_slices_Grow_int_int_18
noncomputable def r_slices_Grow_int_int_19 : Array Oper := Code.ops c_slices_Grow_int_int_19
noncomputable def c_slices_Grow_int_int_21 : Code := Code.r c_slices_Grow_int_int_18
noncomputable def c_slices_Grow_int_int_22 : Code := Code.r c_slices_Grow_int_int_11
noncomputable def c_slices_Grow_int_int_23 : Code := Code.l c_slices_Grow_int_int_22
noncomputable def r_slices_Grow_int_int_23 : Array Oper := Code.ops c_slices_Grow_int_int_23
noncomputable def c_slices_Grow_int_int_25 : Code := Code.r c_slices_Grow_int_int_22

set_option maxRecDepth 100000 in
set_option maxHeartbeats 4000000 in
theorem S_slices_Grow_int_int {s : Slc} {n_ : Int} {w : World} {R : Slc → World → Prop} (h : F_slices_Grow_int_int s n_ R w) : C_slices_Grow_int_int s n_ w R := by
  unfold F_slices_Grow_int_int at h
  unfold C_slices_Grow_int_int
  refine Calls.mono (calls_of_wpE (args := [Value.slice s.ptr s.len s.cap, Value.int .i64 n_]) (R := fun v w' => ∃ (r0 : Slc), v = Value.slice r0.ptr r0.len r0.cap ∧ R r0 w') Try.func62 (c := c_slices_Grow_int_int_0) (by kernel_rfl) 27 (by kernel_rfl) (by kernel_rfl) [(0, Value.slice s.ptr s.len s.cap), (1, Value.int .i64 n_)] (by kernel_rfl) ?_) ?_
  · refine wpE_seq (x := c_slices_Grow_int_int_1) (y := c_slices_Grow_int_int_3) (by kernel_rfl) ?_
    refine wpE_region (id := 0) (ops := r_slices_Grow_int_int_1) (by kernel_rfl) ?_
    refine reg_run [.plain] 1 [(0, [], Value.slice s.ptr s.len s.cap), (1, [], Value.int .i64 n_)] (by kernel_rfl) (by kernel_rfl) ?_
    refine reg_end [(0, Value.slice s.ptr s.len s.cap), (1, Value.int .i64 n_)] (by kernel_rfl) (by kernel_rfl) ?_
    change WpE _ _ c_slices_Grow_int_int_3 _ _ _
    refine wpE_seq (x := c_slices_Grow_int_int_4) (y := c_slices_Grow_int_int_11) (by kernel_rfl) ?_
    refine wpE_seq (x := c_slices_Grow_int_int_5) (y := c_slices_Grow_int_int_7) (by kernel_rfl) ?_
    refine wpE_region (id := 1) (ops := r_slices_Grow_int_int_5) (by kernel_rfl) ?_
    refine reg_run [.plain, .plain] 2 [(0, [], Value.slice s.ptr s.len s.cap), (1, [], Value.int .i64 n_), (6, [], Value.bool (decide (n_ < 0)))] (by kernel_rfl) (by kernel_rfl) ?_
    refine reg_end [(0, Value.slice s.ptr s.len s.cap), (1, Value.int .i64 n_), (6, Value.bool (decide (n_ < 0)))] (by kernel_rfl) (by kernel_rfl) ?_
    change WpE _ _ c_slices_Grow_int_int_7 _ _ _
    refine wpE_cond (o := (Operand.tmp 6)) (b := (decide (n_ < 0))) (x := c_slices_Grow_int_int_8) (y := c_slices_Grow_int_int_10) (by kernel_rfl) (by kernel_rfl) (fun hb => ?_) (fun hb => ?_)
    · replace h := h.1 hb
      refine wpE_region (id := 2) (ops := r_slices_Grow_int_int_8) (by kernel_rfl) ?_
      refine reg_run [.plain] 1 [(0, [], Value.slice s.ptr s.len s.cap), (1, [], Value.int .i64 n_), (7, [], Value.iface 9 (Value.string (ByteArray.mk #[99, 97, 110, 110, 111, 116, 32, 98, 101, 32, 110, 101, 103, 97, 116, 105, 118, 101])))] (by kernel_rfl) (by kernel_rfl) ?_
      exact h.elim
    · replace h := h.2 hb
      refine wpE_skip (by kernel_rfl) ?_
      change WpE _ _ c_slices_Grow_int_int_11 _ _ _
      refine wpE_seq_cut (x := c_slices_Grow_int_int_12) (y := c_slices_Grow_int_int_22) (by kernel_rfl) (fun l w => ∃ (s1 : Slc), l = [(0, Value.slice s1.ptr s1.len s1.cap)] ∧ F_slices_Grow_int_int_k0 R s1 w) ?_ ?_
      · refine wpE_seq (x := c_slices_Grow_int_int_13) (y := c_slices_Grow_int_int_15) (by kernel_rfl) ?_
        refine wpE_region (id := 3) (ops := r_slices_Grow_int_int_13) (by kernel_rfl) ?_
        refine reg_run [.plain, .plain, .plain, .plain, .plain, .plain, .plain, .plain] 8 [(0, [], Value.slice s.ptr s.len s.cap), (1, [], Value.int .i64 (IntKind.i64.wrap (n_ - (IntKind.i64.wrap (((s.cap : Nat) : Int) - ((s.len : Nat) : Int))))))] (by kernel_rfl) (by kernel_rfl) ?_
        refine reg_end [(0, Value.slice s.ptr s.len s.cap), (1, Value.int .i64 (IntKind.i64.wrap (n_ - (IntKind.i64.wrap (((s.cap : Nat) : Int) - ((s.len : Nat) : Int))))))] (by kernel_rfl) (by kernel_rfl) ?_
        change WpE _ _ c_slices_Grow_int_int_15 _ _ _
        refine wpE_seq (x := c_slices_Grow_int_int_16) (y := c_slices_Grow_int_int_18) (by kernel_rfl) ?_
        refine wpE_region (id := 4) (ops := r_slices_Grow_int_int_16) (by kernel_rfl) ?_
        refine reg_run [.plain, .plain] 2 [(0, [], Value.slice s.ptr s.len s.cap), (1, [], Value.int .i64 (IntKind.i64.wrap (n_ - (IntKind.i64.wrap (((s.cap : Nat) : Int) - ((s.len : Nat) : Int)))))), (16, [], Value.bool (decide ((IntKind.i64.wrap (n_ - (IntKind.i64.wrap (((s.cap : Nat) : Int) - ((s.len : Nat) : Int))))) > 0)))] (by kernel_rfl) (by kernel_rfl) ?_
        refine reg_end [(0, Value.slice s.ptr s.len s.cap), (1, Value.int .i64 (IntKind.i64.wrap (n_ - (IntKind.i64.wrap (((s.cap : Nat) : Int) - ((s.len : Nat) : Int)))))), (16, Value.bool (decide ((IntKind.i64.wrap (n_ - (IntKind.i64.wrap (((s.cap : Nat) : Int) - ((s.len : Nat) : Int))))) > 0)))] (by kernel_rfl) (by kernel_rfl) ?_
        change WpE _ _ c_slices_Grow_int_int_18 _ _ _
        refine wpE_cond (o := (Operand.tmp 16)) (b := (decide ((IntKind.i64.wrap (n_ - (IntKind.i64.wrap (((s.cap : Nat) : Int) - ((s.len : Nat) : Int))))) > 0))) (x := c_slices_Grow_int_int_19) (y := c_slices_Grow_int_int_21) (by kernel_rfl) (by kernel_rfl) (fun hb => ?_) (fun hb => ?_)
        · replace h := h.1 hb
          refine wpE_region (id := 5) (ops := r_slices_Grow_int_int_19) (by kernel_rfl) ?_
          refine reg_run [.plain, .plain, .plain] 3 [(0, [], Value.slice s.ptr s.len s.cap), (1, [], Value.int .i64 (IntKind.i64.wrap (n_ - (IntKind.i64.wrap (((s.cap : Nat) : Int) - ((s.len : Nat) : Int)))))), (17, [], Value.slice s.ptr s.len s.cap), (19, [], Value.int .i64 ((s.cap : Nat) : Int))] (by kernel_rfl) (by kernel_rfl) ?_
          obtain ⟨h0, h1, h⟩ := h
          refine reg_sliceHi (t := 49) (e := 3) (x := (Go.Operand.tmp 17)) (hi := (Go.Operand.tmp 19)) (p := s.ptr) (l := s.len) (c := s.cap) (sz := 1) (k := .i64) (j := ((s.cap : Nat) : Int)) (ty := 49) (dst := some 20) (by kernel_rfl) (by kernel_rfl) (by kernel_rfl) (by kernel_rfl) (by kernel_rfl) h0 h1 ?_
          refine reg_run [.plain] 5 [(0, [], Value.slice s.ptr s.len s.cap), (20, [], Value.slice s.ptr (((s.cap : Nat) : Int).toNat) s.cap), (21, [], Value.int .i64 (IntKind.i64.wrap (n_ - (IntKind.i64.wrap (((s.cap : Nat) : Int) - ((s.len : Nat) : Int))))))] (by kernel_rfl) (by kernel_rfl) ?_
          obtain ⟨h0, h1, h⟩ := h
          refine reg_appendZ (t := 49) (tx := 3) (e := 3) (a := (Go.Operand.tmp 20)) (xo := (Go.Operand.tmp 21)) (s := (Slc.mk s.ptr (((s.cap : Nat) : Int).toNat) s.cap)) (l := (IntKind.i64.wrap (n_ - (IntKind.i64.wrap (((s.cap : Nat) : Int) - ((s.len : Nat) : Int)))))) (sz := 1) (by_ := 8) (zs := [Value.int .i64 0]) (ty := 49) (dst := some 22)  (by kernel_rfl) (by kernel_rfl) (by kernel_rfl) (by kernel_rfl) (by kernel_rfl) (by kernel_rfl) (by kernel_rfl) (by kernel_rfl) (by kernel_rfl) (by kernel_rfl) h0 h1 (AppendW.mono h (fun v22 w2 h => ?_))
          refine reg_run [.plain, .plain] 8 [(0, [], Value.slice s.ptr s.len s.cap), (22, [], Value.slice v22.ptr v22.len v22.cap), (24, [], Value.int .i64 ((s.len : Nat) : Int))] (by kernel_rfl) (by kernel_rfl) ?_
          obtain ⟨h0, h1, h⟩ := h
          refine reg_sliceHi (t := 49) (e := 3) (x := (Go.Operand.tmp 22)) (hi := (Go.Operand.tmp 24)) (p := v22.ptr) (l := v22.len) (c := v22.cap) (sz := 1) (k := .i64) (j := ((s.len : Nat) : Int)) (ty := 49) (dst := some 25) (by kernel_rfl) (by kernel_rfl) (by kernel_rfl) (by kernel_rfl) (by kernel_rfl) h0 h1 ?_
          refine reg_run [.plain] 10 [(0, [], Value.slice v22.ptr (((s.len : Nat) : Int).toNat) v22.cap)] (by kernel_rfl) (by kernel_rfl) ?_
          refine reg_end [(0, Value.slice v22.ptr (((s.len : Nat) : Int).toNat) v22.cap)] (by kernel_rfl) (by kernel_rfl) ?_
          exact ⟨[(0, Value.slice v22.ptr (((s.len : Nat) : Int).toNat) v22.cap)], Sub.mk (by kernel_rfl), (Slc.mk v22.ptr (((s.len : Nat) : Int).toNat) v22.cap), rfl, h⟩
        · replace h := h.2 hb
          refine wpE_skip (by kernel_rfl) ?_
          exact ⟨[(0, Value.slice s.ptr s.len s.cap)], Sub.mk (by kernel_rfl), s, rfl, h⟩
      · rintro _ w1 ⟨s1, rfl, h⟩
        unfold F_slices_Grow_int_int_k0 at h
        refine wpE_seq (x := c_slices_Grow_int_int_23) (y := c_slices_Grow_int_int_25) (by kernel_rfl) ?_
        refine wpE_region (id := 6) (ops := r_slices_Grow_int_int_23) (by kernel_rfl) ?_
        refine reg_run [.plain, .plain] 2 [(4, [], Value.slice s1.ptr s1.len s1.cap)] (by kernel_rfl) (by kernel_rfl) ?_
        refine reg_end [(4, Value.slice s1.ptr s1.len s1.cap)] (by kernel_rfl) (by kernel_rfl) ?_
        change WpE _ _ c_slices_Grow_int_int_25 _ _ _
        refine wpE_ret (by kernel_rfl) ?_
        repeat (first | refine seqQ_ret ?_ | refine blockQ_ret ?_ | refine loopQ_ret ?_ | refine cutQ_ret ?_)
        exact retS (rs := [(Go.ResultVar.tmp 4)]) (v := Value.slice s1.ptr s1.len s1.cap) (by kernel_rfl) (⟨by kernel_rfl, trivial⟩) ⟨s1, rfl, h⟩
  · rintro e w' ⟨v, rfl, r0, rfl, h⟩; exact ⟨r0, rfl, h⟩
end Go.Proofs.Ytchcljkflklddaa
