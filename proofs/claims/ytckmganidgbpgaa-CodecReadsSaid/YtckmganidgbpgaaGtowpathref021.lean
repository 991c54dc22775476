/- WRITTEN BY PROGRAM (dec.py): for each Go function the clean formula F, the call's contract C, and the proof S that F gives C. -/
import Derived.Test.YtckmganidgbpgaaRows
import Derived.Test.YtckmganidgbpgaaGF
namespace Go.Proofs.Ytckmganidgbpgaa
open Go
set_option linter.unusedVariables false

/-! ### (towpath/towpathref02.Reader).Var (function 48) -/
noncomputable def c_towpathref02_Reader_Var_0 : Code := (Try.f48.body).getD Code.skip
noncomputable def c_towpathref02_Reader_Var_1 : Code := Code.l c_towpathref02_Reader_Var_0
noncomputable def r_towpathref02_Reader_Var_1 : Array Oper := Code.ops c_towpathref02_Reader_Var_1
noncomputable def c_towpathref02_Reader_Var_3 : Code := Code.r c_towpathref02_Reader_Var_0
noncomputable def c_towpathref02_Reader_Var_4 : Code := Code.l c_towpathref02_Reader_Var_3
noncomputable def c_towpathref02_Reader_Var_5 : Code := Code.l c_towpathref02_Reader_Var_4
noncomputable def r_towpathref02_Reader_Var_5 : Array Oper := Code.ops c_towpathref02_Reader_Var_5
noncomputable def c_towpathref02_Reader_Var_7 : Code := Code.r c_towpathref02_Reader_Var_4
noncomputable def c_towpathref02_Reader_Var_8 : Code := Code.l c_towpathref02_Reader_Var_7
noncomputable def c_towpathref02_Reader_Var_9 : Code := Code.l c_towpathref02_Reader_Var_8
noncomputable def r_towpathref02_Reader_Var_9 : Array Oper := Code.ops c_towpathref02_Reader_Var_9
noncomputable def c_towpathref02_Reader_Var_11 : Code := Code.r c_towpathref02_Reader_Var_8
noncomputable def c_towpathref02_Reader_Var_12 : Code := Code.r c_towpathref02_Reader_Var_7
noncomputable def c_towpathref02_Reader_Var_13 : Code := Code.r c_towpathref02_Reader_Var_3
noncomputable def c_towpathref02_Reader_Var_14 : Code := Code.l c_towpathref02_Reader_Var_13
noncomputable def r_towpathref02_Reader_Var_14 : Array Oper := Code.ops c_towpathref02_Reader_Var_14
noncomputable def c_towpathref02_Reader_Var_16 : Code := Code.r c_towpathref02_Reader_Var_13
noncomputable def c_towpathref02_Reader_Var_17 : Code := Code.l c_towpathref02_Reader_Var_16
noncomputable def r_towpathref02_Reader_Var_17 : Array Oper := Code.ops c_towpathref02_Reader_Var_17
noncomputable def c_towpathref02_Reader_Var_19 : Code := Code.r c_towpathref02_Reader_Var_16
noncomputable def c_towpathref02_Reader_Var_20 : Code := Code.l c_towpathref02_Reader_Var_19
noncomputable def r_towpathref02_Reader_Var_20 : Array Oper := Code.ops c_towpathref02_Reader_Var_20
noncomputable def c_towpathref02_Reader_Var_22 : Code := Code.r c_towpathref02_Reader_Var_19
noncomputable def c_towpathref02_Reader_Var_23 : Code := Code.l c_towpathref02_Reader_Var_22
noncomputable def c_towpathref02_Reader_Var_24 : Code := Code.l c_towpathref02_Reader_Var_23
noncomputable def c_towpathref02_Reader_Var_25 : Code := Code.l c_towpathref02_Reader_Var_24
noncomputable def c_towpathref02_Reader_Var_26 : Code := Code.l c_towpathref02_Reader_Var_25
noncomputable def c_towpathref02_Reader_Var_27 : Code := Code.l c_towpathref02_Reader_Var_26
noncomputable def c_towpathref02_Reader_Var_28 : Code := Code.l c_towpathref02_Reader_Var_27
noncomputable def r_towpathref02_Reader_Var_28 : Array Oper := Code.ops c_towpathref02_Reader_Var_28
noncomputable def c_towpathref02_Reader_Var_30 : Code := Code.r c_towpathref02_Reader_Var_27
noncomputable def c_towpathref02_Reader_Var_31 : Code := Code.l c_towpathref02_Reader_Var_30
noncomputable def c_towpathref02_Reader_Var_32 : Code := Code.l c_towpathref02_Reader_Var_31
noncomputable def r_towpathref02_Reader_Var_32 : Array Oper := Code.ops c_towpathref02_Reader_Var_32
noncomputable def c_towpathref02_Reader_Var_34 : Code := Code.r c_towpathref02_Reader_Var_31
noncomputable def c_towpathref02_Reader_Var_35 : Code := Code.r c_towpathref02_Reader_Var_30
noncomputable def c_towpathref02_Reader_Var_36 : Code := Code.r c_towpathref02_Reader_Var_26
noncomputable def c_towpathref02_Reader_Var_37 : Code := Code.l c_towpathref02_Reader_Var_36
noncomputable def r_towpathref02_Reader_Var_37 : Array Oper := Code.ops c_towpathref02_Reader_Var_37
noncomputable def c_towpathref02_Reader_Var_39 : Code := Code.r c_towpathref02_Reader_Var_36
noncomputable def c_towpathref02_Reader_Var_40 : Code := Code.l c_towpathref02_Reader_Var_39
noncomputable def c_towpathref02_Reader_Var_41 : Code := Code.l c_towpathref02_Reader_Var_40
noncomputable def r_towpathref02_Reader_Var_41 : Array Oper := Code.ops c_towpathref02_Reader_Var_41
noncomputable def c_towpathref02_Reader_Var_43 : Code := Code.r c_towpathref02_Reader_Var_40
noncomputable def c_towpathref02_Reader_Var_44 : Code := Code.l c_towpathref02_Reader_Var_43
noncomputable def c_towpathref02_Reader_Var_45 : Code := Code.l c_towpathref02_Reader_Var_44
noncomputable def r_towpathref02_Reader_Var_45 : Array Oper := Code.ops c_towpathref02_Reader_Var_45
noncomputable def c_towpathref02_Reader_Var_47 : Code := Code.r c_towpathref02_Reader_Var_44
noncomputable def c_towpathref02_Reader_Var_48 : Code := Code.r c_towpathref02_Reader_Var_43
noncomputable def c_towpathref02_Reader_Var_49 : Code := Code.r c_towpathref02_Reader_Var_39
noncomputable def c_towpathref02_Reader_Var_50 : Code := Code.l c_towpathref02_Reader_Var_49
noncomputable def r_towpathref02_Reader_Var_50 : Array Oper := Code.ops c_towpathref02_Reader_Var_50
noncomputable def c_towpathref02_Reader_Var_52 : Code := Code.r c_towpathref02_Reader_Var_49
noncomputable def c_towpathref02_Reader_Var_53 : Code := Code.l c_towpathref02_Reader_Var_52
noncomputable def r_towpathref02_Reader_Var_53 : Array Oper := Code.ops c_towpathref02_Reader_Var_53
noncomputable def c_towpathref02_Reader_Var_55 : Code := Code.r c_towpathref02_Reader_Var_52
noncomputable def c_towpathref02_Reader_Var_56 : Code := Code.l c_towpathref02_Reader_Var_55
noncomputable def r_towpathref02_Reader_Var_56 : Array Oper := Code.ops c_towpathref02_Reader_Var_56
noncomputable def c_towpathref02_Reader_Var_58 : Code := Code.r c_towpathref02_Reader_Var_55
noncomputable def c_towpathref02_Reader_Var_59 : Code := Code.l c_towpathref02_Reader_Var_58
noncomputable def c_towpathref02_Reader_Var_60 : Code := Code.l c_towpathref02_Reader_Var_59
noncomputable def r_towpathref02_Reader_Var_60 : Array Oper := Code.ops c_towpathref02_Reader_Var_60
noncomputable def c_towpathref02_Reader_Var_62 : Code := Code.r c_towpathref02_Reader_Var_59
noncomputable def c_towpathref02_Reader_Var_63 : Code := Code.l c_towpathref02_Reader_Var_62
noncomputable def r_towpathref02_Reader_Var_63 : Array Oper := Code.ops c_towpathref02_Reader_Var_63
noncomputable def c_towpathref02_Reader_Var_65 : Code := Code.r c_towpathref02_Reader_Var_62
noncomputable def c_towpathref02_Reader_Var_66 : Code := Code.r c_towpathref02_Reader_Var_58
noncomputable def c_towpathref02_Reader_Var_67 : Code := Code.r c_towpathref02_Reader_Var_24
noncomputable def r_towpathref02_Reader_Var_67 : Array Oper := Code.ops c_towpathref02_Reader_Var_67

set_option maxRecDepth 100000 in
set_option maxHeartbeats 4000000 in
theorem S_towpathref02_Reader_Var {r : T_towpathref02_Reader} {w : World} {R : T_towpathref02_Reader → Int → World → Prop} (h : F_towpathref02_Reader_Var r R w) : C_towpathref02_Reader_Var r w R := by
  unfold F_towpathref02_Reader_Var at h
  unfold C_towpathref02_Reader_Var
  refine Calls.mono (calls_of_wpE (args := [Value.agg #[Value.bool r.Gone, Value.slice r.B.ptr r.B.len r.B.cap, Value.int .i64 r.At, Value.int .i64 r.Code]]) (R := fun v w' => ∃ (r0 : T_towpathref02_Reader) (r1 : Int), v = Value.tuple #[Value.agg #[Value.bool r0.Gone, Value.slice r0.B.ptr r0.B.len r0.B.cap, Value.int .i64 r0.At, Value.int .i64 r0.Code], Value.int .u64 r1] ∧ R r0 r1 w') Try.func48 (c := c_towpathref02_Reader_Var_0) (by kernel_rfl) 66 (by kernel_rfl) (by kernel_rfl) [(0, Value.agg #[Value.bool r.Gone, Value.slice r.B.ptr r.B.len r.B.cap, Value.int .i64 r.At, Value.int .i64 r.Code])] (by kernel_rfl) ?_) ?_
  · refine wpE_seq (x := c_towpathref02_Reader_Var_1) (y := c_towpathref02_Reader_Var_3) (by kernel_rfl) ?_
    refine wpE_region (id := 0) (ops := r_towpathref02_Reader_Var_1) (by kernel_rfl) ?_
    refine reg_run [] 0 [(0, [], Value.agg #[Value.bool r.Gone, Value.slice r.B.ptr r.B.len r.B.cap, Value.int .i64 r.At, Value.int .i64 r.Code])] (by kernel_rfl) (by kernel_rfl) ?_
    refine reg_new (op := (Go.Op.box 32 (Go.Operand.tmp 0))) (ty := 0) (dst := some 1) (fun bb => Value.pointer (some ⟨bb, 0, none⟩)) (Obj.cells ([Value.bool r.Gone, Value.slice r.B.ptr r.B.len r.B.cap, Value.int .i64 r.At, Value.int .i64 r.Code]).toArray ty_towpathref02_Reader (0, 0)) (by kernel_rfl) (by kernel_rfl) (fun b_ w1 hb hw => ?_)
    replace h := h b_ w1 hb hw
    clear hb hw
    refine reg_run [] 1 [(1, [], Value.pointer (some ⟨b_, 0, none⟩))] (by kernel_rfl) (by kernel_rfl) ?_
    refine reg_new (op := (Go.Op.alloc 32)) (ty := 0) (dst := some 2) (fun bb => Value.pointer (some ⟨bb, 0, none⟩)) (Obj.cells ([Value.bool false, Value.slice none 0 0, Value.int .i64 0, Value.int .i64 0]).toArray ty_towpathref02_Reader (0, 0)) (by kernel_rfl) (by kernel_rfl) (fun b_1 w2 hb hw => ?_)
    replace h := h b_1 w2 hb hw
    clear hb hw
    refine reg_run [.plain] 3 [(1, [], Value.pointer (some ⟨b_, 0, none⟩)), (2, [], Value.pointer (some ⟨b_1, 0, none⟩))] (by kernel_rfl) (by kernel_rfl) ?_
    refine reg_end [(1, Value.pointer (some ⟨b_, 0, none⟩)), (2, Value.pointer (some ⟨b_1, 0, none⟩))] (by kernel_rfl) (by kernel_rfl) ?_
    change WpE _ _ c_towpathref02_Reader_Var_3 _ _ _
    refine wpE_seq (x := c_towpathref02_Reader_Var_4) (y := c_towpathref02_Reader_Var_13) (by kernel_rfl) ?_
    refine wpE_seq (x := c_towpathref02_Reader_Var_5) (y := c_towpathref02_Reader_Var_7) (by kernel_rfl) ?_
    refine wpE_region (id := 1) (ops := r_towpathref02_Reader_Var_5) (by kernel_rfl) ?_
    refine reg_run [] 0 [(1, [], Value.pointer (some ⟨b_, 0, none⟩)), (2, [], Value.pointer (some ⟨b_1, 0, none⟩))] (by kernel_rfl) (by kernel_rfl) ?_
    obtain ⟨v8, hc, h⟩ := h
    refine reg_loadN (t := 32) (a := (Go.Operand.tmp 1)) (b := b_) (o := 0) (ty := 32) (dst := some 8) [Value.bool v8.Gone, Value.slice v8.B.ptr v8.B.len v8.B.cap, Value.int .i64 v8.At, Value.int .i64 v8.Code] (by kernel_rfl) (by kernel_rfl) (by kernel_rfl) (k := 4) (by kernel_rfl) (by kernel_rfl) hc ?_
    refine reg_run [] 1 [(1, [], Value.pointer (some ⟨b_, 0, none⟩)), (2, [], Value.pointer (some ⟨b_1, 0, none⟩)), (8, [], Value.agg #[Value.bool v8.Gone, Value.slice v8.B.ptr v8.B.len v8.B.cap, Value.int .i64 v8.At, Value.int .i64 v8.Code])] (by kernel_rfl) (by kernel_rfl) ?_
    refine reg_enter (op := (Go.Op.call (Go.Call.mk (Go.Callee.value (Go.Operand.func 69)) #[(Go.Operand.tmp 8)] #[32]))) (ty := 4) (dst := some 9) 69 #[Value.agg #[Value.bool v8.Gone, Value.slice v8.B.ptr v8.B.len v8.B.cap, Value.int .i64 v8.At, Value.int .i64 v8.Code]] (by kernel_rfl) (fun ww => by kernel_rfl) (Calls.mono h ?_)
    rintro _ w3 ⟨v9, rfl, h⟩
    refine ⟨_, rfl, ?_⟩
    refine reg_end [(1, Value.pointer (some ⟨b_, 0, none⟩)), (2, Value.pointer (some ⟨b_1, 0, none⟩)), (9, Value.bool v9)] (by kernel_rfl) (by kernel_rfl) ?_
    change WpE _ _ c_towpathref02_Reader_Var_7 _ _ _
    refine wpE_cond (o := (Operand.tmp 9)) (b := v9) (x := c_towpathref02_Reader_Var_8) (y := c_towpathref02_Reader_Var_12) (by kernel_rfl) (by kernel_rfl) (fun hb => ?_) (fun hb => ?_)
    · replace h := h.1 hb
      refine wpE_seq (x := c_towpathref02_Reader_Var_9) (y := c_towpathref02_Reader_Var_11) (by kernel_rfl) ?_
      refine wpE_region (id := 2) (ops := r_towpathref02_Reader_Var_9) (by kernel_rfl) ?_
      refine reg_run [] 0 [(1, [], Value.pointer (some ⟨b_, 0, none⟩)), (2, [], Value.pointer (some ⟨b_1, 0, none⟩))] (by kernel_rfl) (by kernel_rfl) ?_
      obtain ⟨v10, hc, h⟩ := h
      refine reg_loadN (t := 32) (a := (Go.Operand.tmp 1)) (b := b_) (o := 0) (ty := 32) (dst := some 10) [Value.bool v10.Gone, Value.slice v10.B.ptr v10.B.len v10.B.cap, Value.int .i64 v10.At, Value.int .i64 v10.Code] (by kernel_rfl) (by kernel_rfl) (by kernel_rfl) (k := 4) (by kernel_rfl) (by kernel_rfl) hc ?_
      refine reg_run [] 1 [(2, [], Value.pointer (some ⟨b_1, 0, none⟩)), (10, [], Value.agg #[Value.bool v10.Gone, Value.slice v10.B.ptr v10.B.len v10.B.cap, Value.int .i64 v10.At, Value.int .i64 v10.Code])] (by kernel_rfl) (by kernel_rfl) ?_
      obtain ⟨hc, h⟩ := h
      refine reg_store (t := 32) (a := (Go.Operand.tmp 2)) (x := (Go.Operand.tmp 10)) (b := b_1) (o := 0) (ty := 0) (dst := none) [Value.bool v10.Gone, Value.slice v10.B.ptr v10.B.len v10.B.cap, Value.int .i64 v10.At, Value.int .i64 v10.Code] (by kernel_rfl) (by kernel_rfl) (by kernel_rfl) (k := 4) (by kernel_rfl) (by kernel_rfl) (by kernel_rfl) hc (fun w4 hw => ?_)
      replace h := h w4 hw
      clear hw
      refine reg_run [.plain] 3 [(2, [], Value.pointer (some ⟨b_1, 0, none⟩)), (3, [], Value.int .u64 0)] (by kernel_rfl) (by kernel_rfl) ?_
      refine reg_end [(2, Value.pointer (some ⟨b_1, 0, none⟩)), (3, Value.int .u64 0)] (by kernel_rfl) (by kernel_rfl) ?_
      change WpE _ _ c_towpathref02_Reader_Var_11 _ _ _
      refine wpE_ret (by kernel_rfl) ?_
      obtain ⟨res, hc_res, h⟩ := h
      repeat (first | refine seqQ_ret ?_ | refine blockQ_ret ?_ | refine loopQ_ret ?_ | refine cutQ_ret ?_)
      exact retT (rs := [(Go.ResultVar.cell 2 32), (Go.ResultVar.tmp 3)]) (vs := [Value.agg #[Value.bool res.Gone, Value.slice res.B.ptr res.B.len res.B.cap, Value.int .i64 res.At, Value.int .i64 res.Code], Value.int .u64 0]) (by kernel_rfl) (⟨b_1, 0, [Value.bool res.Gone, Value.slice res.B.ptr res.B.len res.B.cap, Value.int .i64 res.At, Value.int .i64 res.Code], by kernel_rfl, hc_res, (sizeP_of (k := 4) (by kernel_rfl) (by kernel_rfl)), .inl ⟨by kernel_rfl, rfl⟩, ⟨by kernel_rfl, trivial⟩⟩) (by kernel_rfl) ⟨res, 0, rfl, h⟩
    · replace h := h.2 hb
      refine wpE_skip (by kernel_rfl) ?_
      change WpE _ _ c_towpathref02_Reader_Var_13 _ _ _
      refine wpE_seq (x := c_towpathref02_Reader_Var_14) (y := c_towpathref02_Reader_Var_16) (by kernel_rfl) ?_
      refine wpE_region (id := 3) (ops := r_towpathref02_Reader_Var_14) (by kernel_rfl) ?_
      refine reg_run [.plain] 1 [(1, [], Value.pointer (some ⟨b_, 0, none⟩)), (2, [], Value.pointer (some ⟨b_1, 0, none⟩)), (4, [], Value.int .u64 0)] (by kernel_rfl) (by kernel_rfl) ?_
      refine reg_end [(1, Value.pointer (some ⟨b_, 0, none⟩)), (2, Value.pointer (some ⟨b_1, 0, none⟩)), (4, Value.int .u64 0)] (by kernel_rfl) (by kernel_rfl) ?_
      change WpE _ _ c_towpathref02_Reader_Var_16 _ _ _
      refine wpE_seq (x := c_towpathref02_Reader_Var_17) (y := c_towpathref02_Reader_Var_19) (by kernel_rfl) ?_
      refine wpE_region (id := 4) (ops := r_towpathref02_Reader_Var_17) (by kernel_rfl) ?_
      refine reg_run [.plain] 1 [(1, [], Value.pointer (some ⟨b_, 0, none⟩)), (2, [], Value.pointer (some ⟨b_1, 0, none⟩)), (4, [], Value.int .u64 0), (5, [], Value.int .u64 1)] (by kernel_rfl) (by kernel_rfl) ?_
      refine reg_end [(1, Value.pointer (some ⟨b_, 0, none⟩)), (2, Value.pointer (some ⟨b_1, 0, none⟩)), (4, Value.int .u64 0), (5, Value.int .u64 1)] (by kernel_rfl) (by kernel_rfl) ?_
      change WpE _ _ c_towpathref02_Reader_Var_19 _ _ _
      refine wpE_seq (x := c_towpathref02_Reader_Var_20) (y := c_towpathref02_Reader_Var_22) (by kernel_rfl) ?_
      refine wpE_region (id := 5) (ops := r_towpathref02_Reader_Var_20) (by kernel_rfl) ?_
      refine reg_run [.plain] 1 [(1, [], Value.pointer (some ⟨b_, 0, none⟩)), (2, [], Value.pointer (some ⟨b_1, 0, none⟩)), (4, [], Value.int .u64 0), (5, [], Value.int .u64 1), (6, [], Value.int .i64 0)] (by kernel_rfl) (by kernel_rfl) ?_
      refine reg_end [(1, Value.pointer (some ⟨b_, 0, none⟩)), (2, Value.pointer (some ⟨b_1, 0, none⟩)), (4, Value.int .u64 0), (5, Value.int .u64 1), (6, Value.int .i64 0)] (by kernel_rfl) (by kernel_rfl) ?_
      change WpE _ _ c_towpathref02_Reader_Var_22 _ _ _
      refine wpE_block (id := 0) (x := c_towpathref02_Reader_Var_23) (by kernel_rfl) ?_
      obtain ⟨I, μ, h0, hr⟩ := h
      refine wpE_loop (x := c_towpathref02_Reader_Var_24) (by kernel_rfl) (fun m l w => ∃ (n_ : Int) (f : Int) (i : Int), l = [(1, Value.pointer (some ⟨b_, 0, none⟩)), (2, Value.pointer (some ⟨b_1, 0, none⟩)), (4, Value.int .u64 n_), (5, Value.int .u64 f), (6, Value.int .i64 i)] ∧ I n_ f i w ∧ μ n_ f i w = m) (l' := [(1, Value.pointer (some ⟨b_, 0, none⟩)), (2, Value.pointer (some ⟨b_1, 0, none⟩)), (4, Value.int .u64 0), (5, Value.int .u64 1), (6, Value.int .i64 0)]) (Sub.mk (by kernel_rfl)) ⟨0, 1, 0, rfl, h0, rfl⟩ ?_
      rintro _ _ w5 ⟨n_, f, i, rfl, hI, rfl⟩
      obtain ⟨again_, again__h, h⟩ : ∃ again_ : Int → Int → Int → World → Prop, (∀ n_' f' i' w', again_ n_' f' i' w' → I n_' f' i' w' ∧ μ n_' f' i' w' < μ n_ f i w5) ∧ F_towpathref02_Reader_Var_L0 R b_ b_1 again_ n_ f i w5 := ⟨_, fun _ _ _ _ h => h, hr n_ f i w5 hI⟩
      clear h0 hI
      unfold F_towpathref02_Reader_Var_L0 at h
      refine wpE_seq (x := c_towpathref02_Reader_Var_25) (y := c_towpathref02_Reader_Var_67) (by kernel_rfl) ?_
      refine wpE_block (id := 1) (x := c_towpathref02_Reader_Var_26) (by kernel_rfl) ?_
      refine wpE_seq (x := c_towpathref02_Reader_Var_27) (y := c_towpathref02_Reader_Var_36) (by kernel_rfl) ?_
      refine wpE_seq (x := c_towpathref02_Reader_Var_28) (y := c_towpathref02_Reader_Var_30) (by kernel_rfl) ?_
      refine wpE_region (id := 7) (ops := r_towpathref02_Reader_Var_28) (by kernel_rfl) ?_
      refine reg_run [.plain] 1 [(1, [], Value.pointer (some ⟨b_, 0, none⟩)), (2, [], Value.pointer (some ⟨b_1, 0, none⟩)), (4, [], Value.int .u64 n_), (5, [], Value.int .u64 f), (6, [], Value.int .i64 i), (13, [], Value.pointer (some ⟨b_, 2, none⟩))] (by kernel_rfl) (by kernel_rfl) ?_
      obtain ⟨v14, hc, h⟩ := h
      refine reg_load1 (t := 3) (a := (Go.Operand.tmp 13)) (b := b_) (o := 2) (ty := 3) (dst := some 14) (by kernel_rfl) (by kernel_rfl) (by kernel_rfl) hc ?_
      refine reg_run [.plain, .plain, .plain] 5 [(1, [], Value.pointer (some ⟨b_, 0, none⟩)), (2, [], Value.pointer (some ⟨b_1, 0, none⟩)), (4, [], Value.int .u64 n_), (5, [], Value.int .u64 f), (6, [], Value.int .i64 i), (16, [], Value.int .i64 (IntKind.i64.wrap (v14 + i))), (17, [], Value.pointer (some ⟨b_, 1, none⟩))] (by kernel_rfl) (by kernel_rfl) ?_
      obtain ⟨v18, hc, h⟩ := h
      refine reg_load1 (t := 22) (a := (Go.Operand.tmp 17)) (b := b_) (o := 1) (ty := 22) (dst := some 18) (by kernel_rfl) (by kernel_rfl) (by kernel_rfl) hc ?_
      refine reg_run [.plain, .plain] 8 [(1, [], Value.pointer (some ⟨b_, 0, none⟩)), (2, [], Value.pointer (some ⟨b_1, 0, none⟩)), (4, [], Value.int .u64 n_), (5, [], Value.int .u64 f), (6, [], Value.int .i64 i), (20, [], Value.bool (decide ((IntKind.i64.wrap (v14 + i)) ≥ ((v18.len : Nat) : Int))))] (by kernel_rfl) (by kernel_rfl) ?_
      refine reg_end [(1, Value.pointer (some ⟨b_, 0, none⟩)), (2, Value.pointer (some ⟨b_1, 0, none⟩)), (4, Value.int .u64 n_), (5, Value.int .u64 f), (6, Value.int .i64 i), (20, Value.bool (decide ((IntKind.i64.wrap (v14 + i)) ≥ ((v18.len : Nat) : Int))))] (by kernel_rfl) (by kernel_rfl) ?_
      change WpE _ _ c_towpathref02_Reader_Var_30 _ _ _
      refine wpE_cond (o := (Operand.tmp 20)) (b := (decide ((IntKind.i64.wrap (v14 + i)) ≥ ((v18.len : Nat) : Int)))) (x := c_towpathref02_Reader_Var_31) (y := c_towpathref02_Reader_Var_35) (by kernel_rfl) (by kernel_rfl) (fun hb => ?_) (fun hb => ?_)
      · replace h := h.1 hb
        refine wpE_seq (x := c_towpathref02_Reader_Var_32) (y := c_towpathref02_Reader_Var_34) (by kernel_rfl) ?_
        refine wpE_region (id := 8) (ops := r_towpathref02_Reader_Var_32) (by kernel_rfl) ?_
        refine reg_run [] 0 [(1, [], Value.pointer (some ⟨b_, 0, none⟩)), (2, [], Value.pointer (some ⟨b_1, 0, none⟩))] (by kernel_rfl) (by kernel_rfl) ?_
        obtain ⟨v21, hc, h⟩ := h
        refine reg_loadN (t := 32) (a := (Go.Operand.tmp 1)) (b := b_) (o := 0) (ty := 32) (dst := some 21) [Value.bool v21.Gone, Value.slice v21.B.ptr v21.B.len v21.B.cap, Value.int .i64 v21.At, Value.int .i64 v21.Code] (by kernel_rfl) (by kernel_rfl) (by kernel_rfl) (k := 4) (by kernel_rfl) (by kernel_rfl) hc ?_
        refine reg_run [] 1 [(2, [], Value.pointer (some ⟨b_1, 0, none⟩)), (21, [], Value.agg #[Value.bool v21.Gone, Value.slice v21.B.ptr v21.B.len v21.B.cap, Value.int .i64 v21.At, Value.int .i64 v21.Code])] (by kernel_rfl) (by kernel_rfl) ?_
        refine reg_enter (op := (Go.Op.call (Go.Call.mk (Go.Callee.value (Go.Operand.func 70)) #[(Go.Operand.tmp 21), (Go.Operand.const (Go.Value.int Go.IntKind.i64 5))] #[32, 30]))) (ty := 32) (dst := some 22) 70 #[Value.agg #[Value.bool v21.Gone, Value.slice v21.B.ptr v21.B.len v21.B.cap, Value.int .i64 v21.At, Value.int .i64 v21.Code], Value.int .i64 5] (by kernel_rfl) (fun ww => by kernel_rfl) (Calls.mono h ?_)
        rintro _ w6 ⟨v22, rfl, h⟩
        refine ⟨_, rfl, ?_⟩
        refine reg_run [] 2 [(2, [], Value.pointer (some ⟨b_1, 0, none⟩)), (22, [], Value.agg #[Value.bool v22.Gone, Value.slice v22.B.ptr v22.B.len v22.B.cap, Value.int .i64 v22.At, Value.int .i64 v22.Code])] (by kernel_rfl) (by kernel_rfl) ?_
        obtain ⟨hc, h⟩ := h
        refine reg_store (t := 32) (a := (Go.Operand.tmp 2)) (x := (Go.Operand.tmp 22)) (b := b_1) (o := 0) (ty := 0) (dst := none) [Value.bool v22.Gone, Value.slice v22.B.ptr v22.B.len v22.B.cap, Value.int .i64 v22.At, Value.int .i64 v22.Code] (by kernel_rfl) (by kernel_rfl) (by kernel_rfl) (k := 4) (by kernel_rfl) (by kernel_rfl) (by kernel_rfl) hc (fun w7 hw => ?_)
        replace h := h w7 hw
        clear hw
        refine reg_run [.plain] 4 [(2, [], Value.pointer (some ⟨b_1, 0, none⟩)), (3, [], Value.int .u64 0)] (by kernel_rfl) (by kernel_rfl) ?_
        refine reg_end [(2, Value.pointer (some ⟨b_1, 0, none⟩)), (3, Value.int .u64 0)] (by kernel_rfl) (by kernel_rfl) ?_
        change WpE _ _ c_towpathref02_Reader_Var_34 _ _ _
        refine wpE_ret (by kernel_rfl) ?_
        obtain ⟨res1, hc_res1, h⟩ := h
        repeat (first | refine seqQ_ret ?_ | refine blockQ_ret ?_ | refine loopQ_ret ?_ | refine cutQ_ret ?_)
        exact retT (rs := [(Go.ResultVar.cell 2 32), (Go.ResultVar.tmp 3)]) (vs := [Value.agg #[Value.bool res1.Gone, Value.slice res1.B.ptr res1.B.len res1.B.cap, Value.int .i64 res1.At, Value.int .i64 res1.Code], Value.int .u64 0]) (by kernel_rfl) (⟨b_1, 0, [Value.bool res1.Gone, Value.slice res1.B.ptr res1.B.len res1.B.cap, Value.int .i64 res1.At, Value.int .i64 res1.Code], by kernel_rfl, hc_res1, (sizeP_of (k := 4) (by kernel_rfl) (by kernel_rfl)), .inl ⟨by kernel_rfl, rfl⟩, ⟨by kernel_rfl, trivial⟩⟩) (by kernel_rfl) ⟨res1, 0, rfl, h⟩
      · replace h := h.2 hb
        refine wpE_skip (by kernel_rfl) ?_
        change WpE _ _ c_towpathref02_Reader_Var_36 _ _ _
        refine wpE_seq (x := c_towpathref02_Reader_Var_37) (y := c_towpathref02_Reader_Var_39) (by kernel_rfl) ?_
        refine wpE_region (id := 9) (ops := r_towpathref02_Reader_Var_37) (by kernel_rfl) ?_
        refine reg_run [.plain] 1 [(1, [], Value.pointer (some ⟨b_, 0, none⟩)), (2, [], Value.pointer (some ⟨b_1, 0, none⟩)), (4, [], Value.int .u64 n_), (5, [], Value.int .u64 f), (6, [], Value.int .i64 i), (23, [], Value.pointer (some ⟨b_, 1, none⟩))] (by kernel_rfl) (by kernel_rfl) ?_
        obtain ⟨v24, hc, h⟩ := h
        refine reg_load1 (t := 22) (a := (Go.Operand.tmp 23)) (b := b_) (o := 1) (ty := 22) (dst := some 24) (by kernel_rfl) (by kernel_rfl) (by kernel_rfl) hc ?_
        refine reg_run [.plain] 3 [(1, [], Value.pointer (some ⟨b_, 0, none⟩)), (2, [], Value.pointer (some ⟨b_1, 0, none⟩)), (4, [], Value.int .u64 n_), (5, [], Value.int .u64 f), (6, [], Value.int .i64 i), (24, [], Value.slice v24.ptr v24.len v24.cap), (25, [], Value.pointer (some ⟨b_, 2, none⟩))] (by kernel_rfl) (by kernel_rfl) ?_
        obtain ⟨v26, hc, h⟩ := h
        refine reg_load1 (t := 3) (a := (Go.Operand.tmp 25)) (b := b_) (o := 2) (ty := 3) (dst := some 26) (by kernel_rfl) (by kernel_rfl) (by kernel_rfl) hc ?_
        refine reg_run [.plain, .plain] 6 [(1, [], Value.pointer (some ⟨b_, 0, none⟩)), (2, [], Value.pointer (some ⟨b_1, 0, none⟩)), (4, [], Value.int .u64 n_), (5, [], Value.int .u64 f), (6, [], Value.int .i64 i), (24, [], Value.slice v24.ptr v24.len v24.cap), (28, [], Value.int .i64 (IntKind.i64.wrap (v26 + i)))] (by kernel_rfl) (by kernel_rfl) ?_
        obtain ⟨hp_3, h⟩ := h
        refine reg_conv [(1, [], Value.pointer (some ⟨b_, 0, none⟩)), (2, [], Value.pointer (some ⟨b_1, 0, none⟩)), (4, [], Value.int .u64 n_), (5, [], Value.int .u64 f), (6, [], Value.int .i64 i), (24, [], Value.slice (some ⟨(pblk v24.ptr), (poff v24.ptr), none⟩) v24.len v24.cap), (28, [], Value.int .i64 (IntKind.i64.wrap (v26 + i)))] (congrArg (fun pp => ([(1, [], Value.pointer (some ⟨b_, 0, none⟩)), (2, [], Value.pointer (some ⟨b_1, 0, none⟩)), (4, [], Value.int .u64 n_), (5, [], Value.int .u64 f), (6, [], Value.int .i64 i), (24, [], Value.slice pp v24.len v24.cap), (28, [], Value.int .i64 (IntKind.i64.wrap (v26 + i)))] : GEnv)) hp_3) ?_
        obtain ⟨h0, h1, h⟩ := h
        refine reg_indexS1 (t := 22) (e := 5) (x := (Go.Operand.tmp 24)) (ix := (Go.Operand.tmp 28)) (b := (pblk v24.ptr)) (o := (poff v24.ptr)) (l := v24.len) (c := v24.cap) (k := .i64) (j := (IntKind.i64.wrap (v26 + i))) (ty := 0) (dst := some 29) (by kernel_rfl) (by kernel_rfl) (by kernel_rfl) (by kernel_rfl) (by kernel_rfl) h0 h1 ?_
        refine reg_run [] 7 [(1, [], Value.pointer (some ⟨b_, 0, none⟩)), (2, [], Value.pointer (some ⟨b_1, 0, none⟩)), (4, [], Value.int .u64 n_), (5, [], Value.int .u64 f), (6, [], Value.int .i64 i), (29, [], Value.pointer (some ⟨(pblk v24.ptr), (poff v24.ptr) + (IntKind.i64.wrap (v26 + i)).toNat, none⟩))] (by kernel_rfl) (by kernel_rfl) ?_
        obtain ⟨c, hc, h⟩ := h
        refine reg_load1 (t := 5) (a := (Go.Operand.tmp 29)) (b := (pblk v24.ptr)) (o := ((poff v24.ptr) + (IntKind.i64.wrap (v26 + i)).toNat)) (ty := 5) (dst := some 30) (by kernel_rfl) (by kernel_rfl) (by kernel_rfl) hc ?_
        refine reg_run [.plain] 9 [(1, [], Value.pointer (some ⟨b_, 0, none⟩)), (2, [], Value.pointer (some ⟨b_1, 0, none⟩)), (4, [], Value.int .u64 n_), (5, [], Value.int .u64 f), (6, [], Value.int .i64 i), (7, [], Value.int .u8 c)] (by kernel_rfl) (by kernel_rfl) ?_
        refine reg_end [(1, Value.pointer (some ⟨b_, 0, none⟩)), (2, Value.pointer (some ⟨b_1, 0, none⟩)), (4, Value.int .u64 n_), (5, Value.int .u64 f), (6, Value.int .i64 i), (7, Value.int .u8 c)] (by kernel_rfl) (by kernel_rfl) ?_
        change WpE _ _ c_towpathref02_Reader_Var_39 _ _ _
        refine wpE_seq (x := c_towpathref02_Reader_Var_40) (y := c_towpathref02_Reader_Var_49) (by kernel_rfl) ?_
        refine wpE_seq (x := c_towpathref02_Reader_Var_41) (y := c_towpathref02_Reader_Var_43) (by kernel_rfl) ?_
        refine wpE_region (id := 10) (ops := r_towpathref02_Reader_Var_41) (by kernel_rfl) ?_
        refine reg_run [.plain, .plain, .plain, .plain, .plain, .pick, .plain, .plain, .plain, .plain, .plain, .plain, .pick, .pick] 14 [(1, [], Value.pointer (some ⟨b_, 0, none⟩)), (2, [], Value.pointer (some ⟨b_1, 0, none⟩)), (4, [], Value.int .u64 n_), (5, [], Value.int .u64 f), (6, [], Value.int .i64 i), (7, [], Value.int .u8 c), (44, [], Value.bool (((i == 9) && (decide (c > 1))) || ((decide (i > 0)) && (c == 0))))] (by kernel_rfl) (by kernel_rfl) ?_
        refine reg_end [(1, Value.pointer (some ⟨b_, 0, none⟩)), (2, Value.pointer (some ⟨b_1, 0, none⟩)), (4, Value.int .u64 n_), (5, Value.int .u64 f), (6, Value.int .i64 i), (7, Value.int .u8 c), (44, Value.bool (((i == 9) && (decide (c > 1))) || ((decide (i > 0)) && (c == 0))))] (by kernel_rfl) (by kernel_rfl) ?_
        change WpE _ _ c_towpathref02_Reader_Var_43 _ _ _
        refine wpE_cond (o := (Operand.tmp 44)) (b := (((i == 9) && (decide (c > 1))) || ((decide (i > 0)) && (c == 0)))) (x := c_towpathref02_Reader_Var_44) (y := c_towpathref02_Reader_Var_48) (by kernel_rfl) (by kernel_rfl) (fun hb => ?_) (fun hb => ?_)
        · replace h := h.1 hb
          refine wpE_seq (x := c_towpathref02_Reader_Var_45) (y := c_towpathref02_Reader_Var_47) (by kernel_rfl) ?_
          refine wpE_region (id := 11) (ops := r_towpathref02_Reader_Var_45) (by kernel_rfl) ?_
          refine reg_run [] 0 [(1, [], Value.pointer (some ⟨b_, 0, none⟩)), (2, [], Value.pointer (some ⟨b_1, 0, none⟩))] (by kernel_rfl) (by kernel_rfl) ?_
          obtain ⟨v45, hc, h⟩ := h
          refine reg_loadN (t := 32) (a := (Go.Operand.tmp 1)) (b := b_) (o := 0) (ty := 32) (dst := some 45) [Value.bool v45.Gone, Value.slice v45.B.ptr v45.B.len v45.B.cap, Value.int .i64 v45.At, Value.int .i64 v45.Code] (by kernel_rfl) (by kernel_rfl) (by kernel_rfl) (k := 4) (by kernel_rfl) (by kernel_rfl) hc ?_
          refine reg_run [] 1 [(2, [], Value.pointer (some ⟨b_1, 0, none⟩)), (45, [], Value.agg #[Value.bool v45.Gone, Value.slice v45.B.ptr v45.B.len v45.B.cap, Value.int .i64 v45.At, Value.int .i64 v45.Code])] (by kernel_rfl) (by kernel_rfl) ?_
          refine reg_enter (op := (Go.Op.call (Go.Call.mk (Go.Callee.value (Go.Operand.func 70)) #[(Go.Operand.tmp 45), (Go.Operand.const (Go.Value.int Go.IntKind.i64 4))] #[32, 30]))) (ty := 32) (dst := some 46) 70 #[Value.agg #[Value.bool v45.Gone, Value.slice v45.B.ptr v45.B.len v45.B.cap, Value.int .i64 v45.At, Value.int .i64 v45.Code], Value.int .i64 4] (by kernel_rfl) (fun ww => by kernel_rfl) (Calls.mono h ?_)
          rintro _ w8 ⟨v46, rfl, h⟩
          refine ⟨_, rfl, ?_⟩
          refine reg_run [] 2 [(2, [], Value.pointer (some ⟨b_1, 0, none⟩)), (46, [], Value.agg #[Value.bool v46.Gone, Value.slice v46.B.ptr v46.B.len v46.B.cap, Value.int .i64 v46.At, Value.int .i64 v46.Code])] (by kernel_rfl) (by kernel_rfl) ?_
          obtain ⟨hc, h⟩ := h
          refine reg_store (t := 32) (a := (Go.Operand.tmp 2)) (x := (Go.Operand.tmp 46)) (b := b_1) (o := 0) (ty := 0) (dst := none) [Value.bool v46.Gone, Value.slice v46.B.ptr v46.B.len v46.B.cap, Value.int .i64 v46.At, Value.int .i64 v46.Code] (by kernel_rfl) (by kernel_rfl) (by kernel_rfl) (k := 4) (by kernel_rfl) (by kernel_rfl) (by kernel_rfl) hc (fun w9 hw => ?_)
          replace h := h w9 hw
          clear hw
          refine reg_run [.plain] 4 [(2, [], Value.pointer (some ⟨b_1, 0, none⟩)), (3, [], Value.int .u64 0)] (by kernel_rfl) (by kernel_rfl) ?_
          refine reg_end [(2, Value.pointer (some ⟨b_1, 0, none⟩)), (3, Value.int .u64 0)] (by kernel_rfl) (by kernel_rfl) ?_
          change WpE _ _ c_towpathref02_Reader_Var_47 _ _ _
          refine wpE_ret (by kernel_rfl) ?_
          obtain ⟨res2, hc_res2, h⟩ := h
          repeat (first | refine seqQ_ret ?_ | refine blockQ_ret ?_ | refine loopQ_ret ?_ | refine cutQ_ret ?_)
          exact retT (rs := [(Go.ResultVar.cell 2 32), (Go.ResultVar.tmp 3)]) (vs := [Value.agg #[Value.bool res2.Gone, Value.slice res2.B.ptr res2.B.len res2.B.cap, Value.int .i64 res2.At, Value.int .i64 res2.Code], Value.int .u64 0]) (by kernel_rfl) (⟨b_1, 0, [Value.bool res2.Gone, Value.slice res2.B.ptr res2.B.len res2.B.cap, Value.int .i64 res2.At, Value.int .i64 res2.Code], by kernel_rfl, hc_res2, (sizeP_of (k := 4) (by kernel_rfl) (by kernel_rfl)), .inl ⟨by kernel_rfl, rfl⟩, ⟨by kernel_rfl, trivial⟩⟩) (by kernel_rfl) ⟨res2, 0, rfl, h⟩
        · replace h := h.2 hb
          refine wpE_skip (by kernel_rfl) ?_
          change WpE _ _ c_towpathref02_Reader_Var_49 _ _ _
          refine wpE_seq (x := c_towpathref02_Reader_Var_50) (y := c_towpathref02_Reader_Var_52) (by kernel_rfl) ?_
          refine wpE_region (id := 12) (ops := r_towpathref02_Reader_Var_50) (by kernel_rfl) ?_
          refine reg_run [.plain, .plain, .plain, .plain, .plain, .plain, .plain, .plain] 8 [(1, [], Value.pointer (some ⟨b_, 0, none⟩)), (2, [], Value.pointer (some ⟨b_1, 0, none⟩)), (4, [], Value.int .u64 (IntKind.u64.wrap (n_ + (IntKind.u64.wrap (f * (IntKind.u64.wrap (Int.tmod c 128))))))), (5, [], Value.int .u64 f), (6, [], Value.int .i64 i), (7, [], Value.int .u8 c)] (by kernel_rfl) (by kernel_rfl) ?_
          refine reg_end [(1, Value.pointer (some ⟨b_, 0, none⟩)), (2, Value.pointer (some ⟨b_1, 0, none⟩)), (4, Value.int .u64 (IntKind.u64.wrap (n_ + (IntKind.u64.wrap (f * (IntKind.u64.wrap (Int.tmod c 128))))))), (5, Value.int .u64 f), (6, Value.int .i64 i), (7, Value.int .u8 c)] (by kernel_rfl) (by kernel_rfl) ?_
          change WpE _ _ c_towpathref02_Reader_Var_52 _ _ _
          refine wpE_seq (x := c_towpathref02_Reader_Var_53) (y := c_towpathref02_Reader_Var_55) (by kernel_rfl) ?_
          refine wpE_region (id := 13) (ops := r_towpathref02_Reader_Var_53) (by kernel_rfl) ?_
          refine reg_run [.plain, .plain, .plain] 3 [(1, [], Value.pointer (some ⟨b_, 0, none⟩)), (2, [], Value.pointer (some ⟨b_1, 0, none⟩)), (4, [], Value.int .u64 (IntKind.u64.wrap (n_ + (IntKind.u64.wrap (f * (IntKind.u64.wrap (Int.tmod c 128))))))), (5, [], Value.int .u64 (IntKind.u64.wrap (128 * f))), (6, [], Value.int .i64 i), (7, [], Value.int .u8 c)] (by kernel_rfl) (by kernel_rfl) ?_
          refine reg_end [(1, Value.pointer (some ⟨b_, 0, none⟩)), (2, Value.pointer (some ⟨b_1, 0, none⟩)), (4, Value.int .u64 (IntKind.u64.wrap (n_ + (IntKind.u64.wrap (f * (IntKind.u64.wrap (Int.tmod c 128))))))), (5, Value.int .u64 (IntKind.u64.wrap (128 * f))), (6, Value.int .i64 i), (7, Value.int .u8 c)] (by kernel_rfl) (by kernel_rfl) ?_
          change WpE _ _ c_towpathref02_Reader_Var_55 _ _ _
          refine wpE_seq (x := c_towpathref02_Reader_Var_56) (y := c_towpathref02_Reader_Var_58) (by kernel_rfl) ?_
          refine wpE_region (id := 14) (ops := r_towpathref02_Reader_Var_56) (by kernel_rfl) ?_
          refine reg_run [.plain, .plain] 2 [(1, [], Value.pointer (some ⟨b_, 0, none⟩)), (2, [], Value.pointer (some ⟨b_1, 0, none⟩)), (4, [], Value.int .u64 (IntKind.u64.wrap (n_ + (IntKind.u64.wrap (f * (IntKind.u64.wrap (Int.tmod c 128))))))), (5, [], Value.int .u64 (IntKind.u64.wrap (128 * f))), (6, [], Value.int .i64 i), (57, [], Value.bool (decide (c < 128)))] (by kernel_rfl) (by kernel_rfl) ?_
          refine reg_end [(1, Value.pointer (some ⟨b_, 0, none⟩)), (2, Value.pointer (some ⟨b_1, 0, none⟩)), (4, Value.int .u64 (IntKind.u64.wrap (n_ + (IntKind.u64.wrap (f * (IntKind.u64.wrap (Int.tmod c 128))))))), (5, Value.int .u64 (IntKind.u64.wrap (128 * f))), (6, Value.int .i64 i), (57, Value.bool (decide (c < 128)))] (by kernel_rfl) (by kernel_rfl) ?_
          change WpE _ _ c_towpathref02_Reader_Var_58 _ _ _
          refine wpE_cond (o := (Operand.tmp 57)) (b := (decide (c < 128))) (x := c_towpathref02_Reader_Var_59) (y := c_towpathref02_Reader_Var_66) (by kernel_rfl) (by kernel_rfl) (fun hb => ?_) (fun hb => ?_)
          · replace h := h.1 hb
            refine wpE_seq (x := c_towpathref02_Reader_Var_60) (y := c_towpathref02_Reader_Var_62) (by kernel_rfl) ?_
            refine wpE_region (id := 15) (ops := r_towpathref02_Reader_Var_60) (by kernel_rfl) ?_
            refine reg_run [.plain] 1 [(1, [], Value.pointer (some ⟨b_, 0, none⟩)), (2, [], Value.pointer (some ⟨b_1, 0, none⟩)), (4, [], Value.int .u64 (IntKind.u64.wrap (n_ + (IntKind.u64.wrap (f * (IntKind.u64.wrap (Int.tmod c 128))))))), (6, [], Value.int .i64 i), (58, [], Value.pointer (some ⟨b_, 2, none⟩))] (by kernel_rfl) (by kernel_rfl) ?_
            obtain ⟨v59, hc, h⟩ := h
            refine reg_load1 (t := 3) (a := (Go.Operand.tmp 58)) (b := b_) (o := 2) (ty := 3) (dst := some 59) (by kernel_rfl) (by kernel_rfl) (by kernel_rfl) hc ?_
            refine reg_run [.plain, .plain, .plain, .plain] 6 [(1, [], Value.pointer (some ⟨b_, 0, none⟩)), (2, [], Value.pointer (some ⟨b_1, 0, none⟩)), (4, [], Value.int .u64 (IntKind.u64.wrap (n_ + (IntKind.u64.wrap (f * (IntKind.u64.wrap (Int.tmod c 128))))))), (62, [], Value.int .i64 (IntKind.i64.wrap ((IntKind.i64.wrap (v59 + i)) + 1))), (63, [], Value.pointer (some ⟨b_, 2, none⟩))] (by kernel_rfl) (by kernel_rfl) ?_
            obtain ⟨hc, h⟩ := h
            refine reg_store (t := 3) (a := (Go.Operand.tmp 63)) (x := (Go.Operand.tmp 62)) (b := b_) (o := 2) (ty := 0) (dst := none) [Value.int .i64 (IntKind.i64.wrap ((IntKind.i64.wrap (v59 + i)) + 1))] (by kernel_rfl) (by kernel_rfl) (by kernel_rfl) (k := 1) (by kernel_rfl) (by kernel_rfl) (by kernel_rfl) hc (fun w10 hw => ?_)
            replace h := h w10 hw
            clear hw
            refine reg_end [(1, Value.pointer (some ⟨b_, 0, none⟩)), (2, Value.pointer (some ⟨b_1, 0, none⟩)), (4, Value.int .u64 (IntKind.u64.wrap (n_ + (IntKind.u64.wrap (f * (IntKind.u64.wrap (Int.tmod c 128)))))))] (by kernel_rfl) (by kernel_rfl) ?_
            change WpE _ _ c_towpathref02_Reader_Var_62 _ _ _
            refine wpE_seq (x := c_towpathref02_Reader_Var_63) (y := c_towpathref02_Reader_Var_65) (by kernel_rfl) ?_
            refine wpE_region (id := 16) (ops := r_towpathref02_Reader_Var_63) (by kernel_rfl) ?_
            refine reg_run [] 0 [(1, [], Value.pointer (some ⟨b_, 0, none⟩)), (2, [], Value.pointer (some ⟨b_1, 0, none⟩)), (4, [], Value.int .u64 (IntKind.u64.wrap (n_ + (IntKind.u64.wrap (f * (IntKind.u64.wrap (Int.tmod c 128)))))))] (by kernel_rfl) (by kernel_rfl) ?_
            obtain ⟨v64, hc, h⟩ := h
            refine reg_loadN (t := 32) (a := (Go.Operand.tmp 1)) (b := b_) (o := 0) (ty := 32) (dst := some 64) [Value.bool v64.Gone, Value.slice v64.B.ptr v64.B.len v64.B.cap, Value.int .i64 v64.At, Value.int .i64 v64.Code] (by kernel_rfl) (by kernel_rfl) (by kernel_rfl) (k := 4) (by kernel_rfl) (by kernel_rfl) hc ?_
            refine reg_run [.plain] 2 [(2, [], Value.pointer (some ⟨b_1, 0, none⟩)), (64, [], Value.agg #[Value.bool v64.Gone, Value.slice v64.B.ptr v64.B.len v64.B.cap, Value.int .i64 v64.At, Value.int .i64 v64.Code]), (65, [], Value.int .u64 (IntKind.u64.wrap (n_ + (IntKind.u64.wrap (f * (IntKind.u64.wrap (Int.tmod c 128)))))))] (by kernel_rfl) (by kernel_rfl) ?_
            obtain ⟨hc, h⟩ := h
            refine reg_store (t := 32) (a := (Go.Operand.tmp 2)) (x := (Go.Operand.tmp 64)) (b := b_1) (o := 0) (ty := 0) (dst := none) [Value.bool v64.Gone, Value.slice v64.B.ptr v64.B.len v64.B.cap, Value.int .i64 v64.At, Value.int .i64 v64.Code] (by kernel_rfl) (by kernel_rfl) (by kernel_rfl) (k := 4) (by kernel_rfl) (by kernel_rfl) (by kernel_rfl) hc (fun w11 hw => ?_)
            replace h := h w11 hw
            clear hw
            refine reg_run [.plain] 4 [(2, [], Value.pointer (some ⟨b_1, 0, none⟩)), (3, [], Value.int .u64 (IntKind.u64.wrap (n_ + (IntKind.u64.wrap (f * (IntKind.u64.wrap (Int.tmod c 128)))))))] (by kernel_rfl) (by kernel_rfl) ?_
            refine reg_end [(2, Value.pointer (some ⟨b_1, 0, none⟩)), (3, Value.int .u64 (IntKind.u64.wrap (n_ + (IntKind.u64.wrap (f * (IntKind.u64.wrap (Int.tmod c 128)))))))] (by kernel_rfl) (by kernel_rfl) ?_
            change WpE _ _ c_towpathref02_Reader_Var_65 _ _ _
            refine wpE_ret (by kernel_rfl) ?_
            obtain ⟨res3, hc_res3, h⟩ := h
            repeat (first | refine seqQ_ret ?_ | refine blockQ_ret ?_ | refine loopQ_ret ?_ | refine cutQ_ret ?_)
            exact retT (rs := [(Go.ResultVar.cell 2 32), (Go.ResultVar.tmp 3)]) (vs := [Value.agg #[Value.bool res3.Gone, Value.slice res3.B.ptr res3.B.len res3.B.cap, Value.int .i64 res3.At, Value.int .i64 res3.Code], Value.int .u64 (IntKind.u64.wrap (n_ + (IntKind.u64.wrap (f * (IntKind.u64.wrap (Int.tmod c 128))))))]) (by kernel_rfl) (⟨b_1, 0, [Value.bool res3.Gone, Value.slice res3.B.ptr res3.B.len res3.B.cap, Value.int .i64 res3.At, Value.int .i64 res3.Code], by kernel_rfl, hc_res3, (sizeP_of (k := 4) (by kernel_rfl) (by kernel_rfl)), .inl ⟨by kernel_rfl, rfl⟩, ⟨by kernel_rfl, trivial⟩⟩) (by kernel_rfl) ⟨res3, (IntKind.u64.wrap (n_ + (IntKind.u64.wrap (f * (IntKind.u64.wrap (Int.tmod c 128)))))), rfl, h⟩
          · replace h := h.2 hb
            refine wpE_skip (by kernel_rfl) ?_
            change WpE _ _ c_towpathref02_Reader_Var_67 _ _ _
            refine wpE_region (id := 6) (ops := r_towpathref02_Reader_Var_67) (by kernel_rfl) ?_
            refine reg_run [.plain, .plain, .plain] 3 [(1, [], Value.pointer (some ⟨b_, 0, none⟩)), (2, [], Value.pointer (some ⟨b_1, 0, none⟩)), (4, [], Value.int .u64 (IntKind.u64.wrap (n_ + (IntKind.u64.wrap (f * (IntKind.u64.wrap (Int.tmod c 128))))))), (5, [], Value.int .u64 (IntKind.u64.wrap (128 * f))), (6, [], Value.int .i64 (IntKind.i64.wrap (i + 1)))] (by kernel_rfl) (by kernel_rfl) ?_
            refine reg_end [(1, Value.pointer (some ⟨b_, 0, none⟩)), (2, Value.pointer (some ⟨b_1, 0, none⟩)), (4, Value.int .u64 (IntKind.u64.wrap (n_ + (IntKind.u64.wrap (f * (IntKind.u64.wrap (Int.tmod c 128))))))), (5, Value.int .u64 (IntKind.u64.wrap (128 * f))), (6, Value.int .i64 (IntKind.i64.wrap (i + 1)))] (by kernel_rfl) (by kernel_rfl) ?_
            have hb_ := again__h _ _ _ _ h
            exact ⟨_, hb_.2, [(1, Value.pointer (some ⟨b_, 0, none⟩)), (2, Value.pointer (some ⟨b_1, 0, none⟩)), (4, Value.int .u64 (IntKind.u64.wrap (n_ + (IntKind.u64.wrap (f * (IntKind.u64.wrap (Int.tmod c 128))))))), (5, Value.int .u64 (IntKind.u64.wrap (128 * f))), (6, Value.int .i64 (IntKind.i64.wrap (i + 1)))], Sub.mk (by kernel_rfl), (IntKind.u64.wrap (n_ + (IntKind.u64.wrap (f * (IntKind.u64.wrap (Int.tmod c 128)))))), (IntKind.u64.wrap (128 * f)), (IntKind.i64.wrap (i + 1)), rfl, hb_.1, rfl⟩
  · rintro e w' ⟨v, rfl, r0, r1, rfl, h⟩; exact ⟨r0, r1, rfl, h⟩

/-! ### (towpath/towpathref02.Reader).dead (function 69) -/
noncomputable def c_towpathref02_Reader_dead_0 : Code := (Try.f69.body).getD Code.skip
noncomputable def c_towpathref02_Reader_dead_1 : Code := Code.l c_towpathref02_Reader_dead_0
noncomputable def r_towpathref02_Reader_dead_1 : Array Oper := Code.ops c_towpathref02_Reader_dead_1
noncomputable def c_towpathref02_Reader_dead_3 : Code := Code.r c_towpathref02_Reader_dead_0
noncomputable def c_towpathref02_Reader_dead_4 : Code := Code.l c_towpathref02_Reader_dead_3
noncomputable def r_towpathref02_Reader_dead_4 : Array Oper := Code.ops c_towpathref02_Reader_dead_4
noncomputable def c_towpathref02_Reader_dead_6 : Code := Code.r c_towpathref02_Reader_dead_3

set_option maxRecDepth 100000 in
set_option maxHeartbeats 4000000 in
theorem S_towpathref02_Reader_dead {r : T_towpathref02_Reader} {w : World} {R : Bool → World → Prop} (h : F_towpathref02_Reader_dead r R w) : C_towpathref02_Reader_dead r w R := by
  unfold F_towpathref02_Reader_dead at h
  unfold C_towpathref02_Reader_dead
  refine Calls.mono (calls_of_wpE (args := [Value.agg #[Value.bool r.Gone, Value.slice r.B.ptr r.B.len r.B.cap, Value.int .i64 r.At, Value.int .i64 r.Code]]) (R := fun v w' => ∃ (r0 : Bool), v = Value.bool r0 ∧ R r0 w') Try.func69 (c := c_towpathref02_Reader_dead_0) (by kernel_rfl) 10 (by kernel_rfl) (by kernel_rfl) [(0, Value.agg #[Value.bool r.Gone, Value.slice r.B.ptr r.B.len r.B.cap, Value.int .i64 r.At, Value.int .i64 r.Code])] (by kernel_rfl) ?_) ?_
  · refine wpE_seq (x := c_towpathref02_Reader_dead_1) (y := c_towpathref02_Reader_dead_3) (by kernel_rfl) ?_
    refine wpE_region (id := 0) (ops := r_towpathref02_Reader_dead_1) (by kernel_rfl) ?_
    refine reg_run [] 0 [(0, [], Value.agg #[Value.bool r.Gone, Value.slice r.B.ptr r.B.len r.B.cap, Value.int .i64 r.At, Value.int .i64 r.Code])] (by kernel_rfl) (by kernel_rfl) ?_
    refine reg_new (op := (Go.Op.box 32 (Go.Operand.tmp 0))) (ty := 0) (dst := some 1) (fun bb => Value.pointer (some ⟨bb, 0, none⟩)) (Obj.cells ([Value.bool r.Gone, Value.slice r.B.ptr r.B.len r.B.cap, Value.int .i64 r.At, Value.int .i64 r.Code]).toArray ty_towpathref02_Reader (0, 0)) (by kernel_rfl) (by kernel_rfl) (fun b_ w1 hb hw => ?_)
    replace h := h b_ w1 hb hw
    clear hb hw
    refine reg_run [.plain] 2 [(1, [], Value.pointer (some ⟨b_, 0, none⟩))] (by kernel_rfl) (by kernel_rfl) ?_
    refine reg_end [(1, Value.pointer (some ⟨b_, 0, none⟩))] (by kernel_rfl) (by kernel_rfl) ?_
    change WpE _ _ c_towpathref02_Reader_dead_3 _ _ _
    refine wpE_seq (x := c_towpathref02_Reader_dead_4) (y := c_towpathref02_Reader_dead_6) (by kernel_rfl) ?_
    refine wpE_region (id := 1) (ops := r_towpathref02_Reader_dead_4) (by kernel_rfl) ?_
    refine reg_run [.plain] 1 [(1, [], Value.pointer (some ⟨b_, 0, none⟩)), (3, [], Value.pointer (some ⟨b_, 0, none⟩))] (by kernel_rfl) (by kernel_rfl) ?_
    obtain ⟨v4, hc, h⟩ := h
    refine reg_load1 (t := 4) (a := (Go.Operand.tmp 3)) (b := b_) (o := 0) (ty := 4) (dst := some 4) (by kernel_rfl) (by kernel_rfl) (by kernel_rfl) hc ?_
    refine reg_run [.plain, .plain] 4 [(5, [], Value.bool v4), (6, [(5, false)], Value.pointer (some ⟨b_, 3, none⟩))] (by kernel_rfl) (by kernel_rfl) ?_
    refine reg_split 5 v4 (by kernel_rfl) (fun hb => ?_) (fun hb => ?_)
    · replace h := h.1 hb
      refine reg_run [] 4 [(5, [], Value.bool true), (6, [], undef)] (by kernel_rfl) (by kernel_rfl) ?_
      refine reg_run [.skip, .skip, .plain, .plain] 8 [(2, [], Value.bool true)] (by kernel_rfl) (by kernel_rfl) ?_
      refine reg_end [(2, Value.bool true)] (by kernel_rfl) (by kernel_rfl) ?_
      change WpE _ _ c_towpathref02_Reader_dead_6 _ _ _
      refine wpE_ret (by kernel_rfl) ?_
      repeat (first | refine seqQ_ret ?_ | refine blockQ_ret ?_ | refine loopQ_ret ?_ | refine cutQ_ret ?_)
      exact retS (rs := [(Go.ResultVar.tmp 2)]) (v := Value.bool true) (by kernel_rfl) (⟨by kernel_rfl, trivial⟩) ⟨true, rfl, h⟩
    · replace h := h.2 hb
      refine reg_run [] 4 [(5, [], Value.bool false), (6, [], Value.pointer (some ⟨b_, 3, none⟩))] (by kernel_rfl) (by kernel_rfl) ?_
      refine reg_run [] 4 [(5, [], Value.bool false), (6, [], Value.pointer (some ⟨b_, 3, none⟩))] (by kernel_rfl) (by kernel_rfl) ?_
      obtain ⟨v7, hc, h⟩ := h
      refine reg_load1 (t := 30) (a := (Go.Operand.tmp 6)) (b := b_) (o := 3) (ty := 30) (dst := some 7) (by kernel_rfl) (by kernel_rfl) (by kernel_rfl) hc ?_
      refine reg_run [.sure, .plain, .plain] 8 [(2, [], Value.bool (v7 != 0))] (by kernel_rfl) (by kernel_rfl) ?_
      refine reg_end [(2, Value.bool (v7 != 0))] (by kernel_rfl) (by kernel_rfl) ?_
      change WpE _ _ c_towpathref02_Reader_dead_6 _ _ _
      refine wpE_ret (by kernel_rfl) ?_
      repeat (first | refine seqQ_ret ?_ | refine blockQ_ret ?_ | refine loopQ_ret ?_ | refine cutQ_ret ?_)
      exact retS (rs := [(Go.ResultVar.tmp 2)]) (v := Value.bool (v7 != 0)) (by kernel_rfl) (⟨by kernel_rfl, trivial⟩) ⟨(v7 != 0), rfl, h⟩
  · rintro e w' ⟨v, rfl, r0, rfl, h⟩; exact ⟨r0, rfl, h⟩

/-! ### (towpath/towpathref02.Reader).wrong (function 70) -/
noncomputable def c_towpathref02_Reader_wrong_0 : Code := (Try.f70.body).getD Code.skip
noncomputable def c_towpathref02_Reader_wrong_1 : Code := Code.l c_towpathref02_Reader_wrong_0
noncomputable def r_towpathref02_Reader_wrong_1 : Array Oper := Code.ops c_towpathref02_Reader_wrong_1
noncomputable def c_towpathref02_Reader_wrong_3 : Code := Code.r c_towpathref02_Reader_wrong_0
noncomputable def c_towpathref02_Reader_wrong_4 : Code := Code.l c_towpathref02_Reader_wrong_3
noncomputable def r_towpathref02_Reader_wrong_4 : Array Oper := Code.ops c_towpathref02_Reader_wrong_4
noncomputable def c_towpathref02_Reader_wrong_6 : Code := Code.r c_towpathref02_Reader_wrong_3
noncomputable def c_towpathref02_Reader_wrong_7 : Code := Code.l c_towpathref02_Reader_wrong_6
noncomputable def r_towpathref02_Reader_wrong_7 : Array Oper := Code.ops c_towpathref02_Reader_wrong_7
noncomputable def c_towpathref02_Reader_wrong_9 : Code := Code.r c_towpathref02_Reader_wrong_6

set_option maxRecDepth 100000 in
set_option maxHeartbeats 4000000 in
theorem S_towpathref02_Reader_wrong {r : T_towpathref02_Reader} {e : Int} {w : World} {R : T_towpathref02_Reader → World → Prop} (h : F_towpathref02_Reader_wrong r e R w) : C_towpathref02_Reader_wrong r e w R := by
  unfold F_towpathref02_Reader_wrong at h
  unfold C_towpathref02_Reader_wrong
  refine Calls.mono (calls_of_wpE (args := [Value.agg #[Value.bool r.Gone, Value.slice r.B.ptr r.B.len r.B.cap, Value.int .i64 r.At, Value.int .i64 r.Code], Value.int .i64 e]) (R := fun v w' => ∃ (r0 : T_towpathref02_Reader), v = Value.agg #[Value.bool r0.Gone, Value.slice r0.B.ptr r0.B.len r0.B.cap, Value.int .i64 r0.At, Value.int .i64 r0.Code] ∧ R r0 w') Try.func70 (c := c_towpathref02_Reader_wrong_0) (by kernel_rfl) 8 (by kernel_rfl) (by kernel_rfl) [(0, Value.agg #[Value.bool r.Gone, Value.slice r.B.ptr r.B.len r.B.cap, Value.int .i64 r.At, Value.int .i64 r.Code]), (1, Value.int .i64 e)] (by kernel_rfl) ?_) ?_
  · refine wpE_seq (x := c_towpathref02_Reader_wrong_1) (y := c_towpathref02_Reader_wrong_3) (by kernel_rfl) ?_
    refine wpE_region (id := 0) (ops := r_towpathref02_Reader_wrong_1) (by kernel_rfl) ?_
    refine reg_run [] 0 [(0, [], Value.agg #[Value.bool r.Gone, Value.slice r.B.ptr r.B.len r.B.cap, Value.int .i64 r.At, Value.int .i64 r.Code]), (1, [], Value.int .i64 e)] (by kernel_rfl) (by kernel_rfl) ?_
    refine reg_new (op := (Go.Op.box 32 (Go.Operand.tmp 0))) (ty := 0) (dst := some 2) (fun bb => Value.pointer (some ⟨bb, 0, none⟩)) (Obj.cells ([Value.bool r.Gone, Value.slice r.B.ptr r.B.len r.B.cap, Value.int .i64 r.At, Value.int .i64 r.Code]).toArray ty_towpathref02_Reader (0, 0)) (by kernel_rfl) (by kernel_rfl) (fun b_ w1 hb hw => ?_)
    replace h := h b_ w1 hb hw
    clear hb hw
    refine reg_run [] 1 [(1, [], Value.int .i64 e), (2, [], Value.pointer (some ⟨b_, 0, none⟩))] (by kernel_rfl) (by kernel_rfl) ?_
    refine reg_new (op := (Go.Op.alloc 32)) (ty := 0) (dst := some 4) (fun bb => Value.pointer (some ⟨bb, 0, none⟩)) (Obj.cells ([Value.bool false, Value.slice none 0 0, Value.int .i64 0, Value.int .i64 0]).toArray ty_towpathref02_Reader (0, 0)) (by kernel_rfl) (by kernel_rfl) (fun b_1 w2 hb hw => ?_)
    replace h := h b_1 w2 hb hw
    clear hb hw
    refine reg_end [(1, Value.int .i64 e), (2, Value.pointer (some ⟨b_, 0, none⟩)), (4, Value.pointer (some ⟨b_1, 0, none⟩))] (by kernel_rfl) (by kernel_rfl) ?_
    change WpE _ _ c_towpathref02_Reader_wrong_3 _ _ _
    refine wpE_seq (x := c_towpathref02_Reader_wrong_4) (y := c_towpathref02_Reader_wrong_6) (by kernel_rfl) ?_
    refine wpE_region (id := 1) (ops := r_towpathref02_Reader_wrong_4) (by kernel_rfl) ?_
    refine reg_run [.plain, .plain] 2 [(2, [], Value.pointer (some ⟨b_, 0, none⟩)), (4, [], Value.pointer (some ⟨b_1, 0, none⟩)), (5, [], Value.int .i64 e), (6, [], Value.pointer (some ⟨b_, 3, none⟩))] (by kernel_rfl) (by kernel_rfl) ?_
    obtain ⟨hc, h⟩ := h
    refine reg_store (t := 30) (a := (Go.Operand.tmp 6)) (x := (Go.Operand.tmp 5)) (b := b_) (o := 3) (ty := 0) (dst := none) [Value.int .i64 e] (by kernel_rfl) (by kernel_rfl) (by kernel_rfl) (k := 1) (by kernel_rfl) (by kernel_rfl) (by kernel_rfl) hc (fun w3 hw => ?_)
    replace h := h w3 hw
    clear hw
    refine reg_end [(2, Value.pointer (some ⟨b_, 0, none⟩)), (4, Value.pointer (some ⟨b_1, 0, none⟩))] (by kernel_rfl) (by kernel_rfl) ?_
    change WpE _ _ c_towpathref02_Reader_wrong_6 _ _ _
    refine wpE_seq (x := c_towpathref02_Reader_wrong_7) (y := c_towpathref02_Reader_wrong_9) (by kernel_rfl) ?_
    refine wpE_region (id := 2) (ops := r_towpathref02_Reader_wrong_7) (by kernel_rfl) ?_
    refine reg_run [] 0 [(2, [], Value.pointer (some ⟨b_, 0, none⟩)), (4, [], Value.pointer (some ⟨b_1, 0, none⟩))] (by kernel_rfl) (by kernel_rfl) ?_
    obtain ⟨v7, hc, h⟩ := h
    refine reg_loadN (t := 32) (a := (Go.Operand.tmp 2)) (b := b_) (o := 0) (ty := 32) (dst := some 7) [Value.bool v7.Gone, Value.slice v7.B.ptr v7.B.len v7.B.cap, Value.int .i64 v7.At, Value.int .i64 v7.Code] (by kernel_rfl) (by kernel_rfl) (by kernel_rfl) (k := 4) (by kernel_rfl) (by kernel_rfl) hc ?_
    refine reg_run [] 1 [(4, [], Value.pointer (some ⟨b_1, 0, none⟩)), (7, [], Value.agg #[Value.bool v7.Gone, Value.slice v7.B.ptr v7.B.len v7.B.cap, Value.int .i64 v7.At, Value.int .i64 v7.Code])] (by kernel_rfl) (by kernel_rfl) ?_
    obtain ⟨hc, h⟩ := h
    refine reg_store (t := 32) (a := (Go.Operand.tmp 4)) (x := (Go.Operand.tmp 7)) (b := b_1) (o := 0) (ty := 0) (dst := none) [Value.bool v7.Gone, Value.slice v7.B.ptr v7.B.len v7.B.cap, Value.int .i64 v7.At, Value.int .i64 v7.Code] (by kernel_rfl) (by kernel_rfl) (by kernel_rfl) (k := 4) (by kernel_rfl) (by kernel_rfl) (by kernel_rfl) hc (fun w4 hw => ?_)
    replace h := h w4 hw
    clear hw
    refine reg_end [(4, Value.pointer (some ⟨b_1, 0, none⟩))] (by kernel_rfl) (by kernel_rfl) ?_
    change WpE _ _ c_towpathref02_Reader_wrong_9 _ _ _
    refine wpE_ret (by kernel_rfl) ?_
    obtain ⟨res, hc_res, h⟩ := h
    repeat (first | refine seqQ_ret ?_ | refine blockQ_ret ?_ | refine loopQ_ret ?_ | refine cutQ_ret ?_)
    exact retS (rs := [(Go.ResultVar.cell 4 32)]) (v := Value.agg #[Value.bool res.Gone, Value.slice res.B.ptr res.B.len res.B.cap, Value.int .i64 res.At, Value.int .i64 res.Code]) (by kernel_rfl) (⟨b_1, 0, [Value.bool res.Gone, Value.slice res.B.ptr res.B.len res.B.cap, Value.int .i64 res.At, Value.int .i64 res.Code], by kernel_rfl, hc_res, (sizeP_of (k := 4) (by kernel_rfl) (by kernel_rfl)), .inl ⟨by kernel_rfl, rfl⟩, trivial⟩) ⟨res, rfl, h⟩
  · rintro e w' ⟨v, rfl, r0, rfl, h⟩; exact ⟨r0, rfl, h⟩
end Go.Proofs.Ytckmganidgbpgaa
