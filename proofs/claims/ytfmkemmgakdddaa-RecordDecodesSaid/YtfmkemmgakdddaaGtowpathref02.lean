/- WRITTEN BY PROGRAM (dec.py): for each Go function the clean formula F, the call's contract C, and the proof S that F gives C. -/
import Derived.Test.YtfmkemmgakdddaaRows
import Derived.Test.YtfmkemmgakdddaaGF
namespace Go.Proofs.Ytfmkemmgakdddaa
open Go
set_option linter.unusedVariables false

/-! ### (towpath/towpathref02.Reader).Var (function 45) -/
noncomputable def c_towpathref02_Reader_Var_0 : Code := (Try.f45.body).getD Code.skip
noncomputable def c_towpathref02_Reader_Var_1 : Code := Code.l c_towpathref02_Reader_Var_0
noncomputable def r_towpathref02_Reader_Var_1 : Array Oper := Code.ops c_towpathref02_Reader_Var_1
noncomputable def c_towpathref02_Reader_Var_3 : Code := Code.r c_towpathref02_Reader_Var_0
noncomputable def c_towpathref02_Reader_Var_4 : Code := Code.l c_towpathref02_Reader_Var_3
noncomputable def c_towpathref02_Reader_Var_5 : Code := Code.l c_towpathref02_Reader_Var_4
noncomputable def r_towpathref02_Reader_Var_5 : Array Oper := Code.ops c_towpathref02_Reader_Var_5
noncomputable def c_towpathref02_Reader_Var_7 : Code := Code.r c_towpathref02_Reader_Var_4
noncomputable def c_towpathref02_Reader_Var_8 : Code := Code.l c_towpathref02_Reader_Var_7
noncomputable def c_towpathref02_Reader_Var_9 : Code := Code.l c_towpathref02_Reader_Var_8
noncomputable def r_towpathref02_Reader_Var_9 : Array Oper := Code.ops c_towpathref02_Reader_Var_9
noncomputable def c_towpathref02_Reader_Var_11 : Code := Code.r c_towpathref02_Reader_Var_8
noncomputable def c_towpathref02_Reader_Var_12 : Code := Code.r c_towpathref02_Reader_Var_7
noncomputable def c_towpathref02_Reader_Var_13 : Code := Code.r c_towpathref02_Reader_Var_3
noncomputable def c_towpathref02_Reader_Var_14 : Code := Code.l c_towpathref02_Reader_Var_13
noncomputable def r_towpathref02_Reader_Var_14 : Array Oper := Code.ops c_towpathref02_Reader_Var_14
noncomputable def c_towpathref02_Reader_Var_16 : Code := Code.r c_towpathref02_Reader_Var_13
noncomputable def c_towpathref02_Reader_Var_17 : Code := Code.l c_towpathref02_Reader_Var_16
noncomputable def r_towpathref02_Reader_Var_17 : Array Oper := Code.ops c_towpathref02_Reader_Var_17
noncomputable def c_towpathref02_Reader_Var_19 : Code := Code.r c_towpathref02_Reader_Var_16
noncomputable def c_towpathref02_Reader_Var_20 : Code := Code.l c_towpathref02_Reader_Var_19
noncomputable def r_towpathref02_Reader_Var_20 : Array Oper := Code.ops c_towpathref02_Reader_Var_20
noncomputable def c_towpathref02_Reader_Var_22 : Code := Code.r c_towpathref02_Reader_Var_19
noncomputable def c_towpathref02_Reader_Var_23 : Code := Code.l c_towpathref02_Reader_Var_22
noncomputable def c_towpathref02_Reader_Var_24 : Code := Code.l c_towpathref02_Reader_Var_23
noncomputable def c_towpathref02_Reader_Var_25 : Code := Code.l c_towpathref02_Reader_Var_24
noncomputable def c_towpathref02_Reader_Var_26 : Code := Code.l c_towpathref02_Reader_Var_25
noncomputable def c_towpathref02_Reader_Var_27 : Code := Code.l c_towpathref02_Reader_Var_26
noncomputable def c_towpathref02_Reader_Var_28 : Code := Code.l c_towpathref02_Reader_Var_27
noncomputable def r_towpathref02_Reader_Var_28 : Array Oper := Code.ops c_towpathref02_Reader_Var_28
noncomputable def c_towpathref02_Reader_Var_30 : Code := Code.r c_towpathref02_Reader_Var_27
noncomputable def c_towpathref02_Reader_Var_31 : Code := Code.l c_towpathref02_Reader_Var_30
noncomputable def c_towpathref02_Reader_Var_32 : Code := Code.l c_towpathref02_Reader_Var_31
noncomputable def r_towpathref02_Reader_Var_32 : Array Oper := Code.ops c_towpathref02_Reader_Var_32
noncomputable def c_towpathref02_Reader_Var_34 : Code := Code.r c_towpathref02_Reader_Var_31
noncomputable def c_towpathref02_Reader_Var_35 : Code := Code.r c_towpathref02_Reader_Var_30
noncomputable def c_towpathref02_Reader_Var_36 : Code := Code.r c_towpathref02_Reader_Var_26
noncomputable def c_towpathref02_Reader_Var_37 : Code := Code.l c_towpathref02_Reader_Var_36
noncomputable def r_towpathref02_Reader_Var_37 : Array Oper := Code.ops c_towpathref02_Reader_Var_37
noncomputable def c_towpathref02_Reader_Var_39 : Code := Code.r c_towpathref02_Reader_Var_36
noncomputable def c_towpathref02_Reader_Var_40 : Code := Code.l c_towpathref02_Reader_Var_39
noncomputable def c_towpathref02_Reader_Var_41 : Code := Code.l c_towpathref02_Reader_Var_40
noncomputable def r_towpathref02_Reader_Var_41 : Array Oper := Code.ops c_towpathref02_Reader_Var_41
noncomputable def c_towpathref02_Reader_Var_43 : Code := Code.r c_towpathref02_Reader_Var_40
noncomputable def c_towpathref02_Reader_Var_44 : Code := Code.l c_towpathref02_Reader_Var_43
noncomputable def c_towpathref02_Reader_Var_45 : Code := Code.l c_towpathref02_Reader_Var_44
noncomputable def r_towpathref02_Reader_Var_45 : Array Oper := Code.ops c_towpathref02_Reader_Var_45
noncomputable def c_towpathref02_Reader_Var_47 : Code := Code.r c_towpathref02_Reader_Var_44
noncomputable def c_towpathref02_Reader_Var_48 : Code := Code.r c_towpathref02_Reader_Var_43
noncomputable def c_towpathref02_Reader_Var_49 : Code := Code.r c_towpathref02_Reader_Var_39
noncomputable def c_towpathref02_Reader_Var_50 : Code := Code.l c_towpathref02_Reader_Var_49
noncomputable def r_towpathref02_Reader_Var_50 : Array Oper := Code.ops c_towpathref02_Reader_Var_50
noncomputable def c_towpathref02_Reader_Var_52 : Code := Code.r c_towpathref02_Reader_Var_49
noncomputable def c_towpathref02_Reader_Var_53 : Code := Code.l c_towpathref02_Reader_Var_52
noncomputable def r_towpathref02_Reader_Var_53 : Array Oper := Code.ops c_towpathref02_Reader_Var_53
noncomputable def c_towpathref02_Reader_Var_55 : Code := Code.r c_towpathref02_Reader_Var_52
noncomputable def c_towpathref02_Reader_Var_56 : Code := Code.l c_towpathref02_Reader_Var_55
noncomputable def r_towpathref02_Reader_Var_56 : Array Oper := Code.ops c_towpathref02_Reader_Var_56
noncomputable def c_towpathref02_Reader_Var_58 : Code := Code.r c_towpathref02_Reader_Var_55
noncomputable def c_towpathref02_Reader_Var_59 : Code := Code.l c_towpathref02_Reader_Var_58
noncomputable def c_towpathref02_Reader_Var_60 : Code := Code.l c_towpathref02_Reader_Var_59
noncomputable def r_towpathref02_Reader_Var_60 : Array Oper := Code.ops c_towpathref02_Reader_Var_60
noncomputable def c_towpathref02_Reader_Var_62 : Code := Code.r c_towpathref02_Reader_Var_59
noncomputable def c_towpathref02_Reader_Var_63 : Code := Code.l c_towpathref02_Reader_Var_62
noncomputable def r_towpathref02_Reader_Var_63 : Array Oper := Code.ops c_towpathref02_Reader_Var_63
noncomputable def c_towpathref02_Reader_Var_65 : Code := Code.r c_towpathref02_Reader_Var_62
noncomputable def c_towpathref02_Reader_Var_66 : Code := Code.r c_towpathref02_Reader_Var_58
noncomputable def c_towpathref02_Reader_Var_67 : Code := Code.r c_towpathref02_Reader_Var_24
noncomputable def r_towpathref02_Reader_Var_67 : Array Oper := Code.ops c_towpathref02_Reader_Var_67

set_option maxRecDepth 100000 in
set_option maxHeartbeats 4000000 in
theorem S_towpathref02_Reader_Var {r : T_towpathref02_Reader} {w : World} {R : T_towpathref02_Reader → Int → World → Prop} (h : F_towpathref02_Reader_Var r R w) : C_towpathref02_Reader_Var r w R := by
  unfold F_towpathref02_Reader_Var at h
  unfold C_towpathref02_Reader_Var
  refine Calls.mono (calls_of_wpE (args := [Value.agg #[Value.bool r.Gone, Value.slice r.B.ptr r.B.len r.B.cap, Value.int .i64 r.At, Value.int .i64 r.Code]]) (R := fun v w' => ∃ (r0 : T_towpathref02_Reader) (r1 : Int), v = Value.tuple #[Value.agg #[Value.bool r0.Gone, Value.slice r0.B.ptr r0.B.len r0.B.cap, Value.int .i64 r0.At, Value.int .i64 r0.Code], Value.int .u64 r1] ∧ R r0 r1 w') Try.func45 (c := c_towpathref02_Reader_Var_0) (by kernel_rfl) 66 (by kernel_rfl) (by kernel_rfl) [(0, Value.agg #[Value.bool r.Gone, Value.slice r.B.ptr r.B.len r.B.cap, Value.int .i64 r.At, Value.int .i64 r.Code])] (by kernel_rfl) ?_) ?_
  · refine wpE_seq (x := c_towpathref02_Reader_Var_1) (y := c_towpathref02_Reader_Var_3) (by kernel_rfl) ?_
    refine wpE_region (id := 0) (ops := r_towpathref02_Reader_Var_1) (by kernel_rfl) ?_
    refine reg_run [] 0 [(0, [], Value.agg #[Value.bool r.Gone, Value.slice r.B.ptr r.B.len r.B.cap, Value.int .i64 r.At, Value.int .i64 r.Code])] (by kernel_rfl) (by kernel_rfl) ?_
    refine reg_new (op := (Go.Op.box 89 (Go.Operand.tmp 0))) (ty := 0) (dst := some 1) (fun bb => Value.pointer (some ⟨bb, 0, none⟩)) (Obj.cells ([Value.bool r.Gone, Value.slice r.B.ptr r.B.len r.B.cap, Value.int .i64 r.At, Value.int .i64 r.Code]).toArray ty_towpathref02_Reader (0, 0)) (by kernel_rfl) (by kernel_rfl) (fun b_ w1 hb hw => ?_)
    replace h := h b_ w1 hb hw
    clear hb hw
    refine reg_run [] 1 [(1, [], Value.pointer (some ⟨b_, 0, none⟩))] (by kernel_rfl) (by kernel_rfl) ?_
    refine reg_new (op := (Go.Op.alloc 89)) (ty := 0) (dst := some 2) (fun bb => Value.pointer (some ⟨bb, 0, none⟩)) (Obj.cells ([Value.bool false, Value.slice none 0 0, Value.int .i64 0, Value.int .i64 0]).toArray ty_towpathref02_Reader (0, 0)) (by kernel_rfl) (by kernel_rfl) (fun b_1 w2 hb hw => ?_)
    replace h := h b_1 w2 hb hw
    clear hb hw
    refine reg_run [.plain] 3 [(1, [], Value.pointer (some ⟨b_, 0, none⟩)), (2, [], Value.pointer (some ⟨b_1, 0, none⟩))] (by kernel_rfl) (by kernel_rfl) ?_
    refine reg_end [(1, Value.pointer (some ⟨b_, 0, none⟩)), (2, Value.pointer (some ⟨b_1, 0, none⟩))] (by kernel_rfl) (by kernel_rfl) ?_
    change WpE _ _ c_towpathref02_Reader_Var_3 _ _ _
    refine wpE_seq (x := c_towpathref02_Reader_Var_4) (y := c_towpathref02_Reader_Var_13) (by kernel_rfl) ?_
    refine wpE_seq (x := c_towpathref02_Reader_Var_5) (y := c_towpathref02_Reader_Var_7) (by kernel_rfl) ?_
    refine wpE_region (id := 1) (ops := r_towpathref02_Reader_Var_5) (by kernel_rfl) ?_
    refine reg_run [] 0 [(1, [], Value.pointer (some ⟨b_, 0, none⟩)), (2, [], Value.pointer (some ⟨b_1, 0, none⟩))] (by kernel_rfl) (by kernel_rfl) ?_
    obtain ⟨v8, hc, h⟩ := h
    refine reg_loadN (t := 89) (a := (Go.Operand.tmp 1)) (b := b_) (o := 0) (ty := 89) (dst := some 8) [Value.bool v8.Gone, Value.slice v8.B.ptr v8.B.len v8.B.cap, Value.int .i64 v8.At, Value.int .i64 v8.Code] (by kernel_rfl) (by kernel_rfl) (by kernel_rfl) (k := 4) (by kernel_rfl) (by kernel_rfl) hc ?_
    refine reg_run [] 1 [(1, [], Value.pointer (some ⟨b_, 0, none⟩)), (2, [], Value.pointer (some ⟨b_1, 0, none⟩)), (8, [], Value.agg #[Value.bool v8.Gone, Value.slice v8.B.ptr v8.B.len v8.B.cap, Value.int .i64 v8.At, Value.int .i64 v8.Code])] (by kernel_rfl) (by kernel_rfl) ?_
    refine reg_enter (op := (Go.Op.call (Go.Call.mk (Go.Callee.value (Go.Operand.func 78)) #[(Go.Operand.tmp 8)] #[89]))) (ty := 4) (dst := some 9) 78 #[Value.agg #[Value.bool v8.Gone, Value.slice v8.B.ptr v8.B.len v8.B.cap, Value.int .i64 v8.At, Value.int .i64 v8.Code]] (by kernel_rfl) (fun ww => by kernel_rfl) (Calls.mono h ?_)
    rintro _ w3 ⟨v9, rfl, h⟩
    refine ⟨_, rfl, ?_⟩
    refine reg_end [(1, Value.pointer (some ⟨b_, 0, none⟩)), (2, Value.pointer (some ⟨b_1, 0, none⟩)), (9, Value.bool v9)] (by kernel_rfl) (by kernel_rfl) ?_
    change WpE _ _ c_towpathref02_Reader_Var_7 _ _ _
    refine wpE_cond (o := (Operand.tmp 9)) (b := v9) (x := c_towpathref02_Reader_Var_8) (y := c_towpathref02_Reader_Var_12) (by kernel_rfl) (by kernel_rfl) (fun hb => ?_) (fun hb => ?_)
    · replace h := h.1 hb
      refine wpE_seq (x := c_towpathref02_Reader_Var_9) (y := c_towpathref02_Reader_Var_11) (by kernel_rfl) ?_
      refine wpE_region (id := 2) (ops := r_towpathref02_Reader_Var_9) (by kernel_rfl) ?_
      refine reg_run [] 0 [(1, [], Value.pointer (some ⟨b_, 0, none⟩)), (2, [], Value.pointer (some ⟨b_1, 0, none⟩))] (by kernel_rfl) (by kernel_rfl) ?_
      obtain ⟨v10, hc, h⟩ := h
      refine reg_loadN (t := 89) (a := (Go.Operand.tmp 1)) (b := b_) (o := 0) (ty := 89) (dst := some 10) [Value.bool v10.Gone, Value.slice v10.B.ptr v10.B.len v10.B.cap, Value.int .i64 v10.At, Value.int .i64 v10.Code] (by kernel_rfl) (by kernel_rfl) (by kernel_rfl) (k := 4) (by kernel_rfl) (by kernel_rfl) hc ?_
      refine reg_run [] 1 [(2, [], Value.pointer (some ⟨b_1, 0, none⟩)), (10, [], Value.agg #[Value.bool v10.Gone, Value.slice v10.B.ptr v10.B.len v10.B.cap, Value.int .i64 v10.At, Value.int .i64 v10.Code])] (by kernel_rfl) (by kernel_rfl) ?_
      obtain ⟨hc, h⟩ := h
      refine reg_store (t := 89) (a := (Go.Operand.tmp 2)) (x := (Go.Operand.tmp 10)) (b := b_1) (o := 0) (ty := 0) (dst := none) [Value.bool v10.Gone, Value.slice v10.B.ptr v10.B.len v10.B.cap, Value.int .i64 v10.At, Value.int .i64 v10.Code] (by kernel_rfl) (by kernel_rfl) (by kernel_rfl) (k := 4) (by kernel_rfl) (by kernel_rfl) (by kernel_rfl) hc (fun w4 hw => ?_)
      replace h := h w4 hw
      clear hw
      refine reg_run [.plain] 3 [(2, [], Value.pointer (some ⟨b_1, 0, none⟩)), (3, [], Value.int .u64 0)] (by kernel_rfl) (by kernel_rfl) ?_
      refine reg_end [(2, Value.pointer (some ⟨b_1, 0, none⟩)), (3, Value.int .u64 0)] (by kernel_rfl) (by kernel_rfl) ?_
      change WpE _ _ c_towpathref02_Reader_Var_11 _ _ _
      refine wpE_ret (by kernel_rfl) ?_
      obtain ⟨res, hc_res, h⟩ := h
      repeat (first | refine seqQ_ret ?_ | refine blockQ_ret ?_ | refine loopQ_ret ?_ | refine cutQ_ret ?_)
      exact retT (rs := [(Go.ResultVar.cell 2 89), (Go.ResultVar.tmp 3)]) (vs := [Value.agg #[Value.bool res.Gone, Value.slice res.B.ptr res.B.len res.B.cap, Value.int .i64 res.At, Value.int .i64 res.Code], Value.int .u64 0]) (by kernel_rfl) (⟨b_1, 0, [Value.bool res.Gone, Value.slice res.B.ptr res.B.len res.B.cap, Value.int .i64 res.At, Value.int .i64 res.Code], by kernel_rfl, hc_res, (sizeP_of (k := 4) (by kernel_rfl) (by kernel_rfl)), .inl ⟨by kernel_rfl, rfl⟩, ⟨by kernel_rfl, trivial⟩⟩) (by kernel_rfl) ⟨res, 0, rfl, h⟩
    · replace h := h.2 hb
      refine wpE_skip (by kernel_rfl) ?_
      change WpE _ _ c_towpathref02_Reader_Var_13 _ _ _
      refine wpE_seq (x := c_towpathref02_Reader_Var_14) (y := c_towpathref02_Reader_Var_16) (by kernel_rfl) ?_
      refine wpE_region (id := 3) (ops := r_towpathref02_Reader_Var_14) (by kernel_rfl) ?_
      refine reg_run [.plain] 1 [(1, [], Value.pointer (some ⟨b_, 0, none⟩)), (2, [], Value.pointer (some ⟨b_1, 0, none⟩)), (4, [], Value.int .u64 0)] (by kernel_rfl) (by kernel_rfl) ?_
      refine reg_end [(1, Value.pointer (some ⟨b_, 0, none⟩)), (2, Value.pointer (some ⟨b_1, 0, none⟩)), (4, Value.int .u64 0)] (by kernel_rfl) (by kernel_rfl) ?_
      change WpE _ _ c_towpathref02_Reader_Var_16 _ _ _
      refine wpE_seq (x := c_towpathref02_Reader_Var_17) (y := c_towpathref02_Reader_Var_19) (by kernel_rfl) ?_
      refine wpE_region (id := 4) (ops := r_towpathref02_Reader_Var_17) (by kernel_rfl) ?_
      refine reg_run [.plain] 1 [(1, [], Value.pointer (some ⟨b_, 0, none⟩)), (2, [], Value.pointer (some ⟨b_1, 0, none⟩)), (4, [], Value.int .u64 0), (5, [], Value.int .u64 1)] (by kernel_rfl) (by kernel_rfl) ?_
      refine reg_end [(1, Value.pointer (some ⟨b_, 0, none⟩)), (2, Value.pointer (some ⟨b_1, 0, none⟩)), (4, Value.int .u64 0), (5, Value.int .u64 1)] (by kernel_rfl) (by kernel_rfl) ?_
      change WpE _ _ c_towpathref02_Reader_Var_19 _ _ _
      refine wpE_seq (x := c_towpathref02_Reader_Var_20) (y := c_towpathref02_Reader_Var_22) (by kernel_rfl) ?_
      refine wpE_region (id := 5) (ops := r_towpathref02_Reader_Var_20) (by kernel_rfl) ?_
      refine reg_run [.plain] 1 [(1, [], Value.pointer (some ⟨b_, 0, none⟩)), (2, [], Value.pointer (some ⟨b_1, 0, none⟩)), (4, [], Value.int .u64 0), (5, [], Value.int .u64 1), (6, [], Value.int .i64 0)] (by kernel_rfl) (by kernel_rfl) ?_
      refine reg_end [(1, Value.pointer (some ⟨b_, 0, none⟩)), (2, Value.pointer (some ⟨b_1, 0, none⟩)), (4, Value.int .u64 0), (5, Value.int .u64 1), (6, Value.int .i64 0)] (by kernel_rfl) (by kernel_rfl) ?_
      change WpE _ _ c_towpathref02_Reader_Var_22 _ _ _
      refine wpE_block (id := 0) (x := c_towpathref02_Reader_Var_23) (by kernel_rfl) ?_
      obtain ⟨I, μ, h0, hr⟩ := h
      refine wpE_loop (x := c_towpathref02_Reader_Var_24) (by kernel_rfl) (fun m l w => ∃ (n_ : Int) (f : Int) (i : Int), l = [(1, Value.pointer (some ⟨b_, 0, none⟩)), (2, Value.pointer (some ⟨b_1, 0, none⟩)), (4, Value.int .u64 n_), (5, Value.int .u64 f), (6, Value.int .i64 i)] ∧ I n_ f i w ∧ μ n_ f i w = m) (l' := [(1, Value.pointer (some ⟨b_, 0, none⟩)), (2, Value.pointer (some ⟨b_1, 0, none⟩)), (4, Value.int .u64 0), (5, Value.int .u64 1), (6, Value.int .i64 0)]) (Sub.mk (by kernel_rfl)) ⟨0, 1, 0, rfl, h0, rfl⟩ ?_
      rintro _ _ w5 ⟨n_, f, i, rfl, hI, rfl⟩
      obtain ⟨again_, again__h, h⟩ : ∃ again_ : Int → Int → Int → World → Prop, (∀ n_' f' i' w', again_ n_' f' i' w' → I n_' f' i' w' ∧ μ n_' f' i' w' < μ n_ f i w5) ∧ F_towpathref02_Reader_Var_L0 R b_ b_1 again_ n_ f i w5 := ⟨_, fun _ _ _ _ h => h, hr n_ f i w5 hI⟩
      clear h0 hI
      unfold F_towpathref02_Reader_Var_L0 at h
      refine wpE_seq (x := c_towpathref02_Reader_Var_25) (y := c_towpathref02_Reader_Var_67) (by kernel_rfl) ?_
      refine wpE_block (id := 1) (x := c_towpathref02_Reader_Var_26) (by kernel_rfl) ?_
      refine wpE_seq (x := c_towpathref02_Reader_Var_27) (y := c_towpathref02_Reader_Var_36) (by kernel_rfl) ?_
      refine wpE_seq (x := c_towpathref02_Reader_Var_28) (y := c_towpathref02_Reader_Var_30) (by kernel_rfl) ?_
      refine wpE_region (id := 7) (ops := r_towpathref02_Reader_Var_28) (by kernel_rfl) ?_
      refine reg_run [.plain] 1 [(1, [], Value.pointer (some ⟨b_, 0, none⟩)), (2, [], Value.pointer (some ⟨b_1, 0, none⟩)), (4, [], Value.int .u64 n_), (5, [], Value.int .u64 f), (6, [], Value.int .i64 i), (13, [], Value.pointer (some ⟨b_, 2, none⟩))] (by kernel_rfl) (by kernel_rfl) ?_
      obtain ⟨v14, hc, h⟩ := h
      refine reg_load1 (t := 3) (a := (Go.Operand.tmp 13)) (b := b_) (o := 2) (ty := 3) (dst := some 14) (by kernel_rfl) (by kernel_rfl) (by kernel_rfl) hc ?_
      refine reg_run [.plain, .plain, .plain] 5 [(1, [], Value.pointer (some ⟨b_, 0, none⟩)), (2, [], Value.pointer (some ⟨b_1, 0, none⟩)), (4, [], Value.int .u64 n_), (5, [], Value.int .u64 f), (6, [], Value.int .i64 i), (16, [], Value.int .i64 (IntKind.i64.wrap (v14 + i))), (17, [], Value.pointer (some ⟨b_, 1, none⟩))] (by kernel_rfl) (by kernel_rfl) ?_
      obtain ⟨v18, hc, h⟩ := h
      refine reg_load1 (t := 22) (a := (Go.Operand.tmp 17)) (b := b_) (o := 1) (ty := 22) (dst := some 18) (by kernel_rfl) (by kernel_rfl) (by kernel_rfl) hc ?_
      refine reg_run [.plain, .plain] 8 [(1, [], Value.pointer (some ⟨b_, 0, none⟩)), (2, [], Value.pointer (some ⟨b_1, 0, none⟩)), (4, [], Value.int .u64 n_), (5, [], Value.int .u64 f), (6, [], Value.int .i64 i), (20, [], Value.bool (decide ((IntKind.i64.wrap (v14 + i)) ≥ ((v18.len : Nat) : Int))))] (by kernel_rfl) (by kernel_rfl) ?_
      refine reg_end [(1, Value.pointer (some ⟨b_, 0, none⟩)), (2, Value.pointer (some ⟨b_1, 0, none⟩)), (4, Value.int .u64 n_), (5, Value.int .u64 f), (6, Value.int .i64 i), (20, Value.bool (decide ((IntKind.i64.wrap (v14 + i)) ≥ ((v18.len : Nat) : Int))))] (by kernel_rfl) (by kernel_rfl) ?_
      change WpE _ _ c_towpathref02_Reader_Var_30 _ _ _
      refine wpE_cond (o := (Operand.tmp 20)) (b := (decide ((IntKind.i64.wrap (v14 + i)) ≥ ((v18.len : Nat) : Int)))) (x := c_towpathref02_Reader_Var_31) (y := c_towpathref02_Reader_Var_35) (by kernel_rfl) (by kernel_rfl) (fun hb => ?_) (fun hb => ?_)
      · replace h := h.1 hb
        refine wpE_seq (x := c_towpathref02_Reader_Var_32) (y := c_towpathref02_Reader_Var_34) (by kernel_rfl) ?_
        refine wpE_region (id := 8) (ops := r_towpathref02_Reader_Var_32) (by kernel_rfl) ?_
        refine reg_run [] 0 [(1, [], Value.pointer (some ⟨b_, 0, none⟩)), (2, [], Value.pointer (some ⟨b_1, 0, none⟩))] (by kernel_rfl) (by kernel_rfl) ?_
        obtain ⟨v21, hc, h⟩ := h
        refine reg_loadN (t := 89) (a := (Go.Operand.tmp 1)) (b := b_) (o := 0) (ty := 89) (dst := some 21) [Value.bool v21.Gone, Value.slice v21.B.ptr v21.B.len v21.B.cap, Value.int .i64 v21.At, Value.int .i64 v21.Code] (by kernel_rfl) (by kernel_rfl) (by kernel_rfl) (k := 4) (by kernel_rfl) (by kernel_rfl) hc ?_
        refine reg_run [] 1 [(2, [], Value.pointer (some ⟨b_1, 0, none⟩)), (21, [], Value.agg #[Value.bool v21.Gone, Value.slice v21.B.ptr v21.B.len v21.B.cap, Value.int .i64 v21.At, Value.int .i64 v21.Code])] (by kernel_rfl) (by kernel_rfl) ?_
        refine reg_enter (op := (Go.Op.call (Go.Call.mk (Go.Callee.value (Go.Operand.func 79)) #[(Go.Operand.tmp 21), (Go.Operand.const (Go.Value.int Go.IntKind.i64 5))] #[89, 28]))) (ty := 89) (dst := some 22) 79 #[Value.agg #[Value.bool v21.Gone, Value.slice v21.B.ptr v21.B.len v21.B.cap, Value.int .i64 v21.At, Value.int .i64 v21.Code], Value.int .i64 5] (by kernel_rfl) (fun ww => by kernel_rfl) (Calls.mono h ?_)
        rintro _ w6 ⟨v22, rfl, h⟩
        refine ⟨_, rfl, ?_⟩
        refine reg_run [] 2 [(2, [], Value.pointer (some ⟨b_1, 0, none⟩)), (22, [], Value.agg #[Value.bool v22.Gone, Value.slice v22.B.ptr v22.B.len v22.B.cap, Value.int .i64 v22.At, Value.int .i64 v22.Code])] (by kernel_rfl) (by kernel_rfl) ?_
        obtain ⟨hc, h⟩ := h
        refine reg_store (t := 89) (a := (Go.Operand.tmp 2)) (x := (Go.Operand.tmp 22)) (b := b_1) (o := 0) (ty := 0) (dst := none) [Value.bool v22.Gone, Value.slice v22.B.ptr v22.B.len v22.B.cap, Value.int .i64 v22.At, Value.int .i64 v22.Code] (by kernel_rfl) (by kernel_rfl) (by kernel_rfl) (k := 4) (by kernel_rfl) (by kernel_rfl) (by kernel_rfl) hc (fun w7 hw => ?_)
        replace h := h w7 hw
        clear hw
        refine reg_run [.plain] 4 [(2, [], Value.pointer (some ⟨b_1, 0, none⟩)), (3, [], Value.int .u64 0)] (by kernel_rfl) (by kernel_rfl) ?_
        refine reg_end [(2, Value.pointer (some ⟨b_1, 0, none⟩)), (3, Value.int .u64 0)] (by kernel_rfl) (by kernel_rfl) ?_
        change WpE _ _ c_towpathref02_Reader_Var_34 _ _ _
        refine wpE_ret (by kernel_rfl) ?_
        obtain ⟨res1, hc_res1, h⟩ := h
        repeat (first | refine seqQ_ret ?_ | refine blockQ_ret ?_ | refine loopQ_ret ?_ | refine cutQ_ret ?_)
        exact retT (rs := [(Go.ResultVar.cell 2 89), (Go.ResultVar.tmp 3)]) (vs := [Value.agg #[Value.bool res1.Gone, Value.slice res1.B.ptr res1.B.len res1.B.cap, Value.int .i64 res1.At, Value.int .i64 res1.Code], Value.int .u64 0]) (by kernel_rfl) (⟨b_1, 0, [Value.bool res1.Gone, Value.slice res1.B.ptr res1.B.len res1.B.cap, Value.int .i64 res1.At, Value.int .i64 res1.Code], by kernel_rfl, hc_res1, (sizeP_of (k := 4) (by kernel_rfl) (by kernel_rfl)), .inl ⟨by kernel_rfl, rfl⟩, ⟨by kernel_rfl, trivial⟩⟩) (by kernel_rfl) ⟨res1, 0, rfl, h⟩
      · replace h := h.2 hb
        refine wpE_skip (by kernel_rfl) ?_
        change WpE _ _ c_towpathref02_Reader_Var_36 _ _ _
        refine wpE_seq (x := c_towpathref02_Reader_Var_37) (y := c_towpathref02_Reader_Var_39) (by kernel_rfl) ?_
        refine wpE_region (id := 9) (ops := r_towpathref02_Reader_Var_37) (by kernel_rfl) ?_
        refine reg_run [.plain] 1 [(1, [], Value.pointer (some ⟨b_, 0, none⟩)), (2, [], Value.pointer (some ⟨b_1, 0, none⟩)), (4, [], Value.int .u64 n_), (5, [], Value.int .u64 f), (6, [], Value.int .i64 i), (23, [], Value.pointer (some ⟨b_, 1, none⟩))] (by kernel_rfl) (by kernel_rfl) ?_
        obtain ⟨v24, hc, h⟩ := h
        refine reg_load1 (t := 22) (a := (Go.Operand.tmp 23)) (b := b_) (o := 1) (ty := 22) (dst := some 24) (by kernel_rfl) (by kernel_rfl) (by kernel_rfl) hc ?_
        refine reg_run [.plain] 3 [(1, [], Value.pointer (some ⟨b_, 0, none⟩)), (2, [], Value.pointer (some ⟨b_1, 0, none⟩)), (4, [], Value.int .u64 n_), (5, [], Value.int .u64 f), (6, [], Value.int .i64 i), (24, [], Value.slice v24.ptr v24.len v24.cap), (25, [], Value.pointer (some ⟨b_, 2, none⟩))] (by kernel_rfl) (by kernel_rfl) ?_
        obtain ⟨v26, hc, h⟩ := h
        refine reg_load1 (t := 3) (a := (Go.Operand.tmp 25)) (b := b_) (o := 2) (ty := 3) (dst := some 26) (by kernel_rfl) (by kernel_rfl) (by kernel_rfl) hc ?_
        refine reg_run [.plain, .plain] 6 [(1, [], Value.pointer (some ⟨b_, 0, none⟩)), (2, [], Value.pointer (some ⟨b_1, 0, none⟩)), (4, [], Value.int .u64 n_), (5, [], Value.int .u64 f), (6, [], Value.int .i64 i), (24, [], Value.slice v24.ptr v24.len v24.cap), (28, [], Value.int .i64 (IntKind.i64.wrap (v26 + i)))] (by kernel_rfl) (by kernel_rfl) ?_
        obtain ⟨hp_3, h⟩ := h
        refine reg_conv [(1, [], Value.pointer (some ⟨b_, 0, none⟩)), (2, [], Value.pointer (some ⟨b_1, 0, none⟩)), (4, [], Value.int .u64 n_), (5, [], Value.int .u64 f), (6, [], Value.int .i64 i), (24, [], Value.slice (some ⟨(pblk v24.ptr), (poff v24.ptr), none⟩) v24.len v24.cap), (28, [], Value.int .i64 (IntKind.i64.wrap (v26 + i)))] (congrArg (fun pp => ([(1, [], Value.pointer (some ⟨b_, 0, none⟩)), (2, [], Value.pointer (some ⟨b_1, 0, none⟩)), (4, [], Value.int .u64 n_), (5, [], Value.int .u64 f), (6, [], Value.int .i64 i), (24, [], Value.slice pp v24.len v24.cap), (28, [], Value.int .i64 (IntKind.i64.wrap (v26 + i)))] : GEnv)) hp_3) ?_
        obtain ⟨h0, h1, h⟩ := h
        refine reg_indexS1 (t := 22) (e := 5) (x := (Go.Operand.tmp 24)) (ix := (Go.Operand.tmp 28)) (b := (pblk v24.ptr)) (o := (poff v24.ptr)) (l := v24.len) (c := v24.cap) (k := .i64) (j := (IntKind.i64.wrap (v26 + i))) (ty := 0) (dst := some 29) (by kernel_rfl) (by kernel_rfl) (by kernel_rfl) (by kernel_rfl) (by kernel_rfl) h0 h1 ?_
        refine reg_run [] 7 [(1, [], Value.pointer (some ⟨b_, 0, none⟩)), (2, [], Value.pointer (some ⟨b_1, 0, none⟩)), (4, [], Value.int .u64 n_), (5, [], Value.int .u64 f), (6, [], Value.int .i64 i), (29, [], Value.pointer (some ⟨(pblk v24.ptr), (poff v24.ptr) + (IntKind.i64.wrap (v26 + i)).toNat, none⟩))] (by kernel_rfl) (by kernel_rfl) ?_
        obtain ⟨c, hc, h⟩ := h
        refine reg_load1 (t := 5) (a := (Go.Operand.tmp 29)) (b := (pblk v24.ptr)) (o := ((poff v24.ptr) + (IntKind.i64.wrap (v26 + i)).toNat)) (ty := 5) (dst := some 30) (by kernel_rfl) (by kernel_rfl) (by kernel_rfl) hc ?_
        refine reg_run [.plain] 9 [(1, [], Value.pointer (some ⟨b_, 0, none⟩)), (2, [], Value.pointer (some ⟨b_1, 0, none⟩)), (4, [], Value.int .u64 n_), (5, [], Value.int .u64 f), (6, [], Value.int .i64 i), (7, [], Value.int .u8 c)] (by kernel_rfl) (by kernel_rfl) ?_
        refine reg_end [(1, Value.pointer (some ⟨b_, 0, none⟩)), (2, Value.pointer (some ⟨b_1, 0, none⟩)), (4, Value.int .u64 n_), (5, Value.int .u64 f), (6, Value.int .i64 i), (7, Value.int .u8 c)] (by kernel_rfl) (by kernel_rfl) ?_
        change WpE _ _ c_towpathref02_Reader_Var_39 _ _ _
        refine wpE_seq (x := c_towpathref02_Reader_Var_40) (y := c_towpathref02_Reader_Var_49) (by kernel_rfl) ?_
        refine wpE_seq (x := c_towpathref02_Reader_Var_41) (y := c_towpathref02_Reader_Var_43) (by kernel_rfl) ?_
        refine wpE_region (id := 10) (ops := r_towpathref02_Reader_Var_41) (by kernel_rfl) ?_
        refine reg_run [.plain, .plain, .plain, .plain, .plain, .pick, .plain, .plain, .plain, .plain, .plain, .plain, .pick, .pick] 14 [(1, [], Value.pointer (some ⟨b_, 0, none⟩)), (2, [], Value.pointer (some ⟨b_1, 0, none⟩)), (4, [], Value.int .u64 n_), (5, [], Value.int .u64 f), (6, [], Value.int .i64 i), (7, [], Value.int .u8 c), (44, [], Value.bool (((i == 9) && (decide (c > 1))) || ((decide (i > 0)) && (c == 0))))] (by kernel_rfl) (by kernel_rfl) ?_
        refine reg_end [(1, Value.pointer (some ⟨b_, 0, none⟩)), (2, Value.pointer (some ⟨b_1, 0, none⟩)), (4, Value.int .u64 n_), (5, Value.int .u64 f), (6, Value.int .i64 i), (7, Value.int .u8 c), (44, Value.bool (((i == 9) && (decide (c > 1))) || ((decide (i > 0)) && (c == 0))))] (by kernel_rfl) (by kernel_rfl) ?_
        change WpE _ _ c_towpathref02_Reader_Var_43 _ _ _
        refine wpE_cond (o := (Operand.tmp 44)) (b := (((i == 9) && (decide (c > 1))) || ((decide (i > 0)) && (c == 0)))) (x := c_towpathref02_Reader_Var_44) (y := c_towpathref02_Reader_Var_48) (by kernel_rfl) (by kernel_rfl) (fun hb => ?_) (fun hb => ?_)
        · replace h := h.1 hb
          refine wpE_seq (x := c_towpathref02_Reader_Var_45) (y := c_towpathref02_Reader_Var_47) (by kernel_rfl) ?_
          refine wpE_region (id := 11) (ops := r_towpathref02_Reader_Var_45) (by kernel_rfl) ?_
          refine reg_run [] 0 [(1, [], Value.pointer (some ⟨b_, 0, none⟩)), (2, [], Value.pointer (some ⟨b_1, 0, none⟩))] (by kernel_rfl) (by kernel_rfl) ?_
          obtain ⟨v45, hc, h⟩ := h
          refine reg_loadN (t := 89) (a := (Go.Operand.tmp 1)) (b := b_) (o := 0) (ty := 89) (dst := some 45) [Value.bool v45.Gone, Value.slice v45.B.ptr v45.B.len v45.B.cap, Value.int .i64 v45.At, Value.int .i64 v45.Code] (by kernel_rfl) (by kernel_rfl) (by kernel_rfl) (k := 4) (by kernel_rfl) (by kernel_rfl) hc ?_
          refine reg_run [] 1 [(2, [], Value.pointer (some ⟨b_1, 0, none⟩)), (45, [], Value.agg #[Value.bool v45.Gone, Value.slice v45.B.ptr v45.B.len v45.B.cap, Value.int .i64 v45.At, Value.int .i64 v45.Code])] (by kernel_rfl) (by kernel_rfl) ?_
          refine reg_enter (op := (Go.Op.call (Go.Call.mk (Go.Callee.value (Go.Operand.func 79)) #[(Go.Operand.tmp 45), (Go.Operand.const (Go.Value.int Go.IntKind.i64 4))] #[89, 28]))) (ty := 89) (dst := some 46) 79 #[Value.agg #[Value.bool v45.Gone, Value.slice v45.B.ptr v45.B.len v45.B.cap, Value.int .i64 v45.At, Value.int .i64 v45.Code], Value.int .i64 4] (by kernel_rfl) (fun ww => by kernel_rfl) (Calls.mono h ?_)
          rintro _ w8 ⟨v46, rfl, h⟩
          refine ⟨_, rfl, ?_⟩
          refine reg_run [] 2 [(2, [], Value.pointer (some ⟨b_1, 0, none⟩)), (46, [], Value.agg #[Value.bool v46.Gone, Value.slice v46.B.ptr v46.B.len v46.B.cap, Value.int .i64 v46.At, Value.int .i64 v46.Code])] (by kernel_rfl) (by kernel_rfl) ?_
          obtain ⟨hc, h⟩ := h
          refine reg_store (t := 89) (a := (Go.Operand.tmp 2)) (x := (Go.Operand.tmp 46)) (b := b_1) (o := 0) (ty := 0) (dst := none) [Value.bool v46.Gone, Value.slice v46.B.ptr v46.B.len v46.B.cap, Value.int .i64 v46.At, Value.int .i64 v46.Code] (by kernel_rfl) (by kernel_rfl) (by kernel_rfl) (k := 4) (by kernel_rfl) (by kernel_rfl) (by kernel_rfl) hc (fun w9 hw => ?_)
          replace h := h w9 hw
          clear hw
          refine reg_run [.plain] 4 [(2, [], Value.pointer (some ⟨b_1, 0, none⟩)), (3, [], Value.int .u64 0)] (by kernel_rfl) (by kernel_rfl) ?_
          refine reg_end [(2, Value.pointer (some ⟨b_1, 0, none⟩)), (3, Value.int .u64 0)] (by kernel_rfl) (by kernel_rfl) ?_
          change WpE _ _ c_towpathref02_Reader_Var_47 _ _ _
          refine wpE_ret (by kernel_rfl) ?_
          obtain ⟨res2, hc_res2, h⟩ := h
          repeat (first | refine seqQ_ret ?_ | refine blockQ_ret ?_ | refine loopQ_ret ?_ | refine cutQ_ret ?_)
          exact retT (rs := [(Go.ResultVar.cell 2 89), (Go.ResultVar.tmp 3)]) (vs := [Value.agg #[Value.bool res2.Gone, Value.slice res2.B.ptr res2.B.len res2.B.cap, Value.int .i64 res2.At, Value.int .i64 res2.Code], Value.int .u64 0]) (by kernel_rfl) (⟨b_1, 0, [Value.bool res2.Gone, Value.slice res2.B.ptr res2.B.len res2.B.cap, Value.int .i64 res2.At, Value.int .i64 res2.Code], by kernel_rfl, hc_res2, (sizeP_of (k := 4) (by kernel_rfl) (by kernel_rfl)), .inl ⟨by kernel_rfl, rfl⟩, ⟨by kernel_rfl, trivial⟩⟩) (by kernel_rfl) ⟨res2, 0, rfl, h⟩
        · replace h := h.2 hb
          refine wpE_skip (by kernel_rfl) ?_
          change WpE _ _ c_towpathref02_Reader_Var_49 _ _ _
          refine wpE_seq (x := c_towpathref02_Reader_Var_50) (y := c_towpathref02_Reader_Var_52) (by kernel_rfl) ?_
          refine wpE_region (id := 12) (ops := r_towpathref02_Reader_Var_50) (by kernel_rfl) ?_
          refine reg_run [.plain, .plain, .plain, .plain, .plain, .plain, .plain, .plain] 8 [(1, [], Value.pointer (some ⟨b_, 0, none⟩)), (2, [], Value.pointer (some ⟨b_1, 0, none⟩)), (4, [], Value.int .u64 (IntKind.u64.wrap (n_ + (IntKind.u64.wrap (f * (IntKind.u64.wrap (Int.tmod c 128))))))), (5, [], Value.int .u64 f), (6, [], Value.int .i64 i), (7, [], Value.int .u8 c)] (by kernel_rfl) (by kernel_rfl) ?_
          refine reg_end [(1, Value.pointer (some ⟨b_, 0, none⟩)), (2, Value.pointer (some ⟨b_1, 0, none⟩)), (4, Value.int .u64 (IntKind.u64.wrap (n_ + (IntKind.u64.wrap (f * (IntKind.u64.wrap (Int.tmod c 128))))))), (5, Value.int .u64 f), (6, Value.int .i64 i), (7, Value.int .u8 c)] (by kernel_rfl) (by kernel_rfl) ?_
          change WpE _ _ c_towpathref02_Reader_Var_52 _ _ _
          refine wpE_seq (x := c_towpathref02_Reader_Var_53) (y := c_towpathref02_Reader_Var_55) (by kernel_rfl) ?_
          refine wpE_region (id := 13) (ops := r_towpathref02_Reader_Var_53) (by kernel_rfl) ?_
          refine reg_run [.plain, .plain, .plain] 3 [(1, [], Value.pointer (some ⟨b_, 0, none⟩)), (2, [], Value.pointer (some ⟨b_1, 0, none⟩)), (4, [], Value.int .u64 (IntKind.u64.wrap (n_ + (IntKind.u64.wrap (f * (IntKind.u64.wrap (Int.tmod c 128))))))), (5, [], Value.int .u64 (IntKind.u64.wrap (128 * f))), (6, [], Value.int .i64 i), (7, [], Value.int .u8 c)] (by kernel_rfl) (by kernel_rfl) ?_
          refine reg_end [(1, Value.pointer (some ⟨b_, 0, none⟩)), (2, Value.pointer (some ⟨b_1, 0, none⟩)), (4, Value.int .u64 (IntKind.u64.wrap (n_ + (IntKind.u64.wrap (f * (IntKind.u64.wrap (Int.tmod c 128))))))), (5, Value.int .u64 (IntKind.u64.wrap (128 * f))), (6, Value.int .i64 i), (7, Value.int .u8 c)] (by kernel_rfl) (by kernel_rfl) ?_
          change WpE _ _ c_towpathref02_Reader_Var_55 _ _ _
          refine wpE_seq (x := c_towpathref02_Reader_Var_56) (y := c_towpathref02_Reader_Var_58) (by kernel_rfl) ?_
          refine wpE_region (id := 14) (ops := r_towpathref02_Reader_Var_56) (by kernel_rfl) ?_
          refine reg_run [.plain, .plain] 2 [(1, [], Value.pointer (some ⟨b_, 0, none⟩)), (2, [], Value.pointer (some ⟨b_1, 0, none⟩)), (4, [], Value.int .u64 (IntKind.u64.wrap (n_ + (IntKind.u64.wrap (f * (IntKind.u64.wrap (Int.tmod c 128))))))), (5, [], Value.int .u64 (IntKind.u64.wrap (128 * f))), (6, [], Value.int .i64 i), (57, [], Value.bool (decide (c < 128)))] (by kernel_rfl) (by kernel_rfl) ?_
          refine reg_end [(1, Value.pointer (some ⟨b_, 0, none⟩)), (2, Value.pointer (some ⟨b_1, 0, none⟩)), (4, Value.int .u64 (IntKind.u64.wrap (n_ + (IntKind.u64.wrap (f * (IntKind.u64.wrap (Int.tmod c 128))))))), (5, Value.int .u64 (IntKind.u64.wrap (128 * f))), (6, Value.int .i64 i), (57, Value.bool (decide (c < 128)))] (by kernel_rfl) (by kernel_rfl) ?_
          change WpE _ _ c_towpathref02_Reader_Var_58 _ _ _
          refine wpE_cond (o := (Operand.tmp 57)) (b := (decide (c < 128))) (x := c_towpathref02_Reader_Var_59) (y := c_towpathref02_Reader_Var_66) (by kernel_rfl) (by kernel_rfl) (fun hb => ?_) (fun hb => ?_)
          · replace h := h.1 hb
            refine wpE_seq (x := c_towpathref02_Reader_Var_60) (y := c_towpathref02_Reader_Var_62) (by kernel_rfl) ?_
            refine wpE_region (id := 15) (ops := r_towpathref02_Reader_Var_60) (by kernel_rfl) ?_
            refine reg_run [.plain] 1 [(1, [], Value.pointer (some ⟨b_, 0, none⟩)), (2, [], Value.pointer (some ⟨b_1, 0, none⟩)), (4, [], Value.int .u64 (IntKind.u64.wrap (n_ + (IntKind.u64.wrap (f * (IntKind.u64.wrap (Int.tmod c 128))))))), (6, [], Value.int .i64 i), (58, [], Value.pointer (some ⟨b_, 2, none⟩))] (by kernel_rfl) (by kernel_rfl) ?_
            obtain ⟨v59, hc, h⟩ := h
            refine reg_load1 (t := 3) (a := (Go.Operand.tmp 58)) (b := b_) (o := 2) (ty := 3) (dst := some 59) (by kernel_rfl) (by kernel_rfl) (by kernel_rfl) hc ?_
            refine reg_run [.plain, .plain, .plain, .plain] 6 [(1, [], Value.pointer (some ⟨b_, 0, none⟩)), (2, [], Value.pointer (some ⟨b_1, 0, none⟩)), (4, [], Value.int .u64 (IntKind.u64.wrap (n_ + (IntKind.u64.wrap (f * (IntKind.u64.wrap (Int.tmod c 128))))))), (62, [], Value.int .i64 (IntKind.i64.wrap ((IntKind.i64.wrap (v59 + i)) + 1))), (63, [], Value.pointer (some ⟨b_, 2, none⟩))] (by kernel_rfl) (by kernel_rfl) ?_
            obtain ⟨hc, h⟩ := h
            refine reg_store (t := 3) (a := (Go.Operand.tmp 63)) (x := (Go.Operand.tmp 62)) (b := b_) (o := 2) (ty := 0) (dst := none) [Value.int .i64 (IntKind.i64.wrap ((IntKind.i64.wrap (v59 + i)) + 1))] (by kernel_rfl) (by kernel_rfl) (by kernel_rfl) (k := 1) (by kernel_rfl) (by kernel_rfl) (by kernel_rfl) hc (fun w10 hw => ?_)
            replace h := h w10 hw
            clear hw
            refine reg_end [(1, Value.pointer (some ⟨b_, 0, none⟩)), (2, Value.pointer (some ⟨b_1, 0, none⟩)), (4, Value.int .u64 (IntKind.u64.wrap (n_ + (IntKind.u64.wrap (f * (IntKind.u64.wrap (Int.tmod c 128)))))))] (by kernel_rfl) (by kernel_rfl) ?_
            change WpE _ _ c_towpathref02_Reader_Var_62 _ _ _
            refine wpE_seq (x := c_towpathref02_Reader_Var_63) (y := c_towpathref02_Reader_Var_65) (by kernel_rfl) ?_
            refine wpE_region (id := 16) (ops := r_towpathref02_Reader_Var_63) (by kernel_rfl) ?_
            refine reg_run [] 0 [(1, [], Value.pointer (some ⟨b_, 0, none⟩)), (2, [], Value.pointer (some ⟨b_1, 0, none⟩)), (4, [], Value.int .u64 (IntKind.u64.wrap (n_ + (IntKind.u64.wrap (f * (IntKind.u64.wrap (Int.tmod c 128)))))))] (by kernel_rfl) (by kernel_rfl) ?_
            obtain ⟨v64, hc, h⟩ := h
            refine reg_loadN (t := 89) (a := (Go.Operand.tmp 1)) (b := b_) (o := 0) (ty := 89) (dst := some 64) [Value.bool v64.Gone, Value.slice v64.B.ptr v64.B.len v64.B.cap, Value.int .i64 v64.At, Value.int .i64 v64.Code] (by kernel_rfl) (by kernel_rfl) (by kernel_rfl) (k := 4) (by kernel_rfl) (by kernel_rfl) hc ?_
            refine reg_run [.plain] 2 [(2, [], Value.pointer (some ⟨b_1, 0, none⟩)), (64, [], Value.agg #[Value.bool v64.Gone, Value.slice v64.B.ptr v64.B.len v64.B.cap, Value.int .i64 v64.At, Value.int .i64 v64.Code]), (65, [], Value.int .u64 (IntKind.u64.wrap (n_ + (IntKind.u64.wrap (f * (IntKind.u64.wrap (Int.tmod c 128)))))))] (by kernel_rfl) (by kernel_rfl) ?_
            obtain ⟨hc, h⟩ := h
            refine reg_store (t := 89) (a := (Go.Operand.tmp 2)) (x := (Go.Operand.tmp 64)) (b := b_1) (o := 0) (ty := 0) (dst := none) [Value.bool v64.Gone, Value.slice v64.B.ptr v64.B.len v64.B.cap, Value.int .i64 v64.At, Value.int .i64 v64.Code] (by kernel_rfl) (by kernel_rfl) (by kernel_rfl) (k := 4) (by kernel_rfl) (by kernel_rfl) (by kernel_rfl) hc (fun w11 hw => ?_)
            replace h := h w11 hw
            clear hw
            refine reg_run [.plain] 4 [(2, [], Value.pointer (some ⟨b_1, 0, none⟩)), (3, [], Value.int .u64 (IntKind.u64.wrap (n_ + (IntKind.u64.wrap (f * (IntKind.u64.wrap (Int.tmod c 128)))))))] (by kernel_rfl) (by kernel_rfl) ?_
            refine reg_end [(2, Value.pointer (some ⟨b_1, 0, none⟩)), (3, Value.int .u64 (IntKind.u64.wrap (n_ + (IntKind.u64.wrap (f * (IntKind.u64.wrap (Int.tmod c 128)))))))] (by kernel_rfl) (by kernel_rfl) ?_
            change WpE _ _ c_towpathref02_Reader_Var_65 _ _ _
            refine wpE_ret (by kernel_rfl) ?_
            obtain ⟨res3, hc_res3, h⟩ := h
            repeat (first | refine seqQ_ret ?_ | refine blockQ_ret ?_ | refine loopQ_ret ?_ | refine cutQ_ret ?_)
            exact retT (rs := [(Go.ResultVar.cell 2 89), (Go.ResultVar.tmp 3)]) (vs := [Value.agg #[Value.bool res3.Gone, Value.slice res3.B.ptr res3.B.len res3.B.cap, Value.int .i64 res3.At, Value.int .i64 res3.Code], Value.int .u64 (IntKind.u64.wrap (n_ + (IntKind.u64.wrap (f * (IntKind.u64.wrap (Int.tmod c 128))))))]) (by kernel_rfl) (⟨b_1, 0, [Value.bool res3.Gone, Value.slice res3.B.ptr res3.B.len res3.B.cap, Value.int .i64 res3.At, Value.int .i64 res3.Code], by kernel_rfl, hc_res3, (sizeP_of (k := 4) (by kernel_rfl) (by kernel_rfl)), .inl ⟨by kernel_rfl, rfl⟩, ⟨by kernel_rfl, trivial⟩⟩) (by kernel_rfl) ⟨res3, (IntKind.u64.wrap (n_ + (IntKind.u64.wrap (f * (IntKind.u64.wrap (Int.tmod c 128)))))), rfl, h⟩
          · replace h := h.2 hb
            refine wpE_skip (by kernel_rfl) ?_
            change WpE _ _ c_towpathref02_Reader_Var_67 _ _ _
            refine wpE_region (id := 6) (ops := r_towpathref02_Reader_Var_67) (by kernel_rfl) ?_
            refine reg_run [.plain, .plain, .plain] 3 [(1, [], Value.pointer (some ⟨b_, 0, none⟩)), (2, [], Value.pointer (some ⟨b_1, 0, none⟩)), (4, [], Value.int .u64 (IntKind.u64.wrap (n_ + (IntKind.u64.wrap (f * (IntKind.u64.wrap (Int.tmod c 128))))))), (5, [], Value.int .u64 (IntKind.u64.wrap (128 * f))), (6, [], Value.int .i64 (IntKind.i64.wrap (i + 1)))] (by kernel_rfl) (by kernel_rfl) ?_
            refine reg_end [(1, Value.pointer (some ⟨b_, 0, none⟩)), (2, Value.pointer (some ⟨b_1, 0, none⟩)), (4, Value.int .u64 (IntKind.u64.wrap (n_ + (IntKind.u64.wrap (f * (IntKind.u64.wrap (Int.tmod c 128))))))), (5, Value.int .u64 (IntKind.u64.wrap (128 * f))), (6, Value.int .i64 (IntKind.i64.wrap (i + 1)))] (by kernel_rfl) (by kernel_rfl) ?_
            have hb_ := again__h _ _ _ _ h
            exact ⟨_, hb_.2, [(1, Value.pointer (some ⟨b_, 0, none⟩)), (2, Value.pointer (some ⟨b_1, 0, none⟩)), (4, Value.int .u64 (IntKind.u64.wrap (n_ + (IntKind.u64.wrap (f * (IntKind.u64.wrap (Int.tmod c 128))))))), (5, Value.int .u64 (IntKind.u64.wrap (128 * f))), (6, Value.int .i64 (IntKind.i64.wrap (i + 1)))], Sub.mk (by kernel_rfl), (IntKind.u64.wrap (n_ + (IntKind.u64.wrap (f * (IntKind.u64.wrap (Int.tmod c 128)))))), (IntKind.u64.wrap (128 * f)), (IntKind.i64.wrap (i + 1)), rfl, hb_.1, rfl⟩
  · rintro e w' ⟨v, rfl, r0, r1, rfl, h⟩; exact ⟨r0, r1, rfl, h⟩

/-! ### (towpath/towpathref02.Reader).End (function 47) -/
noncomputable def c_towpathref02_Reader_End_0 : Code := (Try.f47.body).getD Code.skip
noncomputable def c_towpathref02_Reader_End_1 : Code := Code.l c_towpathref02_Reader_End_0
noncomputable def r_towpathref02_Reader_End_1 : Array Oper := Code.ops c_towpathref02_Reader_End_1
noncomputable def c_towpathref02_Reader_End_3 : Code := Code.r c_towpathref02_Reader_End_0
noncomputable def c_towpathref02_Reader_End_4 : Code := Code.l c_towpathref02_Reader_End_3
noncomputable def c_towpathref02_Reader_End_5 : Code := Code.l c_towpathref02_Reader_End_4
noncomputable def r_towpathref02_Reader_End_5 : Array Oper := Code.ops c_towpathref02_Reader_End_5
noncomputable def c_towpathref02_Reader_End_7 : Code := Code.r c_towpathref02_Reader_End_4
noncomputable def c_towpathref02_Reader_End_8 : Code := Code.l c_towpathref02_Reader_End_7
noncomputable def c_towpathref02_Reader_End_9 : Code := Code.l c_towpathref02_Reader_End_8
noncomputable def r_towpathref02_Reader_End_9 : Array Oper := Code.ops c_towpathref02_Reader_End_9
noncomputable def c_towpathref02_Reader_End_11 : Code := Code.r c_towpathref02_Reader_End_8
noncomputable def c_towpathref02_Reader_End_12 : Code := Code.r c_towpathref02_Reader_End_7
noncomputable def c_towpathref02_Reader_End_13 : Code := Code.r c_towpathref02_Reader_End_3
noncomputable def c_towpathref02_Reader_End_14 : Code := Code.l c_towpathref02_Reader_End_13
noncomputable def c_towpathref02_Reader_End_15 : Code := Code.l c_towpathref02_Reader_End_14
noncomputable def r_towpathref02_Reader_End_15 : Array Oper := Code.ops c_towpathref02_Reader_End_15
noncomputable def c_towpathref02_Reader_End_17 : Code := Code.r c_towpathref02_Reader_End_14
noncomputable def c_towpathref02_Reader_End_18 : Code := Code.l c_towpathref02_Reader_End_17
noncomputable def c_towpathref02_Reader_End_19 : Code := Code.l c_towpathref02_Reader_End_18
noncomputable def r_towpathref02_Reader_End_19 : Array Oper := Code.ops c_towpathref02_Reader_End_19
noncomputable def c_towpathref02_Reader_End_21 : Code := Code.r c_towpathref02_Reader_End_18
noncomputable def c_towpathref02_Reader_End_22 : Code := Code.r c_towpathref02_Reader_End_17
noncomputable def c_towpathref02_Reader_End_23 : Code := Code.r c_towpathref02_Reader_End_13
noncomputable def c_towpathref02_Reader_End_24 : Code := Code.l c_towpathref02_Reader_End_23
noncomputable def c_towpathref02_Reader_End_25 : Code := Code.l c_towpathref02_Reader_End_24
noncomputable def r_towpathref02_Reader_End_25 : Array Oper := Code.ops c_towpathref02_Reader_End_25
noncomputable def c_towpathref02_Reader_End_27 : Code := Code.r c_towpathref02_Reader_End_24
noncomputable def c_towpathref02_Reader_End_28 : Code := Code.l c_towpathref02_Reader_End_27
noncomputable def c_towpathref02_Reader_End_29 : Code := Code.l c_towpathref02_Reader_End_28
noncomputable def r_towpathref02_Reader_End_29 : Array Oper := Code.ops c_towpathref02_Reader_End_29
noncomputable def c_towpathref02_Reader_End_31 : Code := Code.r c_towpathref02_Reader_End_28
noncomputable def c_towpathref02_Reader_End_32 : Code := Code.r c_towpathref02_Reader_End_27
noncomputable def c_towpathref02_Reader_End_33 : Code := Code.r c_towpathref02_Reader_End_23
noncomputable def c_towpathref02_Reader_End_34 : Code := Code.l c_towpathref02_Reader_End_33
noncomputable def r_towpathref02_Reader_End_34 : Array Oper := Code.ops c_towpathref02_Reader_End_34
noncomputable def c_towpathref02_Reader_End_36 : Code := Code.r c_towpathref02_Reader_End_33

set_option maxRecDepth 100000 in
set_option maxHeartbeats 4000000 in
theorem S_towpathref02_Reader_End {r : T_towpathref02_Reader} {w : World} {R : Int → World → Prop} (h : F_towpathref02_Reader_End r R w) : C_towpathref02_Reader_End r w R := by
  unfold F_towpathref02_Reader_End at h
  unfold C_towpathref02_Reader_End
  refine Calls.mono (calls_of_wpE (args := [Value.agg #[Value.bool r.Gone, Value.slice r.B.ptr r.B.len r.B.cap, Value.int .i64 r.At, Value.int .i64 r.Code]]) (R := fun v w' => ∃ (r0 : Int), v = Value.int .i64 r0 ∧ R r0 w') Try.func47 (c := c_towpathref02_Reader_End_0) (by kernel_rfl) 16 (by kernel_rfl) (by kernel_rfl) [(0, Value.agg #[Value.bool r.Gone, Value.slice r.B.ptr r.B.len r.B.cap, Value.int .i64 r.At, Value.int .i64 r.Code])] (by kernel_rfl) ?_) ?_
  · refine wpE_seq (x := c_towpathref02_Reader_End_1) (y := c_towpathref02_Reader_End_3) (by kernel_rfl) ?_
    refine wpE_region (id := 0) (ops := r_towpathref02_Reader_End_1) (by kernel_rfl) ?_
    refine reg_run [] 0 [(0, [], Value.agg #[Value.bool r.Gone, Value.slice r.B.ptr r.B.len r.B.cap, Value.int .i64 r.At, Value.int .i64 r.Code])] (by kernel_rfl) (by kernel_rfl) ?_
    refine reg_new (op := (Go.Op.box 89 (Go.Operand.tmp 0))) (ty := 0) (dst := some 1) (fun bb => Value.pointer (some ⟨bb, 0, none⟩)) (Obj.cells ([Value.bool r.Gone, Value.slice r.B.ptr r.B.len r.B.cap, Value.int .i64 r.At, Value.int .i64 r.Code]).toArray ty_towpathref02_Reader (0, 0)) (by kernel_rfl) (by kernel_rfl) (fun b_ w1 hb hw => ?_)
    replace h := h b_ w1 hb hw
    clear hb hw
    refine reg_run [.plain] 2 [(1, [], Value.pointer (some ⟨b_, 0, none⟩))] (by kernel_rfl) (by kernel_rfl) ?_
    refine reg_end [(1, Value.pointer (some ⟨b_, 0, none⟩))] (by kernel_rfl) (by kernel_rfl) ?_
    change WpE _ _ c_towpathref02_Reader_End_3 _ _ _
    refine wpE_seq (x := c_towpathref02_Reader_End_4) (y := c_towpathref02_Reader_End_13) (by kernel_rfl) ?_
    refine wpE_seq (x := c_towpathref02_Reader_End_5) (y := c_towpathref02_Reader_End_7) (by kernel_rfl) ?_
    refine wpE_region (id := 1) (ops := r_towpathref02_Reader_End_5) (by kernel_rfl) ?_
    refine reg_run [.plain] 1 [(1, [], Value.pointer (some ⟨b_, 0, none⟩)), (3, [], Value.pointer (some ⟨b_, 0, none⟩))] (by kernel_rfl) (by kernel_rfl) ?_
    obtain ⟨v4, hc, h⟩ := h
    refine reg_load1 (t := 4) (a := (Go.Operand.tmp 3)) (b := b_) (o := 0) (ty := 4) (dst := some 4) (by kernel_rfl) (by kernel_rfl) (by kernel_rfl) hc ?_
    refine reg_end [(1, Value.pointer (some ⟨b_, 0, none⟩)), (4, Value.bool v4)] (by kernel_rfl) (by kernel_rfl) ?_
    change WpE _ _ c_towpathref02_Reader_End_7 _ _ _
    refine wpE_cond (o := (Operand.tmp 4)) (b := v4) (x := c_towpathref02_Reader_End_8) (y := c_towpathref02_Reader_End_12) (by kernel_rfl) (by kernel_rfl) (fun hb => ?_) (fun hb => ?_)
    · replace h := h.1 hb
      refine wpE_seq (x := c_towpathref02_Reader_End_9) (y := c_towpathref02_Reader_End_11) (by kernel_rfl) ?_
      refine wpE_region (id := 2) (ops := r_towpathref02_Reader_End_9) (by kernel_rfl) ?_
      refine reg_run [.plain] 1 [(2, [], Value.int .i64 2)] (by kernel_rfl) (by kernel_rfl) ?_
      refine reg_end [(2, Value.int .i64 2)] (by kernel_rfl) (by kernel_rfl) ?_
      change WpE _ _ c_towpathref02_Reader_End_11 _ _ _
      refine wpE_ret (by kernel_rfl) ?_
      repeat (first | refine seqQ_ret ?_ | refine blockQ_ret ?_ | refine loopQ_ret ?_ | refine cutQ_ret ?_)
      exact retS (rs := [(Go.ResultVar.tmp 2)]) (v := Value.int .i64 2) (by kernel_rfl) (⟨by kernel_rfl, trivial⟩) ⟨2, rfl, h⟩
    · replace h := h.2 hb
      refine wpE_skip (by kernel_rfl) ?_
      change WpE _ _ c_towpathref02_Reader_End_13 _ _ _
      refine wpE_seq (x := c_towpathref02_Reader_End_14) (y := c_towpathref02_Reader_End_23) (by kernel_rfl) ?_
      refine wpE_seq (x := c_towpathref02_Reader_End_15) (y := c_towpathref02_Reader_End_17) (by kernel_rfl) ?_
      refine wpE_region (id := 3) (ops := r_towpathref02_Reader_End_15) (by kernel_rfl) ?_
      refine reg_run [.plain] 1 [(1, [], Value.pointer (some ⟨b_, 0, none⟩)), (5, [], Value.pointer (some ⟨b_, 3, none⟩))] (by kernel_rfl) (by kernel_rfl) ?_
      obtain ⟨v6, hc, h⟩ := h
      refine reg_load1 (t := 28) (a := (Go.Operand.tmp 5)) (b := b_) (o := 3) (ty := 28) (dst := some 6) (by kernel_rfl) (by kernel_rfl) (by kernel_rfl) hc ?_
      refine reg_run [.plain] 3 [(1, [], Value.pointer (some ⟨b_, 0, none⟩)), (7, [], Value.bool (v6 != 0))] (by kernel_rfl) (by kernel_rfl) ?_
      refine reg_end [(1, Value.pointer (some ⟨b_, 0, none⟩)), (7, Value.bool (v6 != 0))] (by kernel_rfl) (by kernel_rfl) ?_
      change WpE _ _ c_towpathref02_Reader_End_17 _ _ _
      refine wpE_cond (o := (Operand.tmp 7)) (b := (v6 != 0)) (x := c_towpathref02_Reader_End_18) (y := c_towpathref02_Reader_End_22) (by kernel_rfl) (by kernel_rfl) (fun hb => ?_) (fun hb => ?_)
      · replace h := h.1 hb
        refine wpE_seq (x := c_towpathref02_Reader_End_19) (y := c_towpathref02_Reader_End_21) (by kernel_rfl) ?_
        refine wpE_region (id := 4) (ops := r_towpathref02_Reader_End_19) (by kernel_rfl) ?_
        refine reg_run [.plain] 1 [(8, [], Value.pointer (some ⟨b_, 3, none⟩))] (by kernel_rfl) (by kernel_rfl) ?_
        obtain ⟨v9, hc, h⟩ := h
        refine reg_load1 (t := 28) (a := (Go.Operand.tmp 8)) (b := b_) (o := 3) (ty := 28) (dst := some 9) (by kernel_rfl) (by kernel_rfl) (by kernel_rfl) hc ?_
        refine reg_run [.plain] 3 [(2, [], Value.int .i64 v9)] (by kernel_rfl) (by kernel_rfl) ?_
        refine reg_end [(2, Value.int .i64 v9)] (by kernel_rfl) (by kernel_rfl) ?_
        change WpE _ _ c_towpathref02_Reader_End_21 _ _ _
        refine wpE_ret (by kernel_rfl) ?_
        repeat (first | refine seqQ_ret ?_ | refine blockQ_ret ?_ | refine loopQ_ret ?_ | refine cutQ_ret ?_)
        exact retS (rs := [(Go.ResultVar.tmp 2)]) (v := Value.int .i64 v9) (by kernel_rfl) (⟨by kernel_rfl, trivial⟩) ⟨v9, rfl, h⟩
      · replace h := h.2 hb
        refine wpE_skip (by kernel_rfl) ?_
        change WpE _ _ c_towpathref02_Reader_End_23 _ _ _
        refine wpE_seq (x := c_towpathref02_Reader_End_24) (y := c_towpathref02_Reader_End_33) (by kernel_rfl) ?_
        refine wpE_seq (x := c_towpathref02_Reader_End_25) (y := c_towpathref02_Reader_End_27) (by kernel_rfl) ?_
        refine wpE_region (id := 5) (ops := r_towpathref02_Reader_End_25) (by kernel_rfl) ?_
        refine reg_run [.plain] 1 [(1, [], Value.pointer (some ⟨b_, 0, none⟩)), (10, [], Value.pointer (some ⟨b_, 2, none⟩))] (by kernel_rfl) (by kernel_rfl) ?_
        obtain ⟨v11, hc, h⟩ := h
        refine reg_load1 (t := 3) (a := (Go.Operand.tmp 10)) (b := b_) (o := 2) (ty := 3) (dst := some 11) (by kernel_rfl) (by kernel_rfl) (by kernel_rfl) hc ?_
        refine reg_run [.plain] 3 [(11, [], Value.int .i64 v11), (12, [], Value.pointer (some ⟨b_, 1, none⟩))] (by kernel_rfl) (by kernel_rfl) ?_
        obtain ⟨v13, hc, h⟩ := h
        refine reg_load1 (t := 22) (a := (Go.Operand.tmp 12)) (b := b_) (o := 1) (ty := 22) (dst := some 13) (by kernel_rfl) (by kernel_rfl) (by kernel_rfl) hc ?_
        refine reg_run [.plain, .plain] 6 [(15, [], Value.bool (decide (v11 < ((v13.len : Nat) : Int))))] (by kernel_rfl) (by kernel_rfl) ?_
        refine reg_end [(15, Value.bool (decide (v11 < ((v13.len : Nat) : Int))))] (by kernel_rfl) (by kernel_rfl) ?_
        change WpE _ _ c_towpathref02_Reader_End_27 _ _ _
        refine wpE_cond (o := (Operand.tmp 15)) (b := (decide (v11 < ((v13.len : Nat) : Int)))) (x := c_towpathref02_Reader_End_28) (y := c_towpathref02_Reader_End_32) (by kernel_rfl) (by kernel_rfl) (fun hb => ?_) (fun hb => ?_)
        · replace h := h.1 hb
          refine wpE_seq (x := c_towpathref02_Reader_End_29) (y := c_towpathref02_Reader_End_31) (by kernel_rfl) ?_
          refine wpE_region (id := 6) (ops := r_towpathref02_Reader_End_29) (by kernel_rfl) ?_
          refine reg_run [.plain] 1 [(2, [], Value.int .i64 4)] (by kernel_rfl) (by kernel_rfl) ?_
          refine reg_end [(2, Value.int .i64 4)] (by kernel_rfl) (by kernel_rfl) ?_
          change WpE _ _ c_towpathref02_Reader_End_31 _ _ _
          refine wpE_ret (by kernel_rfl) ?_
          repeat (first | refine seqQ_ret ?_ | refine blockQ_ret ?_ | refine loopQ_ret ?_ | refine cutQ_ret ?_)
          exact retS (rs := [(Go.ResultVar.tmp 2)]) (v := Value.int .i64 4) (by kernel_rfl) (⟨by kernel_rfl, trivial⟩) ⟨4, rfl, h⟩
        · replace h := h.2 hb
          refine wpE_skip (by kernel_rfl) ?_
          change WpE _ _ c_towpathref02_Reader_End_33 _ _ _
          refine wpE_seq (x := c_towpathref02_Reader_End_34) (y := c_towpathref02_Reader_End_36) (by kernel_rfl) ?_
          refine wpE_region (id := 7) (ops := r_towpathref02_Reader_End_34) (by kernel_rfl) ?_
          refine reg_run [.plain] 1 [(2, [], Value.int .i64 0)] (by kernel_rfl) (by kernel_rfl) ?_
          refine reg_end [(2, Value.int .i64 0)] (by kernel_rfl) (by kernel_rfl) ?_
          change WpE _ _ c_towpathref02_Reader_End_36 _ _ _
          refine wpE_ret (by kernel_rfl) ?_
          repeat (first | refine seqQ_ret ?_ | refine blockQ_ret ?_ | refine loopQ_ret ?_ | refine cutQ_ret ?_)
          exact retS (rs := [(Go.ResultVar.tmp 2)]) (v := Value.int .i64 0) (by kernel_rfl) (⟨by kernel_rfl, trivial⟩) ⟨0, rfl, h⟩
  · rintro e w' ⟨v, rfl, r0, rfl, h⟩; exact ⟨r0, rfl, h⟩

/-! ### (towpath/towpathref02.Reader).dead (function 78) -/
noncomputable def c_towpathref02_Reader_dead_0 : Code := (Try.f78.body).getD Code.skip
noncomputable def c_towpathref02_Reader_dead_1 : Code := Code.l c_towpathref02_Reader_dead_0
noncomputable def r_towpathref02_Reader_dead_1 : Array Oper := Code.ops c_towpathref02_Reader_dead_1
noncomputable def c_towpathref02_Reader_dead_3 : Code := Code.r c_towpathref02_Reader_dead_0
noncomputable def c_towpathref02_Reader_dead_4 : Code := Code.l c_towpathref02_Reader_dead_3
noncomputable def r_towpathref02_Reader_dead_4 : Array Oper := Code.ops c_towpathref02_Reader_dead_4
noncomputable def c_towpathref02_Reader_dead_6 : Code := Code.r c_towpathref02_Reader_dead_3

set_option maxRecDepth 100000 in
set_option maxHeartbeats 4000000 in
theorem S_towpathref02_Reader_dead {r : T_towpathref02_Reader} {w : World} {R : Bool → World → Prop} (h : F_towpathref02_Reader_dead r R w) : C_towpathref02_Reader_dead r w R := by
  unfold F_towpathref02_Reader_dead at h
  unfold C_towpathref02_Reader_dead
  refine Calls.mono (calls_of_wpE (args := [Value.agg #[Value.bool r.Gone, Value.slice r.B.ptr r.B.len r.B.cap, Value.int .i64 r.At, Value.int .i64 r.Code]]) (R := fun v w' => ∃ (r0 : Bool), v = Value.bool r0 ∧ R r0 w') Try.func78 (c := c_towpathref02_Reader_dead_0) (by kernel_rfl) 10 (by kernel_rfl) (by kernel_rfl) [(0, Value.agg #[Value.bool r.Gone, Value.slice r.B.ptr r.B.len r.B.cap, Value.int .i64 r.At, Value.int .i64 r.Code])] (by kernel_rfl) ?_) ?_
  · refine wpE_seq (x := c_towpathref02_Reader_dead_1) (y := c_towpathref02_Reader_dead_3) (by kernel_rfl) ?_
    refine wpE_region (id := 0) (ops := r_towpathref02_Reader_dead_1) (by kernel_rfl) ?_
    refine reg_run [] 0 [(0, [], Value.agg #[Value.bool r.Gone, Value.slice r.B.ptr r.B.len r.B.cap, Value.int .i64 r.At, Value.int .i64 r.Code])] (by kernel_rfl) (by kernel_rfl) ?_
    refine reg_new (op := (Go.Op.box 89 (Go.Operand.tmp 0))) (ty := 0) (dst := some 1) (fun bb => Value.pointer (some ⟨bb, 0, none⟩)) (Obj.cells ([Value.bool r.Gone, Value.slice r.B.ptr r.B.len r.B.cap, Value.int .i64 r.At, Value.int .i64 r.Code]).toArray ty_towpathref02_Reader (0, 0)) (by kernel_rfl) (by kernel_rfl) (fun b_ w1 hb hw => ?_)
    replace h := h b_ w1 hb hw
    clear hb hw
    refine reg_run [.plain] 2 [(1, [], Value.pointer (some ⟨b_, 0, none⟩))] (by kernel_rfl) (by kernel_rfl) ?_
    refine reg_end [(1, Value.pointer (some ⟨b_, 0, none⟩))] (by kernel_rfl) (by kernel_rfl) ?_
    change WpE _ _ c_towpathref02_Reader_dead_3 _ _ _
    refine wpE_seq (x := c_towpathref02_Reader_dead_4) (y := c_towpathref02_Reader_dead_6) (by kernel_rfl) ?_
    refine wpE_region (id := 1) (ops := r_towpathref02_Reader_dead_4) (by kernel_rfl) ?_
    refine reg_run [.plain] 1 [(1, [], Value.pointer (some ⟨b_, 0, none⟩)), (3, [], Value.pointer (some ⟨b_, 0, none⟩))] (by kernel_rfl) (by kernel_rfl) ?_
    obtain ⟨v4, hc, h⟩ := h
    refine reg_load1 (t := 4) (a := (Go.Operand.tmp 3)) (b := b_) (o := 0) (ty := 4) (dst := some 4) (by kernel_rfl) (by kernel_rfl) (by kernel_rfl) hc ?_
    refine reg_run [.plain, .plain] 4 [(5, [], Value.bool v4), (6, [(5, false)], Value.pointer (some ⟨b_, 3, none⟩))] (by kernel_rfl) (by kernel_rfl) ?_
    refine reg_split 5 v4 (by kernel_rfl) (fun hb => ?_) (fun hb => ?_)
    · replace h := h.1 hb
      refine reg_run [] 4 [(5, [], Value.bool true), (6, [], undef)] (by kernel_rfl) (by kernel_rfl) ?_
      refine reg_run [.skip, .skip, .plain, .plain] 8 [(2, [], Value.bool true)] (by kernel_rfl) (by kernel_rfl) ?_
      refine reg_end [(2, Value.bool true)] (by kernel_rfl) (by kernel_rfl) ?_
      change WpE _ _ c_towpathref02_Reader_dead_6 _ _ _
      refine wpE_ret (by kernel_rfl) ?_
      repeat (first | refine seqQ_ret ?_ | refine blockQ_ret ?_ | refine loopQ_ret ?_ | refine cutQ_ret ?_)
      exact retS (rs := [(Go.ResultVar.tmp 2)]) (v := Value.bool true) (by kernel_rfl) (⟨by kernel_rfl, trivial⟩) ⟨true, rfl, h⟩
    · replace h := h.2 hb
      refine reg_run [] 4 [(5, [], Value.bool false), (6, [], Value.pointer (some ⟨b_, 3, none⟩))] (by kernel_rfl) (by kernel_rfl) ?_
      refine reg_run [] 4 [(5, [], Value.bool false), (6, [], Value.pointer (some ⟨b_, 3, none⟩))] (by kernel_rfl) (by kernel_rfl) ?_
      obtain ⟨v7, hc, h⟩ := h
      refine reg_load1 (t := 28) (a := (Go.Operand.tmp 6)) (b := b_) (o := 3) (ty := 28) (dst := some 7) (by kernel_rfl) (by kernel_rfl) (by kernel_rfl) hc ?_
      refine reg_run [.sure, .plain, .plain] 8 [(2, [], Value.bool (v7 != 0))] (by kernel_rfl) (by kernel_rfl) ?_
      refine reg_end [(2, Value.bool (v7 != 0))] (by kernel_rfl) (by kernel_rfl) ?_
      change WpE _ _ c_towpathref02_Reader_dead_6 _ _ _
      refine wpE_ret (by kernel_rfl) ?_
      repeat (first | refine seqQ_ret ?_ | refine blockQ_ret ?_ | refine loopQ_ret ?_ | refine cutQ_ret ?_)
      exact retS (rs := [(Go.ResultVar.tmp 2)]) (v := Value.bool (v7 != 0)) (by kernel_rfl) (⟨by kernel_rfl, trivial⟩) ⟨(v7 != 0), rfl, h⟩
  · rintro e w' ⟨v, rfl, r0, rfl, h⟩; exact ⟨r0, rfl, h⟩

/-! ### (towpath/towpathref02.Reader).wrong (function 79) -/
noncomputable def c_towpathref02_Reader_wrong_0 : Code := (Try.f79.body).getD Code.skip
noncomputable def c_towpathref02_Reader_wrong_1 : Code := Code.l c_towpathref02_Reader_wrong_0
noncomputable def r_towpathref02_Reader_wrong_1 : Array Oper := Code.ops c_towpathref02_Reader_wrong_1
noncomputable def c_towpathref02_Reader_wrong_3 : Code := Code.r c_towpathref02_Reader_wrong_0
noncomputable def c_towpathref02_Reader_wrong_4 : Code := Code.l c_towpathref02_Reader_wrong_3
noncomputable def r_towpathref02_Reader_wrong_4 : Array Oper := Code.ops c_towpathref02_Reader_wrong_4
noncomputable def c_towpathref02_Reader_wrong_6 : Code := Code.r c_towpathref02_Reader_wrong_3
noncomputable def c_towpathref02_Reader_wrong_7 : Code := Code.l c_towpathref02_Reader_wrong_6
noncomputable def r_towpathref02_Reader_wrong_7 : Array Oper := Code.ops c_towpathref02_Reader_wrong_7
noncomputable def c_towpathref02_Reader_wrong_9 : Code := Code.r c_towpathref02_Reader_wrong_6

set_option maxRecDepth 100000 in
set_option maxHeartbeats 4000000 in
theorem S_towpathref02_Reader_wrong {r : T_towpathref02_Reader} {e : Int} {w : World} {R : T_towpathref02_Reader → World → Prop} (h : F_towpathref02_Reader_wrong r e R w) : C_towpathref02_Reader_wrong r e w R := by
  unfold F_towpathref02_Reader_wrong at h
  unfold C_towpathref02_Reader_wrong
  refine Calls.mono (calls_of_wpE (args := [Value.agg #[Value.bool r.Gone, Value.slice r.B.ptr r.B.len r.B.cap, Value.int .i64 r.At, Value.int .i64 r.Code], Value.int .i64 e]) (R := fun v w' => ∃ (r0 : T_towpathref02_Reader), v = Value.agg #[Value.bool r0.Gone, Value.slice r0.B.ptr r0.B.len r0.B.cap, Value.int .i64 r0.At, Value.int .i64 r0.Code] ∧ R r0 w') Try.func79 (c := c_towpathref02_Reader_wrong_0) (by kernel_rfl) 8 (by kernel_rfl) (by kernel_rfl) [(0, Value.agg #[Value.bool r.Gone, Value.slice r.B.ptr r.B.len r.B.cap, Value.int .i64 r.At, Value.int .i64 r.Code]), (1, Value.int .i64 e)] (by kernel_rfl) ?_) ?_
  · refine wpE_seq (x := c_towpathref02_Reader_wrong_1) (y := c_towpathref02_Reader_wrong_3) (by kernel_rfl) ?_
    refine wpE_region (id := 0) (ops := r_towpathref02_Reader_wrong_1) (by kernel_rfl) ?_
    refine reg_run [] 0 [(0, [], Value.agg #[Value.bool r.Gone, Value.slice r.B.ptr r.B.len r.B.cap, Value.int .i64 r.At, Value.int .i64 r.Code]), (1, [], Value.int .i64 e)] (by kernel_rfl) (by kernel_rfl) ?_
    refine reg_new (op := (Go.Op.box 89 (Go.Operand.tmp 0))) (ty := 0) (dst := some 2) (fun bb => Value.pointer (some ⟨bb, 0, none⟩)) (Obj.cells ([Value.bool r.Gone, Value.slice r.B.ptr r.B.len r.B.cap, Value.int .i64 r.At, Value.int .i64 r.Code]).toArray ty_towpathref02_Reader (0, 0)) (by kernel_rfl) (by kernel_rfl) (fun b_ w1 hb hw => ?_)
    replace h := h b_ w1 hb hw
    clear hb hw
    refine reg_run [] 1 [(1, [], Value.int .i64 e), (2, [], Value.pointer (some ⟨b_, 0, none⟩))] (by kernel_rfl) (by kernel_rfl) ?_
    refine reg_new (op := (Go.Op.alloc 89)) (ty := 0) (dst := some 4) (fun bb => Value.pointer (some ⟨bb, 0, none⟩)) (Obj.cells ([Value.bool false, Value.slice none 0 0, Value.int .i64 0, Value.int .i64 0]).toArray ty_towpathref02_Reader (0, 0)) (by kernel_rfl) (by kernel_rfl) (fun b_1 w2 hb hw => ?_)
    replace h := h b_1 w2 hb hw
    clear hb hw
    refine reg_end [(1, Value.int .i64 e), (2, Value.pointer (some ⟨b_, 0, none⟩)), (4, Value.pointer (some ⟨b_1, 0, none⟩))] (by kernel_rfl) (by kernel_rfl) ?_
    change WpE _ _ c_towpathref02_Reader_wrong_3 _ _ _
    refine wpE_seq (x := c_towpathref02_Reader_wrong_4) (y := c_towpathref02_Reader_wrong_6) (by kernel_rfl) ?_
    refine wpE_region (id := 1) (ops := r_towpathref02_Reader_wrong_4) (by kernel_rfl) ?_
    refine reg_run [.plain, .plain] 2 [(2, [], Value.pointer (some ⟨b_, 0, none⟩)), (4, [], Value.pointer (some ⟨b_1, 0, none⟩)), (5, [], Value.int .i64 e), (6, [], Value.pointer (some ⟨b_, 3, none⟩))] (by kernel_rfl) (by kernel_rfl) ?_
    obtain ⟨hc, h⟩ := h
    refine reg_store (t := 28) (a := (Go.Operand.tmp 6)) (x := (Go.Operand.tmp 5)) (b := b_) (o := 3) (ty := 0) (dst := none) [Value.int .i64 e] (by kernel_rfl) (by kernel_rfl) (by kernel_rfl) (k := 1) (by kernel_rfl) (by kernel_rfl) (by kernel_rfl) hc (fun w3 hw => ?_)
    replace h := h w3 hw
    clear hw
    refine reg_end [(2, Value.pointer (some ⟨b_, 0, none⟩)), (4, Value.pointer (some ⟨b_1, 0, none⟩))] (by kernel_rfl) (by kernel_rfl) ?_
    change WpE _ _ c_towpathref02_Reader_wrong_6 _ _ _
    refine wpE_seq (x := c_towpathref02_Reader_wrong_7) (y := c_towpathref02_Reader_wrong_9) (by kernel_rfl) ?_
    refine wpE_region (id := 2) (ops := r_towpathref02_Reader_wrong_7) (by kernel_rfl) ?_
    refine reg_run [] 0 [(2, [], Value.pointer (some ⟨b_, 0, none⟩)), (4, [], Value.pointer (some ⟨b_1, 0, none⟩))] (by kernel_rfl) (by kernel_rfl) ?_
    obtain ⟨v7, hc, h⟩ := h
    refine reg_loadN (t := 89) (a := (Go.Operand.tmp 2)) (b := b_) (o := 0) (ty := 89) (dst := some 7) [Value.bool v7.Gone, Value.slice v7.B.ptr v7.B.len v7.B.cap, Value.int .i64 v7.At, Value.int .i64 v7.Code] (by kernel_rfl) (by kernel_rfl) (by kernel_rfl) (k := 4) (by kernel_rfl) (by kernel_rfl) hc ?_
    refine reg_run [] 1 [(4, [], Value.pointer (some ⟨b_1, 0, none⟩)), (7, [], Value.agg #[Value.bool v7.Gone, Value.slice v7.B.ptr v7.B.len v7.B.cap, Value.int .i64 v7.At, Value.int .i64 v7.Code])] (by kernel_rfl) (by kernel_rfl) ?_
    obtain ⟨hc, h⟩ := h
    refine reg_store (t := 89) (a := (Go.Operand.tmp 4)) (x := (Go.Operand.tmp 7)) (b := b_1) (o := 0) (ty := 0) (dst := none) [Value.bool v7.Gone, Value.slice v7.B.ptr v7.B.len v7.B.cap, Value.int .i64 v7.At, Value.int .i64 v7.Code] (by kernel_rfl) (by kernel_rfl) (by kernel_rfl) (k := 4) (by kernel_rfl) (by kernel_rfl) (by kernel_rfl) hc (fun w4 hw => ?_)
    replace h := h w4 hw
    clear hw
    refine reg_end [(4, Value.pointer (some ⟨b_1, 0, none⟩))] (by kernel_rfl) (by kernel_rfl) ?_
    change WpE _ _ c_towpathref02_Reader_wrong_9 _ _ _
    refine wpE_ret (by kernel_rfl) ?_
    obtain ⟨res, hc_res, h⟩ := h
    repeat (first | refine seqQ_ret ?_ | refine blockQ_ret ?_ | refine loopQ_ret ?_ | refine cutQ_ret ?_)
    exact retS (rs := [(Go.ResultVar.cell 4 89)]) (v := Value.agg #[Value.bool res.Gone, Value.slice res.B.ptr res.B.len res.B.cap, Value.int .i64 res.At, Value.int .i64 res.Code]) (by kernel_rfl) (⟨b_1, 0, [Value.bool res.Gone, Value.slice res.B.ptr res.B.len res.B.cap, Value.int .i64 res.At, Value.int .i64 res.Code], by kernel_rfl, hc_res, (sizeP_of (k := 4) (by kernel_rfl) (by kernel_rfl)), .inl ⟨by kernel_rfl, rfl⟩, trivial⟩) ⟨res, rfl, h⟩
  · rintro e w' ⟨v, rfl, r0, rfl, h⟩; exact ⟨r0, rfl, h⟩

/-! ### (towpath/towpathref02.Reader).Text (function 80) -/
noncomputable def c_towpathref02_Reader_Text_0 : Code := (Try.f80.body).getD Code.skip
noncomputable def c_towpathref02_Reader_Text_1 : Code := Code.l c_towpathref02_Reader_Text_0
noncomputable def r_towpathref02_Reader_Text_1 : Array Oper := Code.ops c_towpathref02_Reader_Text_1
noncomputable def c_towpathref02_Reader_Text_3 : Code := Code.r c_towpathref02_Reader_Text_0
noncomputable def c_towpathref02_Reader_Text_4 : Code := Code.l c_towpathref02_Reader_Text_3
noncomputable def c_towpathref02_Reader_Text_5 : Code := Code.l c_towpathref02_Reader_Text_4
noncomputable def r_towpathref02_Reader_Text_5 : Array Oper := Code.ops c_towpathref02_Reader_Text_5
noncomputable def c_towpathref02_Reader_Text_7 : Code := Code.r c_towpathref02_Reader_Text_4
noncomputable def c_towpathref02_Reader_Text_8 : Code := Code.l c_towpathref02_Reader_Text_7
noncomputable def c_towpathref02_Reader_Text_9 : Code := Code.l c_towpathref02_Reader_Text_8
noncomputable def r_towpathref02_Reader_Text_9 : Array Oper := Code.ops c_towpathref02_Reader_Text_9
noncomputable def c_towpathref02_Reader_Text_11 : Code := Code.r c_towpathref02_Reader_Text_8
noncomputable def c_towpathref02_Reader_Text_12 : Code := Code.r c_towpathref02_Reader_Text_7
noncomputable def c_towpathref02_Reader_Text_13 : Code := Code.r c_towpathref02_Reader_Text_3
noncomputable def c_towpathref02_Reader_Text_14 : Code := Code.l c_towpathref02_Reader_Text_13
noncomputable def c_towpathref02_Reader_Text_15 : Code := Code.l c_towpathref02_Reader_Text_14
noncomputable def r_towpathref02_Reader_Text_15 : Array Oper := Code.ops c_towpathref02_Reader_Text_15
noncomputable def c_towpathref02_Reader_Text_17 : Code := Code.r c_towpathref02_Reader_Text_14
noncomputable def c_towpathref02_Reader_Text_18 : Code := Code.l c_towpathref02_Reader_Text_17
noncomputable def c_towpathref02_Reader_Text_19 : Code := Code.l c_towpathref02_Reader_Text_18
noncomputable def r_towpathref02_Reader_Text_19 : Array Oper := Code.ops c_towpathref02_Reader_Text_19
noncomputable def c_towpathref02_Reader_Text_21 : Code := Code.r c_towpathref02_Reader_Text_18
noncomputable def c_towpathref02_Reader_Text_22 : Code := Code.r c_towpathref02_Reader_Text_17
noncomputable def c_towpathref02_Reader_Text_23 : Code := Code.r c_towpathref02_Reader_Text_13
noncomputable def c_towpathref02_Reader_Text_24 : Code := Code.l c_towpathref02_Reader_Text_23
noncomputable def r_towpathref02_Reader_Text_24 : Array Oper := Code.ops c_towpathref02_Reader_Text_24
noncomputable def c_towpathref02_Reader_Text_26 : Code := Code.r c_towpathref02_Reader_Text_23
noncomputable def c_towpathref02_Reader_Text_27 : Code := Code.l c_towpathref02_Reader_Text_26
noncomputable def c_towpathref02_Reader_Text_28 : Code := Code.l c_towpathref02_Reader_Text_27
noncomputable def r_towpathref02_Reader_Text_28 : Array Oper := Code.ops c_towpathref02_Reader_Text_28
noncomputable def c_towpathref02_Reader_Text_30 : Code := Code.r c_towpathref02_Reader_Text_27
noncomputable def c_towpathref02_Reader_Text_31 : Code := Code.l c_towpathref02_Reader_Text_30
noncomputable def c_towpathref02_Reader_Text_32 : Code := Code.l c_towpathref02_Reader_Text_31
noncomputable def r_towpathref02_Reader_Text_32 : Array Oper := Code.ops c_towpathref02_Reader_Text_32
noncomputable def c_towpathref02_Reader_Text_34 : Code := Code.r c_towpathref02_Reader_Text_31
noncomputable def c_towpathref02_Reader_Text_35 : Code := Code.r c_towpathref02_Reader_Text_30
noncomputable def c_towpathref02_Reader_Text_36 : Code := Code.r c_towpathref02_Reader_Text_26
noncomputable def c_towpathref02_Reader_Text_37 : Code := Code.l c_towpathref02_Reader_Text_36
noncomputable def c_towpathref02_Reader_Text_38 : Code := Code.l c_towpathref02_Reader_Text_37
noncomputable def r_towpathref02_Reader_Text_38 : Array Oper := Code.ops c_towpathref02_Reader_Text_38
noncomputable def c_towpathref02_Reader_Text_40 : Code := Code.r c_towpathref02_Reader_Text_37
noncomputable def c_towpathref02_Reader_Text_41 : Code := Code.l c_towpathref02_Reader_Text_40
noncomputable def c_towpathref02_Reader_Text_42 : Code := Code.l c_towpathref02_Reader_Text_41
noncomputable def r_towpathref02_Reader_Text_42 : Array Oper := Code.ops c_towpathref02_Reader_Text_42
noncomputable def c_towpathref02_Reader_Text_44 : Code := Code.r c_towpathref02_Reader_Text_41
noncomputable def c_towpathref02_Reader_Text_45 : Code := Code.r c_towpathref02_Reader_Text_40
noncomputable def c_towpathref02_Reader_Text_46 : Code := Code.r c_towpathref02_Reader_Text_36
noncomputable def c_towpathref02_Reader_Text_47 : Code := Code.l c_towpathref02_Reader_Text_46
noncomputable def c_towpathref02_Reader_Text_48 : Code := Code.l c_towpathref02_Reader_Text_47
noncomputable def r_towpathref02_Reader_Text_48 : Array Oper := Code.ops c_towpathref02_Reader_Text_48
noncomputable def c_towpathref02_Reader_Text_50 : Code := Code.r c_towpathref02_Reader_Text_47
noncomputable def c_towpathref02_Reader_Text_51 : Code := Code.l c_towpathref02_Reader_Text_50
noncomputable def c_towpathref02_Reader_Text_52 : Code := Code.l c_towpathref02_Reader_Text_51
noncomputable def r_towpathref02_Reader_Text_52 : Array Oper := Code.ops c_towpathref02_Reader_Text_52
noncomputable def c_towpathref02_Reader_Text_54 : Code := Code.r c_towpathref02_Reader_Text_51
noncomputable def c_towpathref02_Reader_Text_55 : Code := Code.r c_towpathref02_Reader_Text_50
noncomputable def c_towpathref02_Reader_Text_56 : Code := Code.r c_towpathref02_Reader_Text_46
noncomputable def c_towpathref02_Reader_Text_57 : Code := Code.l c_towpathref02_Reader_Text_56
noncomputable def r_towpathref02_Reader_Text_57 : Array Oper := Code.ops c_towpathref02_Reader_Text_57
noncomputable def c_towpathref02_Reader_Text_59 : Code := Code.r c_towpathref02_Reader_Text_56
noncomputable def c_towpathref02_Reader_Text_60 : Code := Code.l c_towpathref02_Reader_Text_59
noncomputable def r_towpathref02_Reader_Text_60 : Array Oper := Code.ops c_towpathref02_Reader_Text_60
noncomputable def c_towpathref02_Reader_Text_62 : Code := Code.r c_towpathref02_Reader_Text_59
noncomputable def c_towpathref02_Reader_Text_63 : Code := Code.l c_towpathref02_Reader_Text_62
noncomputable def r_towpathref02_Reader_Text_63 : Array Oper := Code.ops c_towpathref02_Reader_Text_63
noncomputable def c_towpathref02_Reader_Text_65 : Code := Code.r c_towpathref02_Reader_Text_62

set_option maxRecDepth 100000 in
set_option maxHeartbeats 4000000 in
theorem S_towpathref02_Reader_Text {r : T_towpathref02_Reader} {most : Int} {w : World} {R : T_towpathref02_Reader → ByteArray → World → Prop} (h : F_towpathref02_Reader_Text r most R w) : C_towpathref02_Reader_Text r most w R := by
  unfold F_towpathref02_Reader_Text at h
  unfold C_towpathref02_Reader_Text
  refine Calls.mono (calls_of_wpE (args := [Value.agg #[Value.bool r.Gone, Value.slice r.B.ptr r.B.len r.B.cap, Value.int .i64 r.At, Value.int .i64 r.Code], Value.int .i64 most]) (R := fun v w' => ∃ (r0 : T_towpathref02_Reader) (r1 : ByteArray), v = Value.tuple #[Value.agg #[Value.bool r0.Gone, Value.slice r0.B.ptr r0.B.len r0.B.cap, Value.int .i64 r0.At, Value.int .i64 r0.Code], Value.string r1] ∧ R r0 r1 w') Try.func80 (c := c_towpathref02_Reader_Text_0) (by kernel_rfl) 63 (by kernel_rfl) (by kernel_rfl) [(0, Value.agg #[Value.bool r.Gone, Value.slice r.B.ptr r.B.len r.B.cap, Value.int .i64 r.At, Value.int .i64 r.Code]), (1, Value.int .i64 most)] (by kernel_rfl) ?_) ?_
  · refine wpE_seq (x := c_towpathref02_Reader_Text_1) (y := c_towpathref02_Reader_Text_3) (by kernel_rfl) ?_
    refine wpE_region (id := 0) (ops := r_towpathref02_Reader_Text_1) (by kernel_rfl) ?_
    refine reg_run [] 0 [(0, [], Value.agg #[Value.bool r.Gone, Value.slice r.B.ptr r.B.len r.B.cap, Value.int .i64 r.At, Value.int .i64 r.Code]), (1, [], Value.int .i64 most)] (by kernel_rfl) (by kernel_rfl) ?_
    refine reg_new (op := (Go.Op.box 89 (Go.Operand.tmp 0))) (ty := 0) (dst := some 2) (fun bb => Value.pointer (some ⟨bb, 0, none⟩)) (Obj.cells ([Value.bool r.Gone, Value.slice r.B.ptr r.B.len r.B.cap, Value.int .i64 r.At, Value.int .i64 r.Code]).toArray ty_towpathref02_Reader (0, 0)) (by kernel_rfl) (by kernel_rfl) (fun b_ w1 hb hw => ?_)
    replace h := h b_ w1 hb hw
    clear hb hw
    refine reg_run [] 1 [(1, [], Value.int .i64 most), (2, [], Value.pointer (some ⟨b_, 0, none⟩))] (by kernel_rfl) (by kernel_rfl) ?_
    refine reg_new (op := (Go.Op.alloc 89)) (ty := 0) (dst := some 4) (fun bb => Value.pointer (some ⟨bb, 0, none⟩)) (Obj.cells ([Value.bool false, Value.slice none 0 0, Value.int .i64 0, Value.int .i64 0]).toArray ty_towpathref02_Reader (0, 0)) (by kernel_rfl) (by kernel_rfl) (fun b_1 w2 hb hw => ?_)
    replace h := h b_1 w2 hb hw
    clear hb hw
    refine reg_run [.plain] 3 [(1, [], Value.int .i64 most), (2, [], Value.pointer (some ⟨b_, 0, none⟩)), (4, [], Value.pointer (some ⟨b_1, 0, none⟩))] (by kernel_rfl) (by kernel_rfl) ?_
    refine reg_end [(1, Value.int .i64 most), (2, Value.pointer (some ⟨b_, 0, none⟩)), (4, Value.pointer (some ⟨b_1, 0, none⟩))] (by kernel_rfl) (by kernel_rfl) ?_
    change WpE _ _ c_towpathref02_Reader_Text_3 _ _ _
    refine wpE_seq (x := c_towpathref02_Reader_Text_4) (y := c_towpathref02_Reader_Text_13) (by kernel_rfl) ?_
    refine wpE_seq (x := c_towpathref02_Reader_Text_5) (y := c_towpathref02_Reader_Text_7) (by kernel_rfl) ?_
    refine wpE_region (id := 1) (ops := r_towpathref02_Reader_Text_5) (by kernel_rfl) ?_
    refine reg_run [] 0 [(1, [], Value.int .i64 most), (2, [], Value.pointer (some ⟨b_, 0, none⟩)), (4, [], Value.pointer (some ⟨b_1, 0, none⟩))] (by kernel_rfl) (by kernel_rfl) ?_
    obtain ⟨v9, hc, h⟩ := h
    refine reg_loadN (t := 89) (a := (Go.Operand.tmp 2)) (b := b_) (o := 0) (ty := 89) (dst := some 9) [Value.bool v9.Gone, Value.slice v9.B.ptr v9.B.len v9.B.cap, Value.int .i64 v9.At, Value.int .i64 v9.Code] (by kernel_rfl) (by kernel_rfl) (by kernel_rfl) (k := 4) (by kernel_rfl) (by kernel_rfl) hc ?_
    refine reg_run [] 1 [(1, [], Value.int .i64 most), (2, [], Value.pointer (some ⟨b_, 0, none⟩)), (4, [], Value.pointer (some ⟨b_1, 0, none⟩)), (9, [], Value.agg #[Value.bool v9.Gone, Value.slice v9.B.ptr v9.B.len v9.B.cap, Value.int .i64 v9.At, Value.int .i64 v9.Code])] (by kernel_rfl) (by kernel_rfl) ?_
    refine reg_enter (op := (Go.Op.call (Go.Call.mk (Go.Callee.value (Go.Operand.func 78)) #[(Go.Operand.tmp 9)] #[89]))) (ty := 4) (dst := some 10) 78 #[Value.agg #[Value.bool v9.Gone, Value.slice v9.B.ptr v9.B.len v9.B.cap, Value.int .i64 v9.At, Value.int .i64 v9.Code]] (by kernel_rfl) (fun ww => by kernel_rfl) (Calls.mono h ?_)
    rintro _ w3 ⟨v10, rfl, h⟩
    refine ⟨_, rfl, ?_⟩
    refine reg_end [(1, Value.int .i64 most), (2, Value.pointer (some ⟨b_, 0, none⟩)), (4, Value.pointer (some ⟨b_1, 0, none⟩)), (10, Value.bool v10)] (by kernel_rfl) (by kernel_rfl) ?_
    change WpE _ _ c_towpathref02_Reader_Text_7 _ _ _
    refine wpE_cond (o := (Operand.tmp 10)) (b := v10) (x := c_towpathref02_Reader_Text_8) (y := c_towpathref02_Reader_Text_12) (by kernel_rfl) (by kernel_rfl) (fun hb => ?_) (fun hb => ?_)
    · replace h := h.1 hb
      refine wpE_seq (x := c_towpathref02_Reader_Text_9) (y := c_towpathref02_Reader_Text_11) (by kernel_rfl) ?_
      refine wpE_region (id := 2) (ops := r_towpathref02_Reader_Text_9) (by kernel_rfl) ?_
      refine reg_run [] 0 [(2, [], Value.pointer (some ⟨b_, 0, none⟩)), (4, [], Value.pointer (some ⟨b_1, 0, none⟩))] (by kernel_rfl) (by kernel_rfl) ?_
      obtain ⟨v11, hc, h⟩ := h
      refine reg_loadN (t := 89) (a := (Go.Operand.tmp 2)) (b := b_) (o := 0) (ty := 89) (dst := some 11) [Value.bool v11.Gone, Value.slice v11.B.ptr v11.B.len v11.B.cap, Value.int .i64 v11.At, Value.int .i64 v11.Code] (by kernel_rfl) (by kernel_rfl) (by kernel_rfl) (k := 4) (by kernel_rfl) (by kernel_rfl) hc ?_
      refine reg_run [] 1 [(4, [], Value.pointer (some ⟨b_1, 0, none⟩)), (11, [], Value.agg #[Value.bool v11.Gone, Value.slice v11.B.ptr v11.B.len v11.B.cap, Value.int .i64 v11.At, Value.int .i64 v11.Code])] (by kernel_rfl) (by kernel_rfl) ?_
      obtain ⟨hc, h⟩ := h
      refine reg_store (t := 89) (a := (Go.Operand.tmp 4)) (x := (Go.Operand.tmp 11)) (b := b_1) (o := 0) (ty := 0) (dst := none) [Value.bool v11.Gone, Value.slice v11.B.ptr v11.B.len v11.B.cap, Value.int .i64 v11.At, Value.int .i64 v11.Code] (by kernel_rfl) (by kernel_rfl) (by kernel_rfl) (k := 4) (by kernel_rfl) (by kernel_rfl) (by kernel_rfl) hc (fun w4 hw => ?_)
      replace h := h w4 hw
      clear hw
      refine reg_run [.plain] 3 [(4, [], Value.pointer (some ⟨b_1, 0, none⟩)), (5, [], Value.string ByteArray.empty)] (by kernel_rfl) (by kernel_rfl) ?_
      refine reg_end [(4, Value.pointer (some ⟨b_1, 0, none⟩)), (5, Value.string ByteArray.empty)] (by kernel_rfl) (by kernel_rfl) ?_
      change WpE _ _ c_towpathref02_Reader_Text_11 _ _ _
      refine wpE_ret (by kernel_rfl) ?_
      obtain ⟨res, hc_res, h⟩ := h
      repeat (first | refine seqQ_ret ?_ | refine blockQ_ret ?_ | refine loopQ_ret ?_ | refine cutQ_ret ?_)
      exact retT (rs := [(Go.ResultVar.cell 4 89), (Go.ResultVar.tmp 5)]) (vs := [Value.agg #[Value.bool res.Gone, Value.slice res.B.ptr res.B.len res.B.cap, Value.int .i64 res.At, Value.int .i64 res.Code], Value.string ByteArray.empty]) (by kernel_rfl) (⟨b_1, 0, [Value.bool res.Gone, Value.slice res.B.ptr res.B.len res.B.cap, Value.int .i64 res.At, Value.int .i64 res.Code], by kernel_rfl, hc_res, (sizeP_of (k := 4) (by kernel_rfl) (by kernel_rfl)), .inl ⟨by kernel_rfl, rfl⟩, ⟨by kernel_rfl, trivial⟩⟩) (by kernel_rfl) ⟨res, ByteArray.empty, rfl, h⟩
    · replace h := h.2 hb
      refine wpE_skip (by kernel_rfl) ?_
      change WpE _ _ c_towpathref02_Reader_Text_13 _ _ _
      refine wpE_seq (x := c_towpathref02_Reader_Text_14) (y := c_towpathref02_Reader_Text_23) (by kernel_rfl) ?_
      refine wpE_seq (x := c_towpathref02_Reader_Text_15) (y := c_towpathref02_Reader_Text_17) (by kernel_rfl) ?_
      refine wpE_region (id := 3) (ops := r_towpathref02_Reader_Text_15) (by kernel_rfl) ?_
      refine reg_run [.plain, .plain] 2 [(1, [], Value.int .i64 most), (2, [], Value.pointer (some ⟨b_, 0, none⟩)), (4, [], Value.pointer (some ⟨b_1, 0, none⟩)), (13, [], Value.bool (decide (most < 0)))] (by kernel_rfl) (by kernel_rfl) ?_
      refine reg_end [(1, Value.int .i64 most), (2, Value.pointer (some ⟨b_, 0, none⟩)), (4, Value.pointer (some ⟨b_1, 0, none⟩)), (13, Value.bool (decide (most < 0)))] (by kernel_rfl) (by kernel_rfl) ?_
      change WpE _ _ c_towpathref02_Reader_Text_17 _ _ _
      refine wpE_cond (o := (Operand.tmp 13)) (b := (decide (most < 0))) (x := c_towpathref02_Reader_Text_18) (y := c_towpathref02_Reader_Text_22) (by kernel_rfl) (by kernel_rfl) (fun hb => ?_) (fun hb => ?_)
      · replace h := h.1 hb
        refine wpE_seq (x := c_towpathref02_Reader_Text_19) (y := c_towpathref02_Reader_Text_21) (by kernel_rfl) ?_
        refine wpE_region (id := 4) (ops := r_towpathref02_Reader_Text_19) (by kernel_rfl) ?_
        refine reg_run [] 0 [(2, [], Value.pointer (some ⟨b_, 0, none⟩)), (4, [], Value.pointer (some ⟨b_1, 0, none⟩))] (by kernel_rfl) (by kernel_rfl) ?_
        obtain ⟨v14, hc, h⟩ := h
        refine reg_loadN (t := 89) (a := (Go.Operand.tmp 2)) (b := b_) (o := 0) (ty := 89) (dst := some 14) [Value.bool v14.Gone, Value.slice v14.B.ptr v14.B.len v14.B.cap, Value.int .i64 v14.At, Value.int .i64 v14.Code] (by kernel_rfl) (by kernel_rfl) (by kernel_rfl) (k := 4) (by kernel_rfl) (by kernel_rfl) hc ?_
        refine reg_run [] 1 [(4, [], Value.pointer (some ⟨b_1, 0, none⟩)), (14, [], Value.agg #[Value.bool v14.Gone, Value.slice v14.B.ptr v14.B.len v14.B.cap, Value.int .i64 v14.At, Value.int .i64 v14.Code])] (by kernel_rfl) (by kernel_rfl) ?_
        refine reg_enter (op := (Go.Op.call (Go.Call.mk (Go.Callee.value (Go.Operand.func 79)) #[(Go.Operand.tmp 14), (Go.Operand.const (Go.Value.int Go.IntKind.i64 1))] #[89, 28]))) (ty := 89) (dst := some 15) 79 #[Value.agg #[Value.bool v14.Gone, Value.slice v14.B.ptr v14.B.len v14.B.cap, Value.int .i64 v14.At, Value.int .i64 v14.Code], Value.int .i64 1] (by kernel_rfl) (fun ww => by kernel_rfl) (Calls.mono h ?_)
        rintro _ w5 ⟨v15, rfl, h⟩
        refine ⟨_, rfl, ?_⟩
        refine reg_run [] 2 [(4, [], Value.pointer (some ⟨b_1, 0, none⟩)), (15, [], Value.agg #[Value.bool v15.Gone, Value.slice v15.B.ptr v15.B.len v15.B.cap, Value.int .i64 v15.At, Value.int .i64 v15.Code])] (by kernel_rfl) (by kernel_rfl) ?_
        obtain ⟨hc, h⟩ := h
        refine reg_store (t := 89) (a := (Go.Operand.tmp 4)) (x := (Go.Operand.tmp 15)) (b := b_1) (o := 0) (ty := 0) (dst := none) [Value.bool v15.Gone, Value.slice v15.B.ptr v15.B.len v15.B.cap, Value.int .i64 v15.At, Value.int .i64 v15.Code] (by kernel_rfl) (by kernel_rfl) (by kernel_rfl) (k := 4) (by kernel_rfl) (by kernel_rfl) (by kernel_rfl) hc (fun w6 hw => ?_)
        replace h := h w6 hw
        clear hw
        refine reg_run [.plain] 4 [(4, [], Value.pointer (some ⟨b_1, 0, none⟩)), (5, [], Value.string ByteArray.empty)] (by kernel_rfl) (by kernel_rfl) ?_
        refine reg_end [(4, Value.pointer (some ⟨b_1, 0, none⟩)), (5, Value.string ByteArray.empty)] (by kernel_rfl) (by kernel_rfl) ?_
        change WpE _ _ c_towpathref02_Reader_Text_21 _ _ _
        refine wpE_ret (by kernel_rfl) ?_
        obtain ⟨res1, hc_res1, h⟩ := h
        repeat (first | refine seqQ_ret ?_ | refine blockQ_ret ?_ | refine loopQ_ret ?_ | refine cutQ_ret ?_)
        exact retT (rs := [(Go.ResultVar.cell 4 89), (Go.ResultVar.tmp 5)]) (vs := [Value.agg #[Value.bool res1.Gone, Value.slice res1.B.ptr res1.B.len res1.B.cap, Value.int .i64 res1.At, Value.int .i64 res1.Code], Value.string ByteArray.empty]) (by kernel_rfl) (⟨b_1, 0, [Value.bool res1.Gone, Value.slice res1.B.ptr res1.B.len res1.B.cap, Value.int .i64 res1.At, Value.int .i64 res1.Code], by kernel_rfl, hc_res1, (sizeP_of (k := 4) (by kernel_rfl) (by kernel_rfl)), .inl ⟨by kernel_rfl, rfl⟩, ⟨by kernel_rfl, trivial⟩⟩) (by kernel_rfl) ⟨res1, ByteArray.empty, rfl, h⟩
      · replace h := h.2 hb
        refine wpE_skip (by kernel_rfl) ?_
        change WpE _ _ c_towpathref02_Reader_Text_23 _ _ _
        refine wpE_seq (x := c_towpathref02_Reader_Text_24) (y := c_towpathref02_Reader_Text_26) (by kernel_rfl) ?_
        refine wpE_region (id := 5) (ops := r_towpathref02_Reader_Text_24) (by kernel_rfl) ?_
        refine reg_run [] 0 [(1, [], Value.int .i64 most), (2, [], Value.pointer (some ⟨b_, 0, none⟩)), (4, [], Value.pointer (some ⟨b_1, 0, none⟩))] (by kernel_rfl) (by kernel_rfl) ?_
        obtain ⟨v17, hc, h⟩ := h
        refine reg_loadN (t := 89) (a := (Go.Operand.tmp 2)) (b := b_) (o := 0) (ty := 89) (dst := some 17) [Value.bool v17.Gone, Value.slice v17.B.ptr v17.B.len v17.B.cap, Value.int .i64 v17.At, Value.int .i64 v17.Code] (by kernel_rfl) (by kernel_rfl) (by kernel_rfl) (k := 4) (by kernel_rfl) (by kernel_rfl) hc ?_
        refine reg_run [] 1 [(1, [], Value.int .i64 most), (2, [], Value.pointer (some ⟨b_, 0, none⟩)), (4, [], Value.pointer (some ⟨b_1, 0, none⟩)), (17, [], Value.agg #[Value.bool v17.Gone, Value.slice v17.B.ptr v17.B.len v17.B.cap, Value.int .i64 v17.At, Value.int .i64 v17.Code])] (by kernel_rfl) (by kernel_rfl) ?_
        refine reg_enter (op := (Go.Op.call (Go.Call.mk (Go.Callee.value (Go.Operand.func 45)) #[(Go.Operand.tmp 17)] #[89]))) (ty := 90) (dst := some 18) 45 #[Value.agg #[Value.bool v17.Gone, Value.slice v17.B.ptr v17.B.len v17.B.cap, Value.int .i64 v17.At, Value.int .i64 v17.Code]] (by kernel_rfl) (fun ww => by kernel_rfl) (Calls.mono h ?_)
        rintro _ w7 ⟨v18, n_, rfl, h⟩
        refine ⟨_, rfl, ?_⟩
        refine reg_run [.plain, .plain, .plain] 5 [(1, [], Value.int .i64 most), (2, [], Value.pointer (some ⟨b_, 0, none⟩)), (4, [], Value.pointer (some ⟨b_1, 0, none⟩)), (19, [], Value.agg #[Value.bool v18.Gone, Value.slice v18.B.ptr v18.B.len v18.B.cap, Value.int .i64 v18.At, Value.int .i64 v18.Code]), (20, [], Value.int .u64 n_)] (by kernel_rfl) (by kernel_rfl) ?_
        refine reg_new (op := (Go.Op.alloc 89)) (ty := 0) (dst := some 6) (fun bb => Value.pointer (some ⟨bb, 0, none⟩)) (Obj.cells ([Value.bool false, Value.slice none 0 0, Value.int .i64 0, Value.int .i64 0]).toArray ty_towpathref02_Reader (0, 0)) (by kernel_rfl) (by kernel_rfl) (fun b_2 w8 hb hw => ?_)
        replace h := h b_2 w8 hb hw
        clear hb hw
        refine reg_run [] 6 [(1, [], Value.int .i64 most), (2, [], Value.pointer (some ⟨b_, 0, none⟩)), (4, [], Value.pointer (some ⟨b_1, 0, none⟩)), (6, [], Value.pointer (some ⟨b_2, 0, none⟩)), (19, [], Value.agg #[Value.bool v18.Gone, Value.slice v18.B.ptr v18.B.len v18.B.cap, Value.int .i64 v18.At, Value.int .i64 v18.Code]), (20, [], Value.int .u64 n_)] (by kernel_rfl) (by kernel_rfl) ?_
        obtain ⟨hc, h⟩ := h
        refine reg_store (t := 89) (a := (Go.Operand.tmp 6)) (x := (Go.Operand.tmp 19)) (b := b_2) (o := 0) (ty := 0) (dst := none) [Value.bool v18.Gone, Value.slice v18.B.ptr v18.B.len v18.B.cap, Value.int .i64 v18.At, Value.int .i64 v18.Code] (by kernel_rfl) (by kernel_rfl) (by kernel_rfl) (k := 4) (by kernel_rfl) (by kernel_rfl) (by kernel_rfl) hc (fun w9 hw => ?_)
        replace h := h w9 hw
        clear hw
        refine reg_run [.plain] 8 [(1, [], Value.int .i64 most), (2, [], Value.pointer (some ⟨b_, 0, none⟩)), (4, [], Value.pointer (some ⟨b_1, 0, none⟩)), (6, [], Value.pointer (some ⟨b_2, 0, none⟩)), (7, [], Value.int .u64 n_)] (by kernel_rfl) (by kernel_rfl) ?_
        refine reg_end [(1, Value.int .i64 most), (2, Value.pointer (some ⟨b_, 0, none⟩)), (4, Value.pointer (some ⟨b_1, 0, none⟩)), (6, Value.pointer (some ⟨b_2, 0, none⟩)), (7, Value.int .u64 n_)] (by kernel_rfl) (by kernel_rfl) ?_
        change WpE _ _ c_towpathref02_Reader_Text_26 _ _ _
        refine wpE_seq (x := c_towpathref02_Reader_Text_27) (y := c_towpathref02_Reader_Text_36) (by kernel_rfl) ?_
        refine wpE_seq (x := c_towpathref02_Reader_Text_28) (y := c_towpathref02_Reader_Text_30) (by kernel_rfl) ?_
        refine wpE_region (id := 6) (ops := r_towpathref02_Reader_Text_28) (by kernel_rfl) ?_
        refine reg_run [] 0 [(1, [], Value.int .i64 most), (2, [], Value.pointer (some ⟨b_, 0, none⟩)), (4, [], Value.pointer (some ⟨b_1, 0, none⟩)), (6, [], Value.pointer (some ⟨b_2, 0, none⟩)), (7, [], Value.int .u64 n_)] (by kernel_rfl) (by kernel_rfl) ?_
        obtain ⟨v21, hc, h⟩ := h
        refine reg_loadN (t := 89) (a := (Go.Operand.tmp 6)) (b := b_2) (o := 0) (ty := 89) (dst := some 21) [Value.bool v21.Gone, Value.slice v21.B.ptr v21.B.len v21.B.cap, Value.int .i64 v21.At, Value.int .i64 v21.Code] (by kernel_rfl) (by kernel_rfl) (by kernel_rfl) (k := 4) (by kernel_rfl) (by kernel_rfl) hc ?_
        refine reg_run [] 1 [(1, [], Value.int .i64 most), (2, [], Value.pointer (some ⟨b_, 0, none⟩)), (4, [], Value.pointer (some ⟨b_1, 0, none⟩)), (6, [], Value.pointer (some ⟨b_2, 0, none⟩)), (7, [], Value.int .u64 n_), (21, [], Value.agg #[Value.bool v21.Gone, Value.slice v21.B.ptr v21.B.len v21.B.cap, Value.int .i64 v21.At, Value.int .i64 v21.Code])] (by kernel_rfl) (by kernel_rfl) ?_
        refine reg_enter (op := (Go.Op.call (Go.Call.mk (Go.Callee.value (Go.Operand.func 78)) #[(Go.Operand.tmp 21)] #[89]))) (ty := 4) (dst := some 22) 78 #[Value.agg #[Value.bool v21.Gone, Value.slice v21.B.ptr v21.B.len v21.B.cap, Value.int .i64 v21.At, Value.int .i64 v21.Code]] (by kernel_rfl) (fun ww => by kernel_rfl) (Calls.mono h ?_)
        rintro _ w10 ⟨v22, rfl, h⟩
        refine ⟨_, rfl, ?_⟩
        refine reg_end [(1, Value.int .i64 most), (2, Value.pointer (some ⟨b_, 0, none⟩)), (4, Value.pointer (some ⟨b_1, 0, none⟩)), (6, Value.pointer (some ⟨b_2, 0, none⟩)), (7, Value.int .u64 n_), (22, Value.bool v22)] (by kernel_rfl) (by kernel_rfl) ?_
        change WpE _ _ c_towpathref02_Reader_Text_30 _ _ _
        refine wpE_cond (o := (Operand.tmp 22)) (b := v22) (x := c_towpathref02_Reader_Text_31) (y := c_towpathref02_Reader_Text_35) (by kernel_rfl) (by kernel_rfl) (fun hb => ?_) (fun hb => ?_)
        · replace h := h.1 hb
          refine wpE_seq (x := c_towpathref02_Reader_Text_32) (y := c_towpathref02_Reader_Text_34) (by kernel_rfl) ?_
          refine wpE_region (id := 7) (ops := r_towpathref02_Reader_Text_32) (by kernel_rfl) ?_
          refine reg_run [] 0 [(2, [], Value.pointer (some ⟨b_, 0, none⟩)), (4, [], Value.pointer (some ⟨b_1, 0, none⟩)), (6, [], Value.pointer (some ⟨b_2, 0, none⟩))] (by kernel_rfl) (by kernel_rfl) ?_
          obtain ⟨v23, hc, h⟩ := h
          refine reg_loadN (t := 89) (a := (Go.Operand.tmp 2)) (b := b_) (o := 0) (ty := 89) (dst := some 23) [Value.bool v23.Gone, Value.slice v23.B.ptr v23.B.len v23.B.cap, Value.int .i64 v23.At, Value.int .i64 v23.Code] (by kernel_rfl) (by kernel_rfl) (by kernel_rfl) (k := 4) (by kernel_rfl) (by kernel_rfl) hc ?_
          refine reg_run [.plain] 2 [(4, [], Value.pointer (some ⟨b_1, 0, none⟩)), (23, [], Value.agg #[Value.bool v23.Gone, Value.slice v23.B.ptr v23.B.len v23.B.cap, Value.int .i64 v23.At, Value.int .i64 v23.Code]), (24, [], Value.pointer (some ⟨b_2, 3, none⟩))] (by kernel_rfl) (by kernel_rfl) ?_
          obtain ⟨v25, hc, h⟩ := h
          refine reg_load1 (t := 28) (a := (Go.Operand.tmp 24)) (b := b_2) (o := 3) (ty := 28) (dst := some 25) (by kernel_rfl) (by kernel_rfl) (by kernel_rfl) hc ?_
          refine reg_run [] 3 [(4, [], Value.pointer (some ⟨b_1, 0, none⟩)), (23, [], Value.agg #[Value.bool v23.Gone, Value.slice v23.B.ptr v23.B.len v23.B.cap, Value.int .i64 v23.At, Value.int .i64 v23.Code]), (25, [], Value.int .i64 v25)] (by kernel_rfl) (by kernel_rfl) ?_
          refine reg_enter (op := (Go.Op.call (Go.Call.mk (Go.Callee.value (Go.Operand.func 79)) #[(Go.Operand.tmp 23), (Go.Operand.tmp 25)] #[89, 28]))) (ty := 89) (dst := some 26) 79 #[Value.agg #[Value.bool v23.Gone, Value.slice v23.B.ptr v23.B.len v23.B.cap, Value.int .i64 v23.At, Value.int .i64 v23.Code], Value.int .i64 v25] (by kernel_rfl) (fun ww => by kernel_rfl) (Calls.mono h ?_)
          rintro _ w11 ⟨v26, rfl, h⟩
          refine ⟨_, rfl, ?_⟩
          refine reg_run [] 4 [(4, [], Value.pointer (some ⟨b_1, 0, none⟩)), (26, [], Value.agg #[Value.bool v26.Gone, Value.slice v26.B.ptr v26.B.len v26.B.cap, Value.int .i64 v26.At, Value.int .i64 v26.Code])] (by kernel_rfl) (by kernel_rfl) ?_
          obtain ⟨hc, h⟩ := h
          refine reg_store (t := 89) (a := (Go.Operand.tmp 4)) (x := (Go.Operand.tmp 26)) (b := b_1) (o := 0) (ty := 0) (dst := none) [Value.bool v26.Gone, Value.slice v26.B.ptr v26.B.len v26.B.cap, Value.int .i64 v26.At, Value.int .i64 v26.Code] (by kernel_rfl) (by kernel_rfl) (by kernel_rfl) (k := 4) (by kernel_rfl) (by kernel_rfl) (by kernel_rfl) hc (fun w12 hw => ?_)
          replace h := h w12 hw
          clear hw
          refine reg_run [.plain] 6 [(4, [], Value.pointer (some ⟨b_1, 0, none⟩)), (5, [], Value.string ByteArray.empty)] (by kernel_rfl) (by kernel_rfl) ?_
          refine reg_end [(4, Value.pointer (some ⟨b_1, 0, none⟩)), (5, Value.string ByteArray.empty)] (by kernel_rfl) (by kernel_rfl) ?_
          change WpE _ _ c_towpathref02_Reader_Text_34 _ _ _
          refine wpE_ret (by kernel_rfl) ?_
          obtain ⟨res2, hc_res2, h⟩ := h
          repeat (first | refine seqQ_ret ?_ | refine blockQ_ret ?_ | refine loopQ_ret ?_ | refine cutQ_ret ?_)
          exact retT (rs := [(Go.ResultVar.cell 4 89), (Go.ResultVar.tmp 5)]) (vs := [Value.agg #[Value.bool res2.Gone, Value.slice res2.B.ptr res2.B.len res2.B.cap, Value.int .i64 res2.At, Value.int .i64 res2.Code], Value.string ByteArray.empty]) (by kernel_rfl) (⟨b_1, 0, [Value.bool res2.Gone, Value.slice res2.B.ptr res2.B.len res2.B.cap, Value.int .i64 res2.At, Value.int .i64 res2.Code], by kernel_rfl, hc_res2, (sizeP_of (k := 4) (by kernel_rfl) (by kernel_rfl)), .inl ⟨by kernel_rfl, rfl⟩, ⟨by kernel_rfl, trivial⟩⟩) (by kernel_rfl) ⟨res2, ByteArray.empty, rfl, h⟩
        · replace h := h.2 hb
          refine wpE_skip (by kernel_rfl) ?_
          change WpE _ _ c_towpathref02_Reader_Text_36 _ _ _
          refine wpE_seq (x := c_towpathref02_Reader_Text_37) (y := c_towpathref02_Reader_Text_46) (by kernel_rfl) ?_
          refine wpE_seq (x := c_towpathref02_Reader_Text_38) (y := c_towpathref02_Reader_Text_40) (by kernel_rfl) ?_
          refine wpE_region (id := 8) (ops := r_towpathref02_Reader_Text_38) (by kernel_rfl) ?_
          refine reg_run [.plain, .plain, .plain, .plain] 4 [(2, [], Value.pointer (some ⟨b_, 0, none⟩)), (4, [], Value.pointer (some ⟨b_1, 0, none⟩)), (6, [], Value.pointer (some ⟨b_2, 0, none⟩)), (7, [], Value.int .u64 n_), (30, [], Value.bool (decide (n_ > (IntKind.u64.wrap most))))] (by kernel_rfl) (by kernel_rfl) ?_
          refine reg_end [(2, Value.pointer (some ⟨b_, 0, none⟩)), (4, Value.pointer (some ⟨b_1, 0, none⟩)), (6, Value.pointer (some ⟨b_2, 0, none⟩)), (7, Value.int .u64 n_), (30, Value.bool (decide (n_ > (IntKind.u64.wrap most))))] (by kernel_rfl) (by kernel_rfl) ?_
          change WpE _ _ c_towpathref02_Reader_Text_40 _ _ _
          refine wpE_cond (o := (Operand.tmp 30)) (b := (decide (n_ > (IntKind.u64.wrap most)))) (x := c_towpathref02_Reader_Text_41) (y := c_towpathref02_Reader_Text_45) (by kernel_rfl) (by kernel_rfl) (fun hb => ?_) (fun hb => ?_)
          · replace h := h.1 hb
            refine wpE_seq (x := c_towpathref02_Reader_Text_42) (y := c_towpathref02_Reader_Text_44) (by kernel_rfl) ?_
            refine wpE_region (id := 9) (ops := r_towpathref02_Reader_Text_42) (by kernel_rfl) ?_
            refine reg_run [] 0 [(2, [], Value.pointer (some ⟨b_, 0, none⟩)), (4, [], Value.pointer (some ⟨b_1, 0, none⟩))] (by kernel_rfl) (by kernel_rfl) ?_
            obtain ⟨v31, hc, h⟩ := h
            refine reg_loadN (t := 89) (a := (Go.Operand.tmp 2)) (b := b_) (o := 0) (ty := 89) (dst := some 31) [Value.bool v31.Gone, Value.slice v31.B.ptr v31.B.len v31.B.cap, Value.int .i64 v31.At, Value.int .i64 v31.Code] (by kernel_rfl) (by kernel_rfl) (by kernel_rfl) (k := 4) (by kernel_rfl) (by kernel_rfl) hc ?_
            refine reg_run [] 1 [(4, [], Value.pointer (some ⟨b_1, 0, none⟩)), (31, [], Value.agg #[Value.bool v31.Gone, Value.slice v31.B.ptr v31.B.len v31.B.cap, Value.int .i64 v31.At, Value.int .i64 v31.Code])] (by kernel_rfl) (by kernel_rfl) ?_
            refine reg_enter (op := (Go.Op.call (Go.Call.mk (Go.Callee.value (Go.Operand.func 79)) #[(Go.Operand.tmp 31), (Go.Operand.const (Go.Value.int Go.IntKind.i64 3))] #[89, 28]))) (ty := 89) (dst := some 32) 79 #[Value.agg #[Value.bool v31.Gone, Value.slice v31.B.ptr v31.B.len v31.B.cap, Value.int .i64 v31.At, Value.int .i64 v31.Code], Value.int .i64 3] (by kernel_rfl) (fun ww => by kernel_rfl) (Calls.mono h ?_)
            rintro _ w13 ⟨v32, rfl, h⟩
            refine ⟨_, rfl, ?_⟩
            refine reg_run [] 2 [(4, [], Value.pointer (some ⟨b_1, 0, none⟩)), (32, [], Value.agg #[Value.bool v32.Gone, Value.slice v32.B.ptr v32.B.len v32.B.cap, Value.int .i64 v32.At, Value.int .i64 v32.Code])] (by kernel_rfl) (by kernel_rfl) ?_
            obtain ⟨hc, h⟩ := h
            refine reg_store (t := 89) (a := (Go.Operand.tmp 4)) (x := (Go.Operand.tmp 32)) (b := b_1) (o := 0) (ty := 0) (dst := none) [Value.bool v32.Gone, Value.slice v32.B.ptr v32.B.len v32.B.cap, Value.int .i64 v32.At, Value.int .i64 v32.Code] (by kernel_rfl) (by kernel_rfl) (by kernel_rfl) (k := 4) (by kernel_rfl) (by kernel_rfl) (by kernel_rfl) hc (fun w14 hw => ?_)
            replace h := h w14 hw
            clear hw
            refine reg_run [.plain] 4 [(4, [], Value.pointer (some ⟨b_1, 0, none⟩)), (5, [], Value.string ByteArray.empty)] (by kernel_rfl) (by kernel_rfl) ?_
            refine reg_end [(4, Value.pointer (some ⟨b_1, 0, none⟩)), (5, Value.string ByteArray.empty)] (by kernel_rfl) (by kernel_rfl) ?_
            change WpE _ _ c_towpathref02_Reader_Text_44 _ _ _
            refine wpE_ret (by kernel_rfl) ?_
            obtain ⟨res3, hc_res3, h⟩ := h
            repeat (first | refine seqQ_ret ?_ | refine blockQ_ret ?_ | refine loopQ_ret ?_ | refine cutQ_ret ?_)
            exact retT (rs := [(Go.ResultVar.cell 4 89), (Go.ResultVar.tmp 5)]) (vs := [Value.agg #[Value.bool res3.Gone, Value.slice res3.B.ptr res3.B.len res3.B.cap, Value.int .i64 res3.At, Value.int .i64 res3.Code], Value.string ByteArray.empty]) (by kernel_rfl) (⟨b_1, 0, [Value.bool res3.Gone, Value.slice res3.B.ptr res3.B.len res3.B.cap, Value.int .i64 res3.At, Value.int .i64 res3.Code], by kernel_rfl, hc_res3, (sizeP_of (k := 4) (by kernel_rfl) (by kernel_rfl)), .inl ⟨by kernel_rfl, rfl⟩, ⟨by kernel_rfl, trivial⟩⟩) (by kernel_rfl) ⟨res3, ByteArray.empty, rfl, h⟩
          · replace h := h.2 hb
            refine wpE_skip (by kernel_rfl) ?_
            change WpE _ _ c_towpathref02_Reader_Text_46 _ _ _
            refine wpE_seq (x := c_towpathref02_Reader_Text_47) (y := c_towpathref02_Reader_Text_56) (by kernel_rfl) ?_
            refine wpE_seq (x := c_towpathref02_Reader_Text_48) (y := c_towpathref02_Reader_Text_50) (by kernel_rfl) ?_
            refine wpE_region (id := 10) (ops := r_towpathref02_Reader_Text_48) (by kernel_rfl) ?_
            refine reg_run [.plain, .plain] 2 [(2, [], Value.pointer (some ⟨b_, 0, none⟩)), (4, [], Value.pointer (some ⟨b_1, 0, none⟩)), (6, [], Value.pointer (some ⟨b_2, 0, none⟩)), (7, [], Value.int .u64 n_), (33, [], Value.int .u64 n_), (34, [], Value.pointer (some ⟨b_, 1, none⟩))] (by kernel_rfl) (by kernel_rfl) ?_
            obtain ⟨v35, hc, h⟩ := h
            refine reg_load1 (t := 22) (a := (Go.Operand.tmp 34)) (b := b_) (o := 1) (ty := 22) (dst := some 35) (by kernel_rfl) (by kernel_rfl) (by kernel_rfl) hc ?_
            refine reg_run [.plain, .plain] 5 [(2, [], Value.pointer (some ⟨b_, 0, none⟩)), (4, [], Value.pointer (some ⟨b_1, 0, none⟩)), (6, [], Value.pointer (some ⟨b_2, 0, none⟩)), (7, [], Value.int .u64 n_), (33, [], Value.int .u64 n_), (36, [], Value.int .i64 ((v35.len : Nat) : Int)), (37, [], Value.pointer (some ⟨b_2, 2, none⟩))] (by kernel_rfl) (by kernel_rfl) ?_
            obtain ⟨v38, hc, h⟩ := h
            refine reg_load1 (t := 3) (a := (Go.Operand.tmp 37)) (b := b_2) (o := 2) (ty := 3) (dst := some 38) (by kernel_rfl) (by kernel_rfl) (by kernel_rfl) hc ?_
            refine reg_run [.plain, .plain, .plain] 9 [(2, [], Value.pointer (some ⟨b_, 0, none⟩)), (4, [], Value.pointer (some ⟨b_1, 0, none⟩)), (6, [], Value.pointer (some ⟨b_2, 0, none⟩)), (7, [], Value.int .u64 n_), (41, [], Value.bool (decide (n_ > (IntKind.u64.wrap (IntKind.i64.wrap (((v35.len : Nat) : Int) - v38))))))] (by kernel_rfl) (by kernel_rfl) ?_
            refine reg_end [(2, Value.pointer (some ⟨b_, 0, none⟩)), (4, Value.pointer (some ⟨b_1, 0, none⟩)), (6, Value.pointer (some ⟨b_2, 0, none⟩)), (7, Value.int .u64 n_), (41, Value.bool (decide (n_ > (IntKind.u64.wrap (IntKind.i64.wrap (((v35.len : Nat) : Int) - v38))))))] (by kernel_rfl) (by kernel_rfl) ?_
            change WpE _ _ c_towpathref02_Reader_Text_50 _ _ _
            refine wpE_cond (o := (Operand.tmp 41)) (b := (decide (n_ > (IntKind.u64.wrap (IntKind.i64.wrap (((v35.len : Nat) : Int) - v38)))))) (x := c_towpathref02_Reader_Text_51) (y := c_towpathref02_Reader_Text_55) (by kernel_rfl) (by kernel_rfl) (fun hb => ?_) (fun hb => ?_)
            · replace h := h.1 hb
              refine wpE_seq (x := c_towpathref02_Reader_Text_52) (y := c_towpathref02_Reader_Text_54) (by kernel_rfl) ?_
              refine wpE_region (id := 11) (ops := r_towpathref02_Reader_Text_52) (by kernel_rfl) ?_
              refine reg_run [] 0 [(2, [], Value.pointer (some ⟨b_, 0, none⟩)), (4, [], Value.pointer (some ⟨b_1, 0, none⟩))] (by kernel_rfl) (by kernel_rfl) ?_
              obtain ⟨v42, hc, h⟩ := h
              refine reg_loadN (t := 89) (a := (Go.Operand.tmp 2)) (b := b_) (o := 0) (ty := 89) (dst := some 42) [Value.bool v42.Gone, Value.slice v42.B.ptr v42.B.len v42.B.cap, Value.int .i64 v42.At, Value.int .i64 v42.Code] (by kernel_rfl) (by kernel_rfl) (by kernel_rfl) (k := 4) (by kernel_rfl) (by kernel_rfl) hc ?_
              refine reg_run [] 1 [(4, [], Value.pointer (some ⟨b_1, 0, none⟩)), (42, [], Value.agg #[Value.bool v42.Gone, Value.slice v42.B.ptr v42.B.len v42.B.cap, Value.int .i64 v42.At, Value.int .i64 v42.Code])] (by kernel_rfl) (by kernel_rfl) ?_
              refine reg_enter (op := (Go.Op.call (Go.Call.mk (Go.Callee.value (Go.Operand.func 79)) #[(Go.Operand.tmp 42), (Go.Operand.const (Go.Value.int Go.IntKind.i64 5))] #[89, 28]))) (ty := 89) (dst := some 43) 79 #[Value.agg #[Value.bool v42.Gone, Value.slice v42.B.ptr v42.B.len v42.B.cap, Value.int .i64 v42.At, Value.int .i64 v42.Code], Value.int .i64 5] (by kernel_rfl) (fun ww => by kernel_rfl) (Calls.mono h ?_)
              rintro _ w15 ⟨v43, rfl, h⟩
              refine ⟨_, rfl, ?_⟩
              refine reg_run [] 2 [(4, [], Value.pointer (some ⟨b_1, 0, none⟩)), (43, [], Value.agg #[Value.bool v43.Gone, Value.slice v43.B.ptr v43.B.len v43.B.cap, Value.int .i64 v43.At, Value.int .i64 v43.Code])] (by kernel_rfl) (by kernel_rfl) ?_
              obtain ⟨hc, h⟩ := h
              refine reg_store (t := 89) (a := (Go.Operand.tmp 4)) (x := (Go.Operand.tmp 43)) (b := b_1) (o := 0) (ty := 0) (dst := none) [Value.bool v43.Gone, Value.slice v43.B.ptr v43.B.len v43.B.cap, Value.int .i64 v43.At, Value.int .i64 v43.Code] (by kernel_rfl) (by kernel_rfl) (by kernel_rfl) (k := 4) (by kernel_rfl) (by kernel_rfl) (by kernel_rfl) hc (fun w16 hw => ?_)
              replace h := h w16 hw
              clear hw
              refine reg_run [.plain] 4 [(4, [], Value.pointer (some ⟨b_1, 0, none⟩)), (5, [], Value.string ByteArray.empty)] (by kernel_rfl) (by kernel_rfl) ?_
              refine reg_end [(4, Value.pointer (some ⟨b_1, 0, none⟩)), (5, Value.string ByteArray.empty)] (by kernel_rfl) (by kernel_rfl) ?_
              change WpE _ _ c_towpathref02_Reader_Text_54 _ _ _
              refine wpE_ret (by kernel_rfl) ?_
              obtain ⟨res4, hc_res4, h⟩ := h
              repeat (first | refine seqQ_ret ?_ | refine blockQ_ret ?_ | refine loopQ_ret ?_ | refine cutQ_ret ?_)
              exact retT (rs := [(Go.ResultVar.cell 4 89), (Go.ResultVar.tmp 5)]) (vs := [Value.agg #[Value.bool res4.Gone, Value.slice res4.B.ptr res4.B.len res4.B.cap, Value.int .i64 res4.At, Value.int .i64 res4.Code], Value.string ByteArray.empty]) (by kernel_rfl) (⟨b_1, 0, [Value.bool res4.Gone, Value.slice res4.B.ptr res4.B.len res4.B.cap, Value.int .i64 res4.At, Value.int .i64 res4.Code], by kernel_rfl, hc_res4, (sizeP_of (k := 4) (by kernel_rfl) (by kernel_rfl)), .inl ⟨by kernel_rfl, rfl⟩, ⟨by kernel_rfl, trivial⟩⟩) (by kernel_rfl) ⟨res4, ByteArray.empty, rfl, h⟩
            · replace h := h.2 hb
              refine wpE_skip (by kernel_rfl) ?_
              change WpE _ _ c_towpathref02_Reader_Text_56 _ _ _
              refine wpE_seq (x := c_towpathref02_Reader_Text_57) (y := c_towpathref02_Reader_Text_59) (by kernel_rfl) ?_
              refine wpE_region (id := 12) (ops := r_towpathref02_Reader_Text_57) (by kernel_rfl) ?_
              refine reg_run [.plain] 1 [(4, [], Value.pointer (some ⟨b_1, 0, none⟩)), (6, [], Value.pointer (some ⟨b_2, 0, none⟩)), (7, [], Value.int .u64 n_), (44, [], Value.pointer (some ⟨b_, 1, none⟩))] (by kernel_rfl) (by kernel_rfl) ?_
              obtain ⟨v45, hc, h⟩ := h
              refine reg_load1 (t := 22) (a := (Go.Operand.tmp 44)) (b := b_) (o := 1) (ty := 22) (dst := some 45) (by kernel_rfl) (by kernel_rfl) (by kernel_rfl) hc ?_
              refine reg_run [.plain] 3 [(4, [], Value.pointer (some ⟨b_1, 0, none⟩)), (6, [], Value.pointer (some ⟨b_2, 0, none⟩)), (7, [], Value.int .u64 n_), (45, [], Value.slice v45.ptr v45.len v45.cap), (46, [], Value.pointer (some ⟨b_2, 2, none⟩))] (by kernel_rfl) (by kernel_rfl) ?_
              obtain ⟨v47, hc, h⟩ := h
              refine reg_load1 (t := 3) (a := (Go.Operand.tmp 46)) (b := b_2) (o := 2) (ty := 3) (dst := some 47) (by kernel_rfl) (by kernel_rfl) (by kernel_rfl) hc ?_
              refine reg_run [.plain] 5 [(4, [], Value.pointer (some ⟨b_1, 0, none⟩)), (6, [], Value.pointer (some ⟨b_2, 0, none⟩)), (7, [], Value.int .u64 n_), (45, [], Value.slice v45.ptr v45.len v45.cap), (47, [], Value.int .i64 v47), (48, [], Value.pointer (some ⟨b_2, 2, none⟩))] (by kernel_rfl) (by kernel_rfl) ?_
              obtain ⟨v49, hc, h⟩ := h
              refine reg_load1 (t := 3) (a := (Go.Operand.tmp 48)) (b := b_2) (o := 2) (ty := 3) (dst := some 49) (by kernel_rfl) (by kernel_rfl) (by kernel_rfl) hc ?_
              refine reg_run [.plain, .plain, .plain] 9 [(4, [], Value.pointer (some ⟨b_1, 0, none⟩)), (6, [], Value.pointer (some ⟨b_2, 0, none⟩)), (7, [], Value.int .u64 n_), (45, [], Value.slice v45.ptr v45.len v45.cap), (47, [], Value.int .i64 v47), (52, [], Value.int .i64 (IntKind.i64.wrap (v49 + (IntKind.i64.wrap n_))))] (by kernel_rfl) (by kernel_rfl) ?_
              obtain ⟨hc, h⟩ := h
              refine reg_sliceH (t := 22) (e := 5) (x := (Go.Operand.tmp 45)) (lo := (Go.Operand.tmp 47)) (hi := (Go.Operand.tmp 52)) (s := v45) (sz := 1) (k := .i64) (a := v47) (k' := .i64) (b := (IntKind.i64.wrap (v49 + (IntKind.i64.wrap n_)))) (ty := 22) (dst := some 53) (by kernel_rfl) (by kernel_rfl) (by kernel_rfl) (by kernel_rfl) (by kernel_rfl) (by kernel_rfl) hc (fun s hs => ?_)
              replace h := h s hs
              clear hs
              refine reg_run [] 10 [(4, [], Value.pointer (some ⟨b_1, 0, none⟩)), (6, [], Value.pointer (some ⟨b_2, 0, none⟩)), (7, [], Value.int .u64 n_), (53, [], Value.slice s.ptr s.len s.cap)] (by kernel_rfl) (by kernel_rfl) ?_
              obtain ⟨str, hs, h⟩ := h
              refine reg_toString (t := 22) (d := 9) (e := 5) (x := (Go.Operand.tmp 53)) (s := s) (ty := 9) (dst := some 54) (by kernel_rfl) (by kernel_rfl) (by kernel_rfl) (by kernel_rfl) (by kernel_rfl) hs ?_
              refine reg_run [.plain] 12 [(4, [], Value.pointer (some ⟨b_1, 0, none⟩)), (6, [], Value.pointer (some ⟨b_2, 0, none⟩)), (7, [], Value.int .u64 n_), (8, [], Value.string str)] (by kernel_rfl) (by kernel_rfl) ?_
              refine reg_end [(4, Value.pointer (some ⟨b_1, 0, none⟩)), (6, Value.pointer (some ⟨b_2, 0, none⟩)), (7, Value.int .u64 n_), (8, Value.string str)] (by kernel_rfl) (by kernel_rfl) ?_
              change WpE _ _ c_towpathref02_Reader_Text_59 _ _ _
              refine wpE_seq (x := c_towpathref02_Reader_Text_60) (y := c_towpathref02_Reader_Text_62) (by kernel_rfl) ?_
              refine wpE_region (id := 13) (ops := r_towpathref02_Reader_Text_60) (by kernel_rfl) ?_
              refine reg_run [.plain] 1 [(4, [], Value.pointer (some ⟨b_1, 0, none⟩)), (6, [], Value.pointer (some ⟨b_2, 0, none⟩)), (7, [], Value.int .u64 n_), (8, [], Value.string str), (55, [], Value.pointer (some ⟨b_2, 2, none⟩))] (by kernel_rfl) (by kernel_rfl) ?_
              obtain ⟨v56, hc, h⟩ := h
              refine reg_load1 (t := 3) (a := (Go.Operand.tmp 55)) (b := b_2) (o := 2) (ty := 3) (dst := some 56) (by kernel_rfl) (by kernel_rfl) (by kernel_rfl) hc ?_
              refine reg_run [.plain, .plain, .plain, .plain] 6 [(4, [], Value.pointer (some ⟨b_1, 0, none⟩)), (6, [], Value.pointer (some ⟨b_2, 0, none⟩)), (8, [], Value.string str), (59, [], Value.int .i64 (IntKind.i64.wrap (v56 + (IntKind.i64.wrap n_)))), (60, [], Value.pointer (some ⟨b_2, 2, none⟩))] (by kernel_rfl) (by kernel_rfl) ?_
              obtain ⟨hc, h⟩ := h
              refine reg_store (t := 3) (a := (Go.Operand.tmp 60)) (x := (Go.Operand.tmp 59)) (b := b_2) (o := 2) (ty := 0) (dst := none) [Value.int .i64 (IntKind.i64.wrap (v56 + (IntKind.i64.wrap n_)))] (by kernel_rfl) (by kernel_rfl) (by kernel_rfl) (k := 1) (by kernel_rfl) (by kernel_rfl) (by kernel_rfl) hc (fun w17 hw => ?_)
              replace h := h w17 hw
              clear hw
              refine reg_end [(4, Value.pointer (some ⟨b_1, 0, none⟩)), (6, Value.pointer (some ⟨b_2, 0, none⟩)), (8, Value.string str)] (by kernel_rfl) (by kernel_rfl) ?_
              change WpE _ _ c_towpathref02_Reader_Text_62 _ _ _
              refine wpE_seq (x := c_towpathref02_Reader_Text_63) (y := c_towpathref02_Reader_Text_65) (by kernel_rfl) ?_
              refine wpE_region (id := 14) (ops := r_towpathref02_Reader_Text_63) (by kernel_rfl) ?_
              refine reg_run [] 0 [(4, [], Value.pointer (some ⟨b_1, 0, none⟩)), (6, [], Value.pointer (some ⟨b_2, 0, none⟩)), (8, [], Value.string str)] (by kernel_rfl) (by kernel_rfl) ?_
              obtain ⟨v61, hc, h⟩ := h
              refine reg_loadN (t := 89) (a := (Go.Operand.tmp 6)) (b := b_2) (o := 0) (ty := 89) (dst := some 61) [Value.bool v61.Gone, Value.slice v61.B.ptr v61.B.len v61.B.cap, Value.int .i64 v61.At, Value.int .i64 v61.Code] (by kernel_rfl) (by kernel_rfl) (by kernel_rfl) (k := 4) (by kernel_rfl) (by kernel_rfl) hc ?_
              refine reg_run [.plain] 2 [(4, [], Value.pointer (some ⟨b_1, 0, none⟩)), (61, [], Value.agg #[Value.bool v61.Gone, Value.slice v61.B.ptr v61.B.len v61.B.cap, Value.int .i64 v61.At, Value.int .i64 v61.Code]), (62, [], Value.string str)] (by kernel_rfl) (by kernel_rfl) ?_
              obtain ⟨hc, h⟩ := h
              refine reg_store (t := 89) (a := (Go.Operand.tmp 4)) (x := (Go.Operand.tmp 61)) (b := b_1) (o := 0) (ty := 0) (dst := none) [Value.bool v61.Gone, Value.slice v61.B.ptr v61.B.len v61.B.cap, Value.int .i64 v61.At, Value.int .i64 v61.Code] (by kernel_rfl) (by kernel_rfl) (by kernel_rfl) (k := 4) (by kernel_rfl) (by kernel_rfl) (by kernel_rfl) hc (fun w18 hw => ?_)
              replace h := h w18 hw
              clear hw
              refine reg_run [.plain] 4 [(4, [], Value.pointer (some ⟨b_1, 0, none⟩)), (5, [], Value.string str)] (by kernel_rfl) (by kernel_rfl) ?_
              refine reg_end [(4, Value.pointer (some ⟨b_1, 0, none⟩)), (5, Value.string str)] (by kernel_rfl) (by kernel_rfl) ?_
              change WpE _ _ c_towpathref02_Reader_Text_65 _ _ _
              refine wpE_ret (by kernel_rfl) ?_
              obtain ⟨res5, hc_res5, h⟩ := h
              repeat (first | refine seqQ_ret ?_ | refine blockQ_ret ?_ | refine loopQ_ret ?_ | refine cutQ_ret ?_)
              exact retT (rs := [(Go.ResultVar.cell 4 89), (Go.ResultVar.tmp 5)]) (vs := [Value.agg #[Value.bool res5.Gone, Value.slice res5.B.ptr res5.B.len res5.B.cap, Value.int .i64 res5.At, Value.int .i64 res5.Code], Value.string str]) (by kernel_rfl) (⟨b_1, 0, [Value.bool res5.Gone, Value.slice res5.B.ptr res5.B.len res5.B.cap, Value.int .i64 res5.At, Value.int .i64 res5.Code], by kernel_rfl, hc_res5, (sizeP_of (k := 4) (by kernel_rfl) (by kernel_rfl)), .inl ⟨by kernel_rfl, rfl⟩, ⟨by kernel_rfl, trivial⟩⟩) (by kernel_rfl) ⟨res5, str, rfl, h⟩
  · rintro e w' ⟨v, rfl, r0, r1, rfl, h⟩; exact ⟨r0, r1, rfl, h⟩

/-! ### (towpath/towpathref02.Reader).Fixed (function 81) -/
noncomputable def c_towpathref02_Reader_Fixed_0 : Code := (Try.f81.body).getD Code.skip
noncomputable def c_towpathref02_Reader_Fixed_1 : Code := Code.l c_towpathref02_Reader_Fixed_0
noncomputable def r_towpathref02_Reader_Fixed_1 : Array Oper := Code.ops c_towpathref02_Reader_Fixed_1
noncomputable def c_towpathref02_Reader_Fixed_3 : Code := Code.r c_towpathref02_Reader_Fixed_0
noncomputable def c_towpathref02_Reader_Fixed_4 : Code := Code.l c_towpathref02_Reader_Fixed_3
noncomputable def c_towpathref02_Reader_Fixed_5 : Code := Code.l c_towpathref02_Reader_Fixed_4
noncomputable def r_towpathref02_Reader_Fixed_5 : Array Oper := Code.ops c_towpathref02_Reader_Fixed_5
noncomputable def c_towpathref02_Reader_Fixed_7 : Code := Code.r c_towpathref02_Reader_Fixed_4
noncomputable def c_towpathref02_Reader_Fixed_8 : Code := Code.l c_towpathref02_Reader_Fixed_7
noncomputable def c_towpathref02_Reader_Fixed_9 : Code := Code.l c_towpathref02_Reader_Fixed_8
noncomputable def r_towpathref02_Reader_Fixed_9 : Array Oper := Code.ops c_towpathref02_Reader_Fixed_9
noncomputable def c_towpathref02_Reader_Fixed_11 : Code := Code.r c_towpathref02_Reader_Fixed_8
noncomputable def c_towpathref02_Reader_Fixed_12 : Code := Code.r c_towpathref02_Reader_Fixed_7
noncomputable def c_towpathref02_Reader_Fixed_13 : Code := Code.r c_towpathref02_Reader_Fixed_3
noncomputable def c_towpathref02_Reader_Fixed_14 : Code := Code.l c_towpathref02_Reader_Fixed_13
noncomputable def c_towpathref02_Reader_Fixed_15 : Code := Code.l c_towpathref02_Reader_Fixed_14
noncomputable def r_towpathref02_Reader_Fixed_15 : Array Oper := Code.ops c_towpathref02_Reader_Fixed_15
noncomputable def c_towpathref02_Reader_Fixed_17 : Code := Code.r c_towpathref02_Reader_Fixed_14
noncomputable def c_towpathref02_Reader_Fixed_18 : Code := Code.l c_towpathref02_Reader_Fixed_17
noncomputable def c_towpathref02_Reader_Fixed_19 : Code := Code.l c_towpathref02_Reader_Fixed_18
noncomputable def r_towpathref02_Reader_Fixed_19 : Array Oper := Code.ops c_towpathref02_Reader_Fixed_19
noncomputable def c_towpathref02_Reader_Fixed_21 : Code := Code.r c_towpathref02_Reader_Fixed_18
noncomputable def c_towpathref02_Reader_Fixed_22 : Code := Code.r c_towpathref02_Reader_Fixed_17
noncomputable def c_towpathref02_Reader_Fixed_23 : Code := Code.r c_towpathref02_Reader_Fixed_13
noncomputable def c_towpathref02_Reader_Fixed_24 : Code := Code.l c_towpathref02_Reader_Fixed_23
noncomputable def c_towpathref02_Reader_Fixed_25 : Code := Code.l c_towpathref02_Reader_Fixed_24
noncomputable def r_towpathref02_Reader_Fixed_25 : Array Oper := Code.ops c_towpathref02_Reader_Fixed_25
noncomputable def c_towpathref02_Reader_Fixed_27 : Code := Code.r c_towpathref02_Reader_Fixed_24
noncomputable def c_towpathref02_Reader_Fixed_28 : Code := Code.l c_towpathref02_Reader_Fixed_27
noncomputable def c_towpathref02_Reader_Fixed_29 : Code := Code.l c_towpathref02_Reader_Fixed_28
noncomputable def r_towpathref02_Reader_Fixed_29 : Array Oper := Code.ops c_towpathref02_Reader_Fixed_29
noncomputable def c_towpathref02_Reader_Fixed_31 : Code := Code.r c_towpathref02_Reader_Fixed_28
noncomputable def c_towpathref02_Reader_Fixed_32 : Code := Code.r c_towpathref02_Reader_Fixed_27
noncomputable def c_towpathref02_Reader_Fixed_33 : Code := Code.r c_towpathref02_Reader_Fixed_23
noncomputable def c_towpathref02_Reader_Fixed_34 : Code := Code.l c_towpathref02_Reader_Fixed_33
noncomputable def r_towpathref02_Reader_Fixed_34 : Array Oper := Code.ops c_towpathref02_Reader_Fixed_34
noncomputable def c_towpathref02_Reader_Fixed_36 : Code := Code.r c_towpathref02_Reader_Fixed_33
noncomputable def c_towpathref02_Reader_Fixed_37 : Code := Code.l c_towpathref02_Reader_Fixed_36
noncomputable def c_towpathref02_Reader_Fixed_38 : Code := Code.l c_towpathref02_Reader_Fixed_37
noncomputable def r_towpathref02_Reader_Fixed_38 : Array Oper := Code.ops c_towpathref02_Reader_Fixed_38
noncomputable def c_towpathref02_Reader_Fixed_40 : Code := Code.r c_towpathref02_Reader_Fixed_37
noncomputable def c_towpathref02_Reader_Fixed_41 : Code := Code.l c_towpathref02_Reader_Fixed_40
noncomputable def c_towpathref02_Reader_Fixed_42 : Code := Code.l c_towpathref02_Reader_Fixed_41
noncomputable def c_towpathref02_Reader_Fixed_43 : Code := Code.l c_towpathref02_Reader_Fixed_42
noncomputable def c_towpathref02_Reader_Fixed_44 : Code := Code.l c_towpathref02_Reader_Fixed_43
noncomputable def r_towpathref02_Reader_Fixed_44 : Array Oper := Code.ops c_towpathref02_Reader_Fixed_44
noncomputable def c_towpathref02_Reader_Fixed_46 : Code := Code.r c_towpathref02_Reader_Fixed_43
noncomputable def c_towpathref02_Reader_Fixed_47 : Code := Code.l c_towpathref02_Reader_Fixed_46
noncomputable def c_towpathref02_Reader_Fixed_48 : Code := Code.r c_towpathref02_Reader_Fixed_46
noncomputable def c_towpathref02_Reader_Fixed_49 : Code := Code.r c_towpathref02_Reader_Fixed_42
noncomputable def c_towpathref02_Reader_Fixed_50 : Code := Code.l c_towpathref02_Reader_Fixed_49
noncomputable def c_towpathref02_Reader_Fixed_51 : Code := Code.l c_towpathref02_Reader_Fixed_50
noncomputable def r_towpathref02_Reader_Fixed_51 : Array Oper := Code.ops c_towpathref02_Reader_Fixed_51
noncomputable def c_towpathref02_Reader_Fixed_53 : Code := Code.r c_towpathref02_Reader_Fixed_49
noncomputable def r_towpathref02_Reader_Fixed_53 : Array Oper := Code.ops c_towpathref02_Reader_Fixed_53
noncomputable def c_towpathref02_Reader_Fixed_55 : Code := Code.r c_towpathref02_Reader_Fixed_36
noncomputable def c_towpathref02_Reader_Fixed_56 : Code := Code.l c_towpathref02_Reader_Fixed_55
noncomputable def r_towpathref02_Reader_Fixed_56 : Array Oper := Code.ops c_towpathref02_Reader_Fixed_56
noncomputable def c_towpathref02_Reader_Fixed_58 : Code := Code.r c_towpathref02_Reader_Fixed_55
noncomputable def c_towpathref02_Reader_Fixed_59 : Code := Code.l c_towpathref02_Reader_Fixed_58
noncomputable def r_towpathref02_Reader_Fixed_59 : Array Oper := Code.ops c_towpathref02_Reader_Fixed_59
noncomputable def c_towpathref02_Reader_Fixed_61 : Code := Code.r c_towpathref02_Reader_Fixed_58

set_option maxRecDepth 100000 in
set_option maxHeartbeats 4000000 in
theorem S_towpathref02_Reader_Fixed {r : T_towpathref02_Reader} {width : Int} {w : World} {R : T_towpathref02_Reader → Int → World → Prop} (h : F_towpathref02_Reader_Fixed r width R w) : C_towpathref02_Reader_Fixed r width w R := by
  unfold F_towpathref02_Reader_Fixed at h
  unfold C_towpathref02_Reader_Fixed
  refine Calls.mono (calls_of_wpE (args := [Value.agg #[Value.bool r.Gone, Value.slice r.B.ptr r.B.len r.B.cap, Value.int .i64 r.At, Value.int .i64 r.Code], Value.int .i64 width]) (R := fun v w' => ∃ (r0 : T_towpathref02_Reader) (r1 : Int), v = Value.tuple #[Value.agg #[Value.bool r0.Gone, Value.slice r0.B.ptr r0.B.len r0.B.cap, Value.int .i64 r0.At, Value.int .i64 r0.Code], Value.int .u64 r1] ∧ R r0 r1 w') Try.func81 (c := c_towpathref02_Reader_Fixed_0) (by kernel_rfl) 54 (by kernel_rfl) (by kernel_rfl) [(0, Value.agg #[Value.bool r.Gone, Value.slice r.B.ptr r.B.len r.B.cap, Value.int .i64 r.At, Value.int .i64 r.Code]), (1, Value.int .i64 width)] (by kernel_rfl) ?_) ?_
  · refine wpE_seq (x := c_towpathref02_Reader_Fixed_1) (y := c_towpathref02_Reader_Fixed_3) (by kernel_rfl) ?_
    refine wpE_region (id := 0) (ops := r_towpathref02_Reader_Fixed_1) (by kernel_rfl) ?_
    refine reg_run [] 0 [(0, [], Value.agg #[Value.bool r.Gone, Value.slice r.B.ptr r.B.len r.B.cap, Value.int .i64 r.At, Value.int .i64 r.Code]), (1, [], Value.int .i64 width)] (by kernel_rfl) (by kernel_rfl) ?_
    refine reg_new (op := (Go.Op.box 89 (Go.Operand.tmp 0))) (ty := 0) (dst := some 2) (fun bb => Value.pointer (some ⟨bb, 0, none⟩)) (Obj.cells ([Value.bool r.Gone, Value.slice r.B.ptr r.B.len r.B.cap, Value.int .i64 r.At, Value.int .i64 r.Code]).toArray ty_towpathref02_Reader (0, 0)) (by kernel_rfl) (by kernel_rfl) (fun b_ w1 hb hw => ?_)
    replace h := h b_ w1 hb hw
    clear hb hw
    refine reg_run [] 1 [(1, [], Value.int .i64 width), (2, [], Value.pointer (some ⟨b_, 0, none⟩))] (by kernel_rfl) (by kernel_rfl) ?_
    refine reg_new (op := (Go.Op.alloc 89)) (ty := 0) (dst := some 4) (fun bb => Value.pointer (some ⟨bb, 0, none⟩)) (Obj.cells ([Value.bool false, Value.slice none 0 0, Value.int .i64 0, Value.int .i64 0]).toArray ty_towpathref02_Reader (0, 0)) (by kernel_rfl) (by kernel_rfl) (fun b_1 w2 hb hw => ?_)
    replace h := h b_1 w2 hb hw
    clear hb hw
    refine reg_run [.plain] 3 [(1, [], Value.int .i64 width), (2, [], Value.pointer (some ⟨b_, 0, none⟩)), (4, [], Value.pointer (some ⟨b_1, 0, none⟩))] (by kernel_rfl) (by kernel_rfl) ?_
    refine reg_end [(1, Value.int .i64 width), (2, Value.pointer (some ⟨b_, 0, none⟩)), (4, Value.pointer (some ⟨b_1, 0, none⟩))] (by kernel_rfl) (by kernel_rfl) ?_
    change WpE _ _ c_towpathref02_Reader_Fixed_3 _ _ _
    refine wpE_seq (x := c_towpathref02_Reader_Fixed_4) (y := c_towpathref02_Reader_Fixed_13) (by kernel_rfl) ?_
    refine wpE_seq (x := c_towpathref02_Reader_Fixed_5) (y := c_towpathref02_Reader_Fixed_7) (by kernel_rfl) ?_
    refine wpE_region (id := 1) (ops := r_towpathref02_Reader_Fixed_5) (by kernel_rfl) ?_
    refine reg_run [] 0 [(1, [], Value.int .i64 width), (2, [], Value.pointer (some ⟨b_, 0, none⟩)), (4, [], Value.pointer (some ⟨b_1, 0, none⟩))] (by kernel_rfl) (by kernel_rfl) ?_
    obtain ⟨v8, hc, h⟩ := h
    refine reg_loadN (t := 89) (a := (Go.Operand.tmp 2)) (b := b_) (o := 0) (ty := 89) (dst := some 8) [Value.bool v8.Gone, Value.slice v8.B.ptr v8.B.len v8.B.cap, Value.int .i64 v8.At, Value.int .i64 v8.Code] (by kernel_rfl) (by kernel_rfl) (by kernel_rfl) (k := 4) (by kernel_rfl) (by kernel_rfl) hc ?_
    refine reg_run [] 1 [(1, [], Value.int .i64 width), (2, [], Value.pointer (some ⟨b_, 0, none⟩)), (4, [], Value.pointer (some ⟨b_1, 0, none⟩)), (8, [], Value.agg #[Value.bool v8.Gone, Value.slice v8.B.ptr v8.B.len v8.B.cap, Value.int .i64 v8.At, Value.int .i64 v8.Code])] (by kernel_rfl) (by kernel_rfl) ?_
    refine reg_enter (op := (Go.Op.call (Go.Call.mk (Go.Callee.value (Go.Operand.func 78)) #[(Go.Operand.tmp 8)] #[89]))) (ty := 4) (dst := some 9) 78 #[Value.agg #[Value.bool v8.Gone, Value.slice v8.B.ptr v8.B.len v8.B.cap, Value.int .i64 v8.At, Value.int .i64 v8.Code]] (by kernel_rfl) (fun ww => by kernel_rfl) (Calls.mono h ?_)
    rintro _ w3 ⟨v9, rfl, h⟩
    refine ⟨_, rfl, ?_⟩
    refine reg_end [(1, Value.int .i64 width), (2, Value.pointer (some ⟨b_, 0, none⟩)), (4, Value.pointer (some ⟨b_1, 0, none⟩)), (9, Value.bool v9)] (by kernel_rfl) (by kernel_rfl) ?_
    change WpE _ _ c_towpathref02_Reader_Fixed_7 _ _ _
    refine wpE_cond (o := (Operand.tmp 9)) (b := v9) (x := c_towpathref02_Reader_Fixed_8) (y := c_towpathref02_Reader_Fixed_12) (by kernel_rfl) (by kernel_rfl) (fun hb => ?_) (fun hb => ?_)
    · replace h := h.1 hb
      refine wpE_seq (x := c_towpathref02_Reader_Fixed_9) (y := c_towpathref02_Reader_Fixed_11) (by kernel_rfl) ?_
      refine wpE_region (id := 2) (ops := r_towpathref02_Reader_Fixed_9) (by kernel_rfl) ?_
      refine reg_run [] 0 [(2, [], Value.pointer (some ⟨b_, 0, none⟩)), (4, [], Value.pointer (some ⟨b_1, 0, none⟩))] (by kernel_rfl) (by kernel_rfl) ?_
      obtain ⟨v10, hc, h⟩ := h
      refine reg_loadN (t := 89) (a := (Go.Operand.tmp 2)) (b := b_) (o := 0) (ty := 89) (dst := some 10) [Value.bool v10.Gone, Value.slice v10.B.ptr v10.B.len v10.B.cap, Value.int .i64 v10.At, Value.int .i64 v10.Code] (by kernel_rfl) (by kernel_rfl) (by kernel_rfl) (k := 4) (by kernel_rfl) (by kernel_rfl) hc ?_
      refine reg_run [] 1 [(4, [], Value.pointer (some ⟨b_1, 0, none⟩)), (10, [], Value.agg #[Value.bool v10.Gone, Value.slice v10.B.ptr v10.B.len v10.B.cap, Value.int .i64 v10.At, Value.int .i64 v10.Code])] (by kernel_rfl) (by kernel_rfl) ?_
      obtain ⟨hc, h⟩ := h
      refine reg_store (t := 89) (a := (Go.Operand.tmp 4)) (x := (Go.Operand.tmp 10)) (b := b_1) (o := 0) (ty := 0) (dst := none) [Value.bool v10.Gone, Value.slice v10.B.ptr v10.B.len v10.B.cap, Value.int .i64 v10.At, Value.int .i64 v10.Code] (by kernel_rfl) (by kernel_rfl) (by kernel_rfl) (k := 4) (by kernel_rfl) (by kernel_rfl) (by kernel_rfl) hc (fun w4 hw => ?_)
      replace h := h w4 hw
      clear hw
      refine reg_run [.plain] 3 [(4, [], Value.pointer (some ⟨b_1, 0, none⟩)), (5, [], Value.int .u64 0)] (by kernel_rfl) (by kernel_rfl) ?_
      refine reg_end [(4, Value.pointer (some ⟨b_1, 0, none⟩)), (5, Value.int .u64 0)] (by kernel_rfl) (by kernel_rfl) ?_
      change WpE _ _ c_towpathref02_Reader_Fixed_11 _ _ _
      refine wpE_ret (by kernel_rfl) ?_
      obtain ⟨res, hc_res, h⟩ := h
      repeat (first | refine seqQ_ret ?_ | refine blockQ_ret ?_ | refine loopQ_ret ?_ | refine cutQ_ret ?_)
      exact retT (rs := [(Go.ResultVar.cell 4 89), (Go.ResultVar.tmp 5)]) (vs := [Value.agg #[Value.bool res.Gone, Value.slice res.B.ptr res.B.len res.B.cap, Value.int .i64 res.At, Value.int .i64 res.Code], Value.int .u64 0]) (by kernel_rfl) (⟨b_1, 0, [Value.bool res.Gone, Value.slice res.B.ptr res.B.len res.B.cap, Value.int .i64 res.At, Value.int .i64 res.Code], by kernel_rfl, hc_res, (sizeP_of (k := 4) (by kernel_rfl) (by kernel_rfl)), .inl ⟨by kernel_rfl, rfl⟩, ⟨by kernel_rfl, trivial⟩⟩) (by kernel_rfl) ⟨res, 0, rfl, h⟩
    · replace h := h.2 hb
      refine wpE_skip (by kernel_rfl) ?_
      change WpE _ _ c_towpathref02_Reader_Fixed_13 _ _ _
      refine wpE_seq (x := c_towpathref02_Reader_Fixed_14) (y := c_towpathref02_Reader_Fixed_23) (by kernel_rfl) ?_
      refine wpE_seq (x := c_towpathref02_Reader_Fixed_15) (y := c_towpathref02_Reader_Fixed_17) (by kernel_rfl) ?_
      refine wpE_region (id := 3) (ops := r_towpathref02_Reader_Fixed_15) (by kernel_rfl) ?_
      refine reg_run [.plain, .plain, .plain, .plain, .plain, .pick] 6 [(1, [], Value.int .i64 width), (2, [], Value.pointer (some ⟨b_, 0, none⟩)), (4, [], Value.pointer (some ⟨b_1, 0, none⟩)), (16, [], Value.bool ((decide (width < 1)) || (decide (width > 8))))] (by kernel_rfl) (by kernel_rfl) ?_
      refine reg_end [(1, Value.int .i64 width), (2, Value.pointer (some ⟨b_, 0, none⟩)), (4, Value.pointer (some ⟨b_1, 0, none⟩)), (16, Value.bool ((decide (width < 1)) || (decide (width > 8))))] (by kernel_rfl) (by kernel_rfl) ?_
      change WpE _ _ c_towpathref02_Reader_Fixed_17 _ _ _
      refine wpE_cond (o := (Operand.tmp 16)) (b := ((decide (width < 1)) || (decide (width > 8)))) (x := c_towpathref02_Reader_Fixed_18) (y := c_towpathref02_Reader_Fixed_22) (by kernel_rfl) (by kernel_rfl) (fun hb => ?_) (fun hb => ?_)
      · replace h := h.1 hb
        refine wpE_seq (x := c_towpathref02_Reader_Fixed_19) (y := c_towpathref02_Reader_Fixed_21) (by kernel_rfl) ?_
        refine wpE_region (id := 4) (ops := r_towpathref02_Reader_Fixed_19) (by kernel_rfl) ?_
        refine reg_run [] 0 [(2, [], Value.pointer (some ⟨b_, 0, none⟩)), (4, [], Value.pointer (some ⟨b_1, 0, none⟩))] (by kernel_rfl) (by kernel_rfl) ?_
        obtain ⟨v17, hc, h⟩ := h
        refine reg_loadN (t := 89) (a := (Go.Operand.tmp 2)) (b := b_) (o := 0) (ty := 89) (dst := some 17) [Value.bool v17.Gone, Value.slice v17.B.ptr v17.B.len v17.B.cap, Value.int .i64 v17.At, Value.int .i64 v17.Code] (by kernel_rfl) (by kernel_rfl) (by kernel_rfl) (k := 4) (by kernel_rfl) (by kernel_rfl) hc ?_
        refine reg_run [] 1 [(4, [], Value.pointer (some ⟨b_1, 0, none⟩)), (17, [], Value.agg #[Value.bool v17.Gone, Value.slice v17.B.ptr v17.B.len v17.B.cap, Value.int .i64 v17.At, Value.int .i64 v17.Code])] (by kernel_rfl) (by kernel_rfl) ?_
        refine reg_enter (op := (Go.Op.call (Go.Call.mk (Go.Callee.value (Go.Operand.func 79)) #[(Go.Operand.tmp 17), (Go.Operand.const (Go.Value.int Go.IntKind.i64 1))] #[89, 28]))) (ty := 89) (dst := some 18) 79 #[Value.agg #[Value.bool v17.Gone, Value.slice v17.B.ptr v17.B.len v17.B.cap, Value.int .i64 v17.At, Value.int .i64 v17.Code], Value.int .i64 1] (by kernel_rfl) (fun ww => by kernel_rfl) (Calls.mono h ?_)
        rintro _ w5 ⟨v18, rfl, h⟩
        refine ⟨_, rfl, ?_⟩
        refine reg_run [] 2 [(4, [], Value.pointer (some ⟨b_1, 0, none⟩)), (18, [], Value.agg #[Value.bool v18.Gone, Value.slice v18.B.ptr v18.B.len v18.B.cap, Value.int .i64 v18.At, Value.int .i64 v18.Code])] (by kernel_rfl) (by kernel_rfl) ?_
        obtain ⟨hc, h⟩ := h
        refine reg_store (t := 89) (a := (Go.Operand.tmp 4)) (x := (Go.Operand.tmp 18)) (b := b_1) (o := 0) (ty := 0) (dst := none) [Value.bool v18.Gone, Value.slice v18.B.ptr v18.B.len v18.B.cap, Value.int .i64 v18.At, Value.int .i64 v18.Code] (by kernel_rfl) (by kernel_rfl) (by kernel_rfl) (k := 4) (by kernel_rfl) (by kernel_rfl) (by kernel_rfl) hc (fun w6 hw => ?_)
        replace h := h w6 hw
        clear hw
        refine reg_run [.plain] 4 [(4, [], Value.pointer (some ⟨b_1, 0, none⟩)), (5, [], Value.int .u64 0)] (by kernel_rfl) (by kernel_rfl) ?_
        refine reg_end [(4, Value.pointer (some ⟨b_1, 0, none⟩)), (5, Value.int .u64 0)] (by kernel_rfl) (by kernel_rfl) ?_
        change WpE _ _ c_towpathref02_Reader_Fixed_21 _ _ _
        refine wpE_ret (by kernel_rfl) ?_
        obtain ⟨res1, hc_res1, h⟩ := h
        repeat (first | refine seqQ_ret ?_ | refine blockQ_ret ?_ | refine loopQ_ret ?_ | refine cutQ_ret ?_)
        exact retT (rs := [(Go.ResultVar.cell 4 89), (Go.ResultVar.tmp 5)]) (vs := [Value.agg #[Value.bool res1.Gone, Value.slice res1.B.ptr res1.B.len res1.B.cap, Value.int .i64 res1.At, Value.int .i64 res1.Code], Value.int .u64 0]) (by kernel_rfl) (⟨b_1, 0, [Value.bool res1.Gone, Value.slice res1.B.ptr res1.B.len res1.B.cap, Value.int .i64 res1.At, Value.int .i64 res1.Code], by kernel_rfl, hc_res1, (sizeP_of (k := 4) (by kernel_rfl) (by kernel_rfl)), .inl ⟨by kernel_rfl, rfl⟩, ⟨by kernel_rfl, trivial⟩⟩) (by kernel_rfl) ⟨res1, 0, rfl, h⟩
      · replace h := h.2 hb
        refine wpE_skip (by kernel_rfl) ?_
        change WpE _ _ c_towpathref02_Reader_Fixed_23 _ _ _
        refine wpE_seq (x := c_towpathref02_Reader_Fixed_24) (y := c_towpathref02_Reader_Fixed_33) (by kernel_rfl) ?_
        refine wpE_seq (x := c_towpathref02_Reader_Fixed_25) (y := c_towpathref02_Reader_Fixed_27) (by kernel_rfl) ?_
        refine wpE_region (id := 5) (ops := r_towpathref02_Reader_Fixed_25) (by kernel_rfl) ?_
        refine reg_run [.plain, .plain] 2 [(1, [], Value.int .i64 width), (2, [], Value.pointer (some ⟨b_, 0, none⟩)), (4, [], Value.pointer (some ⟨b_1, 0, none⟩)), (19, [], Value.int .i64 width), (20, [], Value.pointer (some ⟨b_, 1, none⟩))] (by kernel_rfl) (by kernel_rfl) ?_
        obtain ⟨v21, hc, h⟩ := h
        refine reg_load1 (t := 22) (a := (Go.Operand.tmp 20)) (b := b_) (o := 1) (ty := 22) (dst := some 21) (by kernel_rfl) (by kernel_rfl) (by kernel_rfl) hc ?_
        refine reg_run [.plain, .plain] 5 [(1, [], Value.int .i64 width), (2, [], Value.pointer (some ⟨b_, 0, none⟩)), (4, [], Value.pointer (some ⟨b_1, 0, none⟩)), (19, [], Value.int .i64 width), (22, [], Value.int .i64 ((v21.len : Nat) : Int)), (23, [], Value.pointer (some ⟨b_, 2, none⟩))] (by kernel_rfl) (by kernel_rfl) ?_
        obtain ⟨v24, hc, h⟩ := h
        refine reg_load1 (t := 3) (a := (Go.Operand.tmp 23)) (b := b_) (o := 2) (ty := 3) (dst := some 24) (by kernel_rfl) (by kernel_rfl) (by kernel_rfl) hc ?_
        refine reg_run [.plain, .plain] 8 [(1, [], Value.int .i64 width), (2, [], Value.pointer (some ⟨b_, 0, none⟩)), (4, [], Value.pointer (some ⟨b_1, 0, none⟩)), (26, [], Value.bool (decide (width > (IntKind.i64.wrap (((v21.len : Nat) : Int) - v24)))))] (by kernel_rfl) (by kernel_rfl) ?_
        refine reg_end [(1, Value.int .i64 width), (2, Value.pointer (some ⟨b_, 0, none⟩)), (4, Value.pointer (some ⟨b_1, 0, none⟩)), (26, Value.bool (decide (width > (IntKind.i64.wrap (((v21.len : Nat) : Int) - v24)))))] (by kernel_rfl) (by kernel_rfl) ?_
        change WpE _ _ c_towpathref02_Reader_Fixed_27 _ _ _
        refine wpE_cond (o := (Operand.tmp 26)) (b := (decide (width > (IntKind.i64.wrap (((v21.len : Nat) : Int) - v24))))) (x := c_towpathref02_Reader_Fixed_28) (y := c_towpathref02_Reader_Fixed_32) (by kernel_rfl) (by kernel_rfl) (fun hb => ?_) (fun hb => ?_)
        · replace h := h.1 hb
          refine wpE_seq (x := c_towpathref02_Reader_Fixed_29) (y := c_towpathref02_Reader_Fixed_31) (by kernel_rfl) ?_
          refine wpE_region (id := 6) (ops := r_towpathref02_Reader_Fixed_29) (by kernel_rfl) ?_
          refine reg_run [] 0 [(2, [], Value.pointer (some ⟨b_, 0, none⟩)), (4, [], Value.pointer (some ⟨b_1, 0, none⟩))] (by kernel_rfl) (by kernel_rfl) ?_
          obtain ⟨v27, hc, h⟩ := h
          refine reg_loadN (t := 89) (a := (Go.Operand.tmp 2)) (b := b_) (o := 0) (ty := 89) (dst := some 27) [Value.bool v27.Gone, Value.slice v27.B.ptr v27.B.len v27.B.cap, Value.int .i64 v27.At, Value.int .i64 v27.Code] (by kernel_rfl) (by kernel_rfl) (by kernel_rfl) (k := 4) (by kernel_rfl) (by kernel_rfl) hc ?_
          refine reg_run [] 1 [(4, [], Value.pointer (some ⟨b_1, 0, none⟩)), (27, [], Value.agg #[Value.bool v27.Gone, Value.slice v27.B.ptr v27.B.len v27.B.cap, Value.int .i64 v27.At, Value.int .i64 v27.Code])] (by kernel_rfl) (by kernel_rfl) ?_
          refine reg_enter (op := (Go.Op.call (Go.Call.mk (Go.Callee.value (Go.Operand.func 79)) #[(Go.Operand.tmp 27), (Go.Operand.const (Go.Value.int Go.IntKind.i64 5))] #[89, 28]))) (ty := 89) (dst := some 28) 79 #[Value.agg #[Value.bool v27.Gone, Value.slice v27.B.ptr v27.B.len v27.B.cap, Value.int .i64 v27.At, Value.int .i64 v27.Code], Value.int .i64 5] (by kernel_rfl) (fun ww => by kernel_rfl) (Calls.mono h ?_)
          rintro _ w7 ⟨v28, rfl, h⟩
          refine ⟨_, rfl, ?_⟩
          refine reg_run [] 2 [(4, [], Value.pointer (some ⟨b_1, 0, none⟩)), (28, [], Value.agg #[Value.bool v28.Gone, Value.slice v28.B.ptr v28.B.len v28.B.cap, Value.int .i64 v28.At, Value.int .i64 v28.Code])] (by kernel_rfl) (by kernel_rfl) ?_
          obtain ⟨hc, h⟩ := h
          refine reg_store (t := 89) (a := (Go.Operand.tmp 4)) (x := (Go.Operand.tmp 28)) (b := b_1) (o := 0) (ty := 0) (dst := none) [Value.bool v28.Gone, Value.slice v28.B.ptr v28.B.len v28.B.cap, Value.int .i64 v28.At, Value.int .i64 v28.Code] (by kernel_rfl) (by kernel_rfl) (by kernel_rfl) (k := 4) (by kernel_rfl) (by kernel_rfl) (by kernel_rfl) hc (fun w8 hw => ?_)
          replace h := h w8 hw
          clear hw
          refine reg_run [.plain] 4 [(4, [], Value.pointer (some ⟨b_1, 0, none⟩)), (5, [], Value.int .u64 0)] (by kernel_rfl) (by kernel_rfl) ?_
          refine reg_end [(4, Value.pointer (some ⟨b_1, 0, none⟩)), (5, Value.int .u64 0)] (by kernel_rfl) (by kernel_rfl) ?_
          change WpE _ _ c_towpathref02_Reader_Fixed_31 _ _ _
          refine wpE_ret (by kernel_rfl) ?_
          obtain ⟨res2, hc_res2, h⟩ := h
          repeat (first | refine seqQ_ret ?_ | refine blockQ_ret ?_ | refine loopQ_ret ?_ | refine cutQ_ret ?_)
          exact retT (rs := [(Go.ResultVar.cell 4 89), (Go.ResultVar.tmp 5)]) (vs := [Value.agg #[Value.bool res2.Gone, Value.slice res2.B.ptr res2.B.len res2.B.cap, Value.int .i64 res2.At, Value.int .i64 res2.Code], Value.int .u64 0]) (by kernel_rfl) (⟨b_1, 0, [Value.bool res2.Gone, Value.slice res2.B.ptr res2.B.len res2.B.cap, Value.int .i64 res2.At, Value.int .i64 res2.Code], by kernel_rfl, hc_res2, (sizeP_of (k := 4) (by kernel_rfl) (by kernel_rfl)), .inl ⟨by kernel_rfl, rfl⟩, ⟨by kernel_rfl, trivial⟩⟩) (by kernel_rfl) ⟨res2, 0, rfl, h⟩
        · replace h := h.2 hb
          refine wpE_skip (by kernel_rfl) ?_
          change WpE _ _ c_towpathref02_Reader_Fixed_33 _ _ _
          refine wpE_seq (x := c_towpathref02_Reader_Fixed_34) (y := c_towpathref02_Reader_Fixed_36) (by kernel_rfl) ?_
          refine wpE_region (id := 7) (ops := r_towpathref02_Reader_Fixed_34) (by kernel_rfl) ?_
          refine reg_run [.plain] 1 [(1, [], Value.int .i64 width), (2, [], Value.pointer (some ⟨b_, 0, none⟩)), (4, [], Value.pointer (some ⟨b_1, 0, none⟩)), (6, [], Value.int .u64 0)] (by kernel_rfl) (by kernel_rfl) ?_
          refine reg_end [(1, Value.int .i64 width), (2, Value.pointer (some ⟨b_, 0, none⟩)), (4, Value.pointer (some ⟨b_1, 0, none⟩)), (6, Value.int .u64 0)] (by kernel_rfl) (by kernel_rfl) ?_
          change WpE _ _ c_towpathref02_Reader_Fixed_36 _ _ _
          refine wpE_seq (x := c_towpathref02_Reader_Fixed_37) (y := c_towpathref02_Reader_Fixed_55) (by kernel_rfl) ?_
          refine wpE_seq (x := c_towpathref02_Reader_Fixed_38) (y := c_towpathref02_Reader_Fixed_40) (by kernel_rfl) ?_
          refine wpE_region (id := 8) (ops := r_towpathref02_Reader_Fixed_38) (by kernel_rfl) ?_
          refine reg_run [.plain, .plain, .plain] 3 [(1, [], Value.int .i64 width), (2, [], Value.pointer (some ⟨b_, 0, none⟩)), (4, [], Value.pointer (some ⟨b_1, 0, none⟩)), (6, [], Value.int .u64 0), (7, [], Value.int .i64 (IntKind.i64.wrap (width - 1)))] (by kernel_rfl) (by kernel_rfl) ?_
          refine reg_end [(1, Value.int .i64 width), (2, Value.pointer (some ⟨b_, 0, none⟩)), (4, Value.pointer (some ⟨b_1, 0, none⟩)), (6, Value.int .u64 0), (7, Value.int .i64 (IntKind.i64.wrap (width - 1)))] (by kernel_rfl) (by kernel_rfl) ?_
          change WpE _ _ c_towpathref02_Reader_Fixed_40 _ _ _
          refine wpE_block (id := 0) (x := c_towpathref02_Reader_Fixed_41) (by kernel_rfl) ?_
          obtain ⟨I, μ, h0, hr⟩ := h
          refine wpE_loop (x := c_towpathref02_Reader_Fixed_42) (by kernel_rfl) (fun m l w => ∃ (n_ : Int) (i : Int), l = [(1, Value.int .i64 width), (2, Value.pointer (some ⟨b_, 0, none⟩)), (4, Value.pointer (some ⟨b_1, 0, none⟩)), (6, Value.int .u64 n_), (7, Value.int .i64 i)] ∧ I n_ i w ∧ μ n_ i w = m) (l' := [(1, Value.int .i64 width), (2, Value.pointer (some ⟨b_, 0, none⟩)), (4, Value.pointer (some ⟨b_1, 0, none⟩)), (6, Value.int .u64 0), (7, Value.int .i64 (IntKind.i64.wrap (width - 1)))]) (Sub.mk (by kernel_rfl)) ⟨0, (IntKind.i64.wrap (width - 1)), rfl, h0, rfl⟩ ?_
          rintro _ _ w9 ⟨n_, i, rfl, hI, rfl⟩
          obtain ⟨again_, again__h, h⟩ : ∃ again_ : Int → Int → World → Prop, (∀ n_' i' w', again_ n_' i' w' → I n_' i' w' ∧ μ n_' i' w' < μ n_ i w9) ∧ F_towpathref02_Reader_Fixed_L0 width R b_ b_1 again_ n_ i w9 := ⟨_, fun _ _ _ h => h, hr n_ i w9 hI⟩
          clear h0 hI
          unfold F_towpathref02_Reader_Fixed_L0 at h
          refine wpE_seq (x := c_towpathref02_Reader_Fixed_43) (y := c_towpathref02_Reader_Fixed_49) (by kernel_rfl) ?_
          refine wpE_seq (x := c_towpathref02_Reader_Fixed_44) (y := c_towpathref02_Reader_Fixed_46) (by kernel_rfl) ?_
          refine wpE_region (id := 9) (ops := r_towpathref02_Reader_Fixed_44) (by kernel_rfl) ?_
          refine reg_run [.plain, .plain] 2 [(1, [], Value.int .i64 width), (2, [], Value.pointer (some ⟨b_, 0, none⟩)), (4, [], Value.pointer (some ⟨b_1, 0, none⟩)), (6, [], Value.int .u64 n_), (7, [], Value.int .i64 i), (32, [], Value.bool (decide (i ≥ 0)))] (by kernel_rfl) (by kernel_rfl) ?_
          refine reg_end [(1, Value.int .i64 width), (2, Value.pointer (some ⟨b_, 0, none⟩)), (4, Value.pointer (some ⟨b_1, 0, none⟩)), (6, Value.int .u64 n_), (7, Value.int .i64 i), (32, Value.bool (decide (i ≥ 0)))] (by kernel_rfl) (by kernel_rfl) ?_
          change WpE _ _ c_towpathref02_Reader_Fixed_46 _ _ _
          refine wpE_cond (o := (Operand.tmp 32)) (b := (decide (i ≥ 0))) (x := c_towpathref02_Reader_Fixed_47) (y := c_towpathref02_Reader_Fixed_48) (by kernel_rfl) (by kernel_rfl) (fun hb => ?_) (fun hb => ?_)
          · replace h := h.1 hb
            refine wpE_skip (by kernel_rfl) ?_
            change WpE _ _ c_towpathref02_Reader_Fixed_49 _ _ _
            refine wpE_seq (x := c_towpathref02_Reader_Fixed_50) (y := c_towpathref02_Reader_Fixed_53) (by kernel_rfl) ?_
            refine wpE_block (id := 1) (x := c_towpathref02_Reader_Fixed_51) (by kernel_rfl) ?_
            refine wpE_region (id := 11) (ops := r_towpathref02_Reader_Fixed_51) (by kernel_rfl) ?_
            refine reg_run [.plain, .plain, .plain] 3 [(1, [], Value.int .i64 width), (2, [], Value.pointer (some ⟨b_, 0, none⟩)), (4, [], Value.pointer (some ⟨b_1, 0, none⟩)), (6, [], Value.int .u64 n_), (7, [], Value.int .i64 i), (36, [], Value.int .u64 (IntKind.u64.wrap (256 * n_))), (37, [], Value.pointer (some ⟨b_, 1, none⟩))] (by kernel_rfl) (by kernel_rfl) ?_
            obtain ⟨v38, hc, h⟩ := h
            refine reg_load1 (t := 22) (a := (Go.Operand.tmp 37)) (b := b_) (o := 1) (ty := 22) (dst := some 38) (by kernel_rfl) (by kernel_rfl) (by kernel_rfl) hc ?_
            refine reg_run [.plain] 5 [(1, [], Value.int .i64 width), (2, [], Value.pointer (some ⟨b_, 0, none⟩)), (4, [], Value.pointer (some ⟨b_1, 0, none⟩)), (6, [], Value.int .u64 n_), (7, [], Value.int .i64 i), (36, [], Value.int .u64 (IntKind.u64.wrap (256 * n_))), (38, [], Value.slice v38.ptr v38.len v38.cap), (39, [], Value.pointer (some ⟨b_, 2, none⟩))] (by kernel_rfl) (by kernel_rfl) ?_
            obtain ⟨v40, hc, h⟩ := h
            refine reg_load1 (t := 3) (a := (Go.Operand.tmp 39)) (b := b_) (o := 2) (ty := 3) (dst := some 40) (by kernel_rfl) (by kernel_rfl) (by kernel_rfl) hc ?_
            refine reg_run [.plain, .plain] 8 [(1, [], Value.int .i64 width), (2, [], Value.pointer (some ⟨b_, 0, none⟩)), (4, [], Value.pointer (some ⟨b_1, 0, none⟩)), (6, [], Value.int .u64 n_), (7, [], Value.int .i64 i), (36, [], Value.int .u64 (IntKind.u64.wrap (256 * n_))), (38, [], Value.slice v38.ptr v38.len v38.cap), (42, [], Value.int .i64 (IntKind.i64.wrap (v40 + i)))] (by kernel_rfl) (by kernel_rfl) ?_
            obtain ⟨hp_3, h⟩ := h
            refine reg_conv [(1, [], Value.int .i64 width), (2, [], Value.pointer (some ⟨b_, 0, none⟩)), (4, [], Value.pointer (some ⟨b_1, 0, none⟩)), (6, [], Value.int .u64 n_), (7, [], Value.int .i64 i), (36, [], Value.int .u64 (IntKind.u64.wrap (256 * n_))), (38, [], Value.slice (some ⟨(pblk v38.ptr), (poff v38.ptr), none⟩) v38.len v38.cap), (42, [], Value.int .i64 (IntKind.i64.wrap (v40 + i)))] (congrArg (fun pp => ([(1, [], Value.int .i64 width), (2, [], Value.pointer (some ⟨b_, 0, none⟩)), (4, [], Value.pointer (some ⟨b_1, 0, none⟩)), (6, [], Value.int .u64 n_), (7, [], Value.int .i64 i), (36, [], Value.int .u64 (IntKind.u64.wrap (256 * n_))), (38, [], Value.slice pp v38.len v38.cap), (42, [], Value.int .i64 (IntKind.i64.wrap (v40 + i)))] : GEnv)) hp_3) ?_
            obtain ⟨h0, h1, h⟩ := h
            refine reg_indexS1 (t := 22) (e := 5) (x := (Go.Operand.tmp 38)) (ix := (Go.Operand.tmp 42)) (b := (pblk v38.ptr)) (o := (poff v38.ptr)) (l := v38.len) (c := v38.cap) (k := .i64) (j := (IntKind.i64.wrap (v40 + i))) (ty := 0) (dst := some 43) (by kernel_rfl) (by kernel_rfl) (by kernel_rfl) (by kernel_rfl) (by kernel_rfl) h0 h1 ?_
            refine reg_run [] 9 [(1, [], Value.int .i64 width), (2, [], Value.pointer (some ⟨b_, 0, none⟩)), (4, [], Value.pointer (some ⟨b_1, 0, none⟩)), (6, [], Value.int .u64 n_), (7, [], Value.int .i64 i), (36, [], Value.int .u64 (IntKind.u64.wrap (256 * n_))), (43, [], Value.pointer (some ⟨(pblk v38.ptr), (poff v38.ptr) + (IntKind.i64.wrap (v40 + i)).toNat, none⟩))] (by kernel_rfl) (by kernel_rfl) ?_
            obtain ⟨v44, hc, h⟩ := h
            refine reg_load1 (t := 5) (a := (Go.Operand.tmp 43)) (b := (pblk v38.ptr)) (o := ((poff v38.ptr) + (IntKind.i64.wrap (v40 + i)).toNat)) (ty := 5) (dst := some 44) (by kernel_rfl) (by kernel_rfl) (by kernel_rfl) hc ?_
            refine reg_run [.plain, .plain, .plain] 13 [(1, [], Value.int .i64 width), (2, [], Value.pointer (some ⟨b_, 0, none⟩)), (4, [], Value.pointer (some ⟨b_1, 0, none⟩)), (6, [], Value.int .u64 (IntKind.u64.wrap ((IntKind.u64.wrap (256 * n_)) + (IntKind.u64.wrap v44)))), (7, [], Value.int .i64 i)] (by kernel_rfl) (by kernel_rfl) ?_
            refine reg_end [(1, Value.int .i64 width), (2, Value.pointer (some ⟨b_, 0, none⟩)), (4, Value.pointer (some ⟨b_1, 0, none⟩)), (6, Value.int .u64 (IntKind.u64.wrap ((IntKind.u64.wrap (256 * n_)) + (IntKind.u64.wrap v44)))), (7, Value.int .i64 i)] (by kernel_rfl) (by kernel_rfl) ?_
            change WpE _ _ c_towpathref02_Reader_Fixed_53 _ _ _
            refine wpE_region (id := 10) (ops := r_towpathref02_Reader_Fixed_53) (by kernel_rfl) ?_
            refine reg_run [.plain, .plain, .plain] 3 [(1, [], Value.int .i64 width), (2, [], Value.pointer (some ⟨b_, 0, none⟩)), (4, [], Value.pointer (some ⟨b_1, 0, none⟩)), (6, [], Value.int .u64 (IntKind.u64.wrap ((IntKind.u64.wrap (256 * n_)) + (IntKind.u64.wrap v44)))), (7, [], Value.int .i64 (IntKind.i64.wrap (i - 1)))] (by kernel_rfl) (by kernel_rfl) ?_
            refine reg_end [(1, Value.int .i64 width), (2, Value.pointer (some ⟨b_, 0, none⟩)), (4, Value.pointer (some ⟨b_1, 0, none⟩)), (6, Value.int .u64 (IntKind.u64.wrap ((IntKind.u64.wrap (256 * n_)) + (IntKind.u64.wrap v44)))), (7, Value.int .i64 (IntKind.i64.wrap (i - 1)))] (by kernel_rfl) (by kernel_rfl) ?_
            have hb_ := again__h _ _ _ h
            exact ⟨_, hb_.2, [(1, Value.int .i64 width), (2, Value.pointer (some ⟨b_, 0, none⟩)), (4, Value.pointer (some ⟨b_1, 0, none⟩)), (6, Value.int .u64 (IntKind.u64.wrap ((IntKind.u64.wrap (256 * n_)) + (IntKind.u64.wrap v44)))), (7, Value.int .i64 (IntKind.i64.wrap (i - 1)))], Sub.mk (by kernel_rfl), (IntKind.u64.wrap ((IntKind.u64.wrap (256 * n_)) + (IntKind.u64.wrap v44))), (IntKind.i64.wrap (i - 1)), rfl, hb_.1, rfl⟩
          · replace h := h.2 hb
            refine wpE_exit (id := 0) (by kernel_rfl) ?_
            change WpE _ _ c_towpathref02_Reader_Fixed_55 _ _ _
            refine wpE_seq (x := c_towpathref02_Reader_Fixed_56) (y := c_towpathref02_Reader_Fixed_58) (by kernel_rfl) ?_
            refine wpE_region (id := 12) (ops := r_towpathref02_Reader_Fixed_56) (by kernel_rfl) ?_
            refine reg_run [.plain] 1 [(1, [], Value.int .i64 width), (2, [], Value.pointer (some ⟨b_, 0, none⟩)), (4, [], Value.pointer (some ⟨b_1, 0, none⟩)), (6, [], Value.int .u64 n_), (47, [], Value.pointer (some ⟨b_, 2, none⟩))] (by kernel_rfl) (by kernel_rfl) ?_
            obtain ⟨v48, hc, h⟩ := h
            refine reg_load1 (t := 3) (a := (Go.Operand.tmp 47)) (b := b_) (o := 2) (ty := 3) (dst := some 48) (by kernel_rfl) (by kernel_rfl) (by kernel_rfl) hc ?_
            refine reg_run [.plain, .plain, .plain] 5 [(2, [], Value.pointer (some ⟨b_, 0, none⟩)), (4, [], Value.pointer (some ⟨b_1, 0, none⟩)), (6, [], Value.int .u64 n_), (50, [], Value.int .i64 (IntKind.i64.wrap (v48 + width))), (51, [], Value.pointer (some ⟨b_, 2, none⟩))] (by kernel_rfl) (by kernel_rfl) ?_
            obtain ⟨hc, h⟩ := h
            refine reg_store (t := 3) (a := (Go.Operand.tmp 51)) (x := (Go.Operand.tmp 50)) (b := b_) (o := 2) (ty := 0) (dst := none) [Value.int .i64 (IntKind.i64.wrap (v48 + width))] (by kernel_rfl) (by kernel_rfl) (by kernel_rfl) (k := 1) (by kernel_rfl) (by kernel_rfl) (by kernel_rfl) hc (fun w10 hw => ?_)
            replace h := h w10 hw
            clear hw
            refine reg_end [(2, Value.pointer (some ⟨b_, 0, none⟩)), (4, Value.pointer (some ⟨b_1, 0, none⟩)), (6, Value.int .u64 n_)] (by kernel_rfl) (by kernel_rfl) ?_
            change WpE _ _ c_towpathref02_Reader_Fixed_58 _ _ _
            refine wpE_seq (x := c_towpathref02_Reader_Fixed_59) (y := c_towpathref02_Reader_Fixed_61) (by kernel_rfl) ?_
            refine wpE_region (id := 13) (ops := r_towpathref02_Reader_Fixed_59) (by kernel_rfl) ?_
            refine reg_run [] 0 [(2, [], Value.pointer (some ⟨b_, 0, none⟩)), (4, [], Value.pointer (some ⟨b_1, 0, none⟩)), (6, [], Value.int .u64 n_)] (by kernel_rfl) (by kernel_rfl) ?_
            obtain ⟨v52, hc, h⟩ := h
            refine reg_loadN (t := 89) (a := (Go.Operand.tmp 2)) (b := b_) (o := 0) (ty := 89) (dst := some 52) [Value.bool v52.Gone, Value.slice v52.B.ptr v52.B.len v52.B.cap, Value.int .i64 v52.At, Value.int .i64 v52.Code] (by kernel_rfl) (by kernel_rfl) (by kernel_rfl) (k := 4) (by kernel_rfl) (by kernel_rfl) hc ?_
            refine reg_run [.plain] 2 [(4, [], Value.pointer (some ⟨b_1, 0, none⟩)), (52, [], Value.agg #[Value.bool v52.Gone, Value.slice v52.B.ptr v52.B.len v52.B.cap, Value.int .i64 v52.At, Value.int .i64 v52.Code]), (53, [], Value.int .u64 n_)] (by kernel_rfl) (by kernel_rfl) ?_
            obtain ⟨hc, h⟩ := h
            refine reg_store (t := 89) (a := (Go.Operand.tmp 4)) (x := (Go.Operand.tmp 52)) (b := b_1) (o := 0) (ty := 0) (dst := none) [Value.bool v52.Gone, Value.slice v52.B.ptr v52.B.len v52.B.cap, Value.int .i64 v52.At, Value.int .i64 v52.Code] (by kernel_rfl) (by kernel_rfl) (by kernel_rfl) (k := 4) (by kernel_rfl) (by kernel_rfl) (by kernel_rfl) hc (fun w11 hw => ?_)
            replace h := h w11 hw
            clear hw
            refine reg_run [.plain] 4 [(4, [], Value.pointer (some ⟨b_1, 0, none⟩)), (5, [], Value.int .u64 n_)] (by kernel_rfl) (by kernel_rfl) ?_
            refine reg_end [(4, Value.pointer (some ⟨b_1, 0, none⟩)), (5, Value.int .u64 n_)] (by kernel_rfl) (by kernel_rfl) ?_
            change WpE _ _ c_towpathref02_Reader_Fixed_61 _ _ _
            refine wpE_ret (by kernel_rfl) ?_
            obtain ⟨res3, hc_res3, h⟩ := h
            repeat (first | refine seqQ_ret ?_ | refine blockQ_ret ?_ | refine loopQ_ret ?_ | refine cutQ_ret ?_)
            exact retT (rs := [(Go.ResultVar.cell 4 89), (Go.ResultVar.tmp 5)]) (vs := [Value.agg #[Value.bool res3.Gone, Value.slice res3.B.ptr res3.B.len res3.B.cap, Value.int .i64 res3.At, Value.int .i64 res3.Code], Value.int .u64 n_]) (by kernel_rfl) (⟨b_1, 0, [Value.bool res3.Gone, Value.slice res3.B.ptr res3.B.len res3.B.cap, Value.int .i64 res3.At, Value.int .i64 res3.Code], by kernel_rfl, hc_res3, (sizeP_of (k := 4) (by kernel_rfl) (by kernel_rfl)), .inl ⟨by kernel_rfl, rfl⟩, ⟨by kernel_rfl, trivial⟩⟩) (by kernel_rfl) ⟨res3, n_, rfl, h⟩
  · rintro e w' ⟨v, rfl, r0, r1, rfl, h⟩; exact ⟨r0, r1, rfl, h⟩
end Go.Proofs.Ytfmkemmgakdddaa
