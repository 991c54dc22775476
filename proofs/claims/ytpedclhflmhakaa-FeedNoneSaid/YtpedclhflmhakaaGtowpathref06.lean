/- WRITTEN BY PROGRAM (dec.py): for each Go function the clean formula F, the call's contract C, and the proof S that F gives C. -/
import Derived.Test.YtpedclhflmhakaaRows
import Derived.Test.YtpedclhflmhakaaGF
namespace Go.Proofs.Ytpedclhflmhakaa
open Go
set_option linter.unusedVariables false

/-! ### towpath/towpathref06.Own (function 83) -/
noncomputable def c_towpathref06_Own_0 : Code := (Try.f83.body).getD Code.skip
noncomputable def c_towpathref06_Own_1 : Code := Code.l c_towpathref06_Own_0
noncomputable def r_towpathref06_Own_1 : Array Oper := Code.ops c_towpathref06_Own_1
noncomputable def c_towpathref06_Own_3 : Code := Code.r c_towpathref06_Own_0
noncomputable def c_towpathref06_Own_4 : Code := Code.l c_towpathref06_Own_3
noncomputable def r_towpathref06_Own_4 : Array Oper := Code.ops c_towpathref06_Own_4
noncomputable def c_towpathref06_Own_6 : Code := Code.r c_towpathref06_Own_3
noncomputable def c_towpathref06_Own_7 : Code := Code.l c_towpathref06_Own_6
noncomputable def r_towpathref06_Own_7 : Array Oper := Code.ops c_towpathref06_Own_7
noncomputable def c_towpathref06_Own_9 : Code := Code.r c_towpathref06_Own_6
noncomputable def c_towpathref06_Own_10 : Code := Code.l c_towpathref06_Own_9
noncomputable def r_towpathref06_Own_10 : Array Oper := Code.ops c_towpathref06_Own_10
noncomputable def c_towpathref06_Own_12 : Code := Code.r c_towpathref06_Own_9

set_option maxRecDepth 100000 in
set_option maxHeartbeats 4000000 in
theorem S_towpathref06_Own {t_ : T_api_Txn} {w : World} {R : T_api_Txn → World → Prop} (h : F_towpathref06_Own t_ R w) : C_towpathref06_Own t_ w R := by
  unfold F_towpathref06_Own at h
  unfold C_towpathref06_Own
  refine Calls.mono (calls_of_wpE (args := [Value.agg #[Value.int .i64 t_.Number, Value.slice t_.Writes.ptr t_.Writes.len t_.Writes.cap]]) (R := fun v w' => ∃ (r0 : T_api_Txn), v = Value.agg #[Value.int .i64 r0.Number, Value.slice r0.Writes.ptr r0.Writes.len r0.Writes.cap] ∧ R r0 w') Try.func83 (c := c_towpathref06_Own_0) (by kernel_rfl) 12 (by kernel_rfl) (by kernel_rfl) [(0, Value.agg #[Value.int .i64 t_.Number, Value.slice t_.Writes.ptr t_.Writes.len t_.Writes.cap])] (by kernel_rfl) ?_) ?_
  · refine wpE_seq (x := c_towpathref06_Own_1) (y := c_towpathref06_Own_3) (by kernel_rfl) ?_
    refine wpE_region (id := 0) (ops := r_towpathref06_Own_1) (by kernel_rfl) ?_
    refine reg_run [] 0 [(0, [], Value.agg #[Value.int .i64 t_.Number, Value.slice t_.Writes.ptr t_.Writes.len t_.Writes.cap])] (by kernel_rfl) (by kernel_rfl) ?_
    refine reg_new (op := (Go.Op.box 42 (Go.Operand.tmp 0))) (ty := 0) (dst := some 1) (fun bb => Value.pointer (some ⟨bb, 0, none⟩)) (Obj.cells ([Value.int .i64 t_.Number, Value.slice t_.Writes.ptr t_.Writes.len t_.Writes.cap]).toArray ty_api_Txn (0, 0)) (by kernel_rfl) (by kernel_rfl) (fun b_ w1 hb hw => ?_)
    replace h := h b_ w1 hb hw
    clear hb hw
    refine reg_run [] 1 [(1, [], Value.pointer (some ⟨b_, 0, none⟩))] (by kernel_rfl) (by kernel_rfl) ?_
    refine reg_new (op := (Go.Op.alloc 42)) (ty := 0) (dst := some 2) (fun bb => Value.pointer (some ⟨bb, 0, none⟩)) (Obj.cells ([Value.int .i64 0, Value.slice none 0 0]).toArray ty_api_Txn (0, 0)) (by kernel_rfl) (by kernel_rfl) (fun b_1 w2 hb hw => ?_)
    replace h := h b_1 w2 hb hw
    clear hb hw
    refine reg_end [(1, Value.pointer (some ⟨b_, 0, none⟩)), (2, Value.pointer (some ⟨b_1, 0, none⟩))] (by kernel_rfl) (by kernel_rfl) ?_
    change WpE _ _ c_towpathref06_Own_3 _ _ _
    refine wpE_seq (x := c_towpathref06_Own_4) (y := c_towpathref06_Own_6) (by kernel_rfl) ?_
    refine wpE_region (id := 1) (ops := r_towpathref06_Own_4) (by kernel_rfl) ?_
    refine reg_run [.plain] 1 [(1, [], Value.pointer (some ⟨b_, 0, none⟩)), (2, [], Value.pointer (some ⟨b_1, 0, none⟩)), (3, [], Value.slice none 0 0)] (by kernel_rfl) (by kernel_rfl) ?_
    refine reg_end [(1, Value.pointer (some ⟨b_, 0, none⟩)), (2, Value.pointer (some ⟨b_1, 0, none⟩)), (3, Value.slice none 0 0)] (by kernel_rfl) (by kernel_rfl) ?_
    change WpE _ _ c_towpathref06_Own_6 _ _ _
    refine wpE_seq (x := c_towpathref06_Own_7) (y := c_towpathref06_Own_9) (by kernel_rfl) ?_
    refine wpE_region (id := 2) (ops := r_towpathref06_Own_7) (by kernel_rfl) ?_
    refine reg_run [.plain, .plain] 2 [(1, [], Value.pointer (some ⟨b_, 0, none⟩)), (2, [], Value.pointer (some ⟨b_1, 0, none⟩)), (3, [], Value.slice none 0 0), (4, [], Value.slice none 0 0), (5, [], Value.pointer (some ⟨b_, 1, none⟩))] (by kernel_rfl) (by kernel_rfl) ?_
    obtain ⟨v6, hc, h⟩ := h
    refine reg_load1 (t := 40) (a := (Go.Operand.tmp 5)) (b := b_) (o := 1) (ty := 40) (dst := some 6) (by kernel_rfl) (by kernel_rfl) (by kernel_rfl) hc ?_
    refine reg_run [] 3 [(1, [], Value.pointer (some ⟨b_, 0, none⟩)), (2, [], Value.pointer (some ⟨b_1, 0, none⟩)), (3, [], Value.slice none 0 0), (4, [], Value.slice none 0 0), (6, [], Value.slice v6.ptr v6.len v6.cap)] (by kernel_rfl) (by kernel_rfl) ?_
    obtain ⟨src, hs, h⟩ := h
    refine reg_append (t := 40) (tx := 40) (e := 78) (a := (Go.Operand.tmp 4)) (xo := (Go.Operand.tmp 6)) (s := (Slc.mk none 0 0)) (x := v6) (sz := 3) (by_ := 40) (zs := [Value.string ByteArray.empty, Value.string ByteArray.empty, Value.bool false]) (ty := 40) (dst := some 7)  src (by kernel_rfl) (by kernel_rfl) (by kernel_rfl) (by kernel_rfl) (by kernel_rfl) (by kernel_rfl) (by kernel_rfl) (by kernel_rfl) (by kernel_rfl) hs (AppendW.mono h (fun w_ w3 h => ?_))
    refine reg_run [.plain] 5 [(1, [], Value.pointer (some ⟨b_, 0, none⟩)), (2, [], Value.pointer (some ⟨b_1, 0, none⟩)), (3, [], Value.slice w_.ptr w_.len w_.cap)] (by kernel_rfl) (by kernel_rfl) ?_
    refine reg_end [(1, Value.pointer (some ⟨b_, 0, none⟩)), (2, Value.pointer (some ⟨b_1, 0, none⟩)), (3, Value.slice w_.ptr w_.len w_.cap)] (by kernel_rfl) (by kernel_rfl) ?_
    change WpE _ _ c_towpathref06_Own_9 _ _ _
    refine wpE_seq (x := c_towpathref06_Own_10) (y := c_towpathref06_Own_12) (by kernel_rfl) ?_
    refine wpE_region (id := 3) (ops := r_towpathref06_Own_10) (by kernel_rfl) ?_
    refine reg_run [.plain] 1 [(2, [], Value.pointer (some ⟨b_1, 0, none⟩)), (3, [], Value.slice w_.ptr w_.len w_.cap), (8, [], Value.pointer (some ⟨b_, 0, none⟩))] (by kernel_rfl) (by kernel_rfl) ?_
    obtain ⟨v9, hc, h⟩ := h
    refine reg_load1 (t := 3) (a := (Go.Operand.tmp 8)) (b := b_) (o := 0) (ty := 3) (dst := some 9) (by kernel_rfl) (by kernel_rfl) (by kernel_rfl) hc ?_
    refine reg_run [.plain, .plain] 4 [(2, [], Value.pointer (some ⟨b_1, 0, none⟩)), (11, [], Value.agg #[Value.int .i64 v9, Value.slice w_.ptr w_.len w_.cap])] (by kernel_rfl) (by kernel_rfl) ?_
    obtain ⟨hc, h⟩ := h
    refine reg_store (t := 42) (a := (Go.Operand.tmp 2)) (x := (Go.Operand.tmp 11)) (b := b_1) (o := 0) (ty := 0) (dst := none) [Value.int .i64 v9, Value.slice w_.ptr w_.len w_.cap] (by kernel_rfl) (by kernel_rfl) (by kernel_rfl) (k := 2) (by kernel_rfl) (by kernel_rfl) (by kernel_rfl) hc (fun w4 hw => ?_)
    replace h := h w4 hw
    clear hw
    refine reg_end [(2, Value.pointer (some ⟨b_1, 0, none⟩))] (by kernel_rfl) (by kernel_rfl) ?_
    change WpE _ _ c_towpathref06_Own_12 _ _ _
    refine wpE_ret (by kernel_rfl) ?_
    obtain ⟨res, hc_res, h⟩ := h
    repeat (first | refine seqQ_ret ?_ | refine blockQ_ret ?_ | refine loopQ_ret ?_ | refine cutQ_ret ?_)
    exact retS (rs := [(Go.ResultVar.cell 2 42)]) (v := Value.agg #[Value.int .i64 res.Number, Value.slice res.Writes.ptr res.Writes.len res.Writes.cap]) (by kernel_rfl) (⟨b_1, 0, [Value.int .i64 res.Number, Value.slice res.Writes.ptr res.Writes.len res.Writes.cap], by kernel_rfl, hc_res, (sizeP_of (k := 2) (by kernel_rfl) (by kernel_rfl)), .inl ⟨by kernel_rfl, rfl⟩, trivial⟩) ⟨res, rfl, h⟩
  · rintro e w' ⟨v, rfl, r0, rfl, h⟩; exact ⟨r0, rfl, h⟩

/-! ### (*towpath/towpathref06.Source).Last (function 84) -/
noncomputable def c_towpathref06_Source_Last_0 : Code := (Try.f84.body).getD Code.skip
noncomputable def c_towpathref06_Source_Last_1 : Code := Code.l c_towpathref06_Source_Last_0
noncomputable def r_towpathref06_Source_Last_1 : Array Oper := Code.ops c_towpathref06_Source_Last_1
noncomputable def c_towpathref06_Source_Last_3 : Code := Code.r c_towpathref06_Source_Last_0
noncomputable def c_towpathref06_Source_Last_4 : Code := Code.l c_towpathref06_Source_Last_3
noncomputable def c_towpathref06_Source_Last_5 : Code := Code.l c_towpathref06_Source_Last_4
noncomputable def r_towpathref06_Source_Last_5 : Array Oper := Code.ops c_towpathref06_Source_Last_5
noncomputable def c_towpathref06_Source_Last_7 : Code := Code.r c_towpathref06_Source_Last_4
noncomputable def c_towpathref06_Source_Last_8 : Code := Code.l c_towpathref06_Source_Last_7
noncomputable def c_towpathref06_Source_Last_9 : Code := Code.l c_towpathref06_Source_Last_8
noncomputable def r_towpathref06_Source_Last_9 : Array Oper := Code.ops c_towpathref06_Source_Last_9
noncomputable def c_towpathref06_Source_Last_11 : Code := Code.r c_towpathref06_Source_Last_8
noncomputable def c_towpathref06_Source_Last_12 : Code := Code.r c_towpathref06_Source_Last_7
noncomputable def c_towpathref06_Source_Last_13 : Code := Code.r c_towpathref06_Source_Last_3
noncomputable def c_towpathref06_Source_Last_14 : Code := Code.l c_towpathref06_Source_Last_13
noncomputable def r_towpathref06_Source_Last_14 : Array Oper := Code.ops c_towpathref06_Source_Last_14
noncomputable def c_towpathref06_Source_Last_16 : Code := Code.r c_towpathref06_Source_Last_13

set_option maxRecDepth 100000 in
set_option maxHeartbeats 4000000 in
theorem S_towpathref06_Source_Last {s : Option Addr} {w : World} {R : Int → World → Prop} (h : F_towpathref06_Source_Last s R w) : C_towpathref06_Source_Last s w R := by
  unfold F_towpathref06_Source_Last at h
  unfold C_towpathref06_Source_Last
  refine Calls.mono (calls_of_wpE (args := [Value.pointer s]) (R := fun v w' => ∃ (r0 : Int), v = Value.int .i64 r0 ∧ R r0 w') Try.func84 (c := c_towpathref06_Source_Last_0) (by kernel_rfl) 10 (by kernel_rfl) (by kernel_rfl) [(0, Value.pointer s)] (by kernel_rfl) ?_) ?_
  · refine wpE_seq (x := c_towpathref06_Source_Last_1) (y := c_towpathref06_Source_Last_3) (by kernel_rfl) ?_
    refine wpE_region (id := 0) (ops := r_towpathref06_Source_Last_1) (by kernel_rfl) ?_
    refine reg_run [.plain] 1 [(0, [], Value.pointer s)] (by kernel_rfl) (by kernel_rfl) ?_
    refine reg_end [(0, Value.pointer s)] (by kernel_rfl) (by kernel_rfl) ?_
    change WpE _ _ c_towpathref06_Source_Last_3 _ _ _
    refine wpE_seq (x := c_towpathref06_Source_Last_4) (y := c_towpathref06_Source_Last_13) (by kernel_rfl) ?_
    refine wpE_seq (x := c_towpathref06_Source_Last_5) (y := c_towpathref06_Source_Last_7) (by kernel_rfl) ?_
    refine wpE_region (id := 1) (ops := r_towpathref06_Source_Last_5) (by kernel_rfl) ?_
    refine reg_run [.plain] 1 [(0, [], Value.pointer s), (3, [], Value.pointer s)] (by kernel_rfl) (by kernel_rfl) ?_
    refine reg_val (op := (Go.Op.binOp Go.BinOp.eql 107 (Go.Operand.tmp 3) (Go.Operand.const (Go.Value.pointer none)) 107)) (ty := 4) (dst := some 4) (Value.bool s.isNone) (by kernel_rfl) (fun ww => run_ptr_eql_R (p := s) (by kernel_rfl) (by kernel_rfl) (by kernel_rfl) ww) ?_
    refine reg_end [(0, Value.pointer s), (4, Value.bool s.isNone)] (by kernel_rfl) (by kernel_rfl) ?_
    change WpE _ _ c_towpathref06_Source_Last_7 _ _ _
    refine wpE_cond (o := (Operand.tmp 4)) (b := s.isNone) (x := c_towpathref06_Source_Last_8) (y := c_towpathref06_Source_Last_12) (by kernel_rfl) (by kernel_rfl) (fun hb => ?_) (fun hb => ?_)
    · replace h := h.1 hb
      refine wpE_seq (x := c_towpathref06_Source_Last_9) (y := c_towpathref06_Source_Last_11) (by kernel_rfl) ?_
      refine wpE_region (id := 2) (ops := r_towpathref06_Source_Last_9) (by kernel_rfl) ?_
      refine reg_run [.plain] 1 [(2, [], Value.int .i64 0)] (by kernel_rfl) (by kernel_rfl) ?_
      refine reg_end [(2, Value.int .i64 0)] (by kernel_rfl) (by kernel_rfl) ?_
      change WpE _ _ c_towpathref06_Source_Last_11 _ _ _
      refine wpE_ret (by kernel_rfl) ?_
      repeat (first | refine seqQ_ret ?_ | refine blockQ_ret ?_ | refine loopQ_ret ?_ | refine cutQ_ret ?_)
      exact retS (rs := [(Go.ResultVar.tmp 2)]) (v := Value.int .i64 0) (by kernel_rfl) (⟨by kernel_rfl, trivial⟩) ⟨0, rfl, h⟩
    · replace h := h.2 hb
      refine wpE_skip (by kernel_rfl) ?_
      change WpE _ _ c_towpathref06_Source_Last_13 _ _ _
      refine wpE_seq (x := c_towpathref06_Source_Last_14) (y := c_towpathref06_Source_Last_16) (by kernel_rfl) ?_
      refine wpE_region (id := 3) (ops := r_towpathref06_Source_Last_14) (by kernel_rfl) ?_
      refine reg_run [.plain] 1 [(5, [], Value.pointer s)] (by kernel_rfl) (by kernel_rfl) ?_
      obtain ⟨hp_0, h⟩ := h
      refine reg_conv [(5, [], Value.pointer (some ⟨(pblk s), (poff s), none⟩))] (congrArg (fun pp => ([(5, [], Value.pointer pp)] : GEnv)) hp_0) ?_
      refine reg_run [.plain] 2 [(5, [], Value.pointer (some ⟨(pblk s), (poff s), none⟩)), (6, [], Value.pointer (some ⟨(pblk s), (poff s), none⟩))] (by kernel_rfl) (by kernel_rfl) ?_
      refine reg_run [.plain] 3 [(7, [], Value.pointer (some ⟨(pblk s), (poff s), none⟩))] (by kernel_rfl) (by kernel_rfl) ?_
      obtain ⟨v8, hc, h⟩ := h
      refine reg_load1 (t := 22) (a := (Go.Operand.tmp 7)) (b := (pblk s)) (o := (poff s)) (ty := 22) (dst := some 8) (by kernel_rfl) (by kernel_rfl) (by kernel_rfl) hc ?_
      refine reg_run [.plain, .plain] 6 [(2, [], Value.int .i64 ((v8.len : Nat) : Int))] (by kernel_rfl) (by kernel_rfl) ?_
      refine reg_end [(2, Value.int .i64 ((v8.len : Nat) : Int))] (by kernel_rfl) (by kernel_rfl) ?_
      change WpE _ _ c_towpathref06_Source_Last_16 _ _ _
      refine wpE_ret (by kernel_rfl) ?_
      repeat (first | refine seqQ_ret ?_ | refine blockQ_ret ?_ | refine loopQ_ret ?_ | refine cutQ_ret ?_)
      exact retS (rs := [(Go.ResultVar.tmp 2)]) (v := Value.int .i64 ((v8.len : Nat) : Int)) (by kernel_rfl) (⟨by kernel_rfl, trivial⟩) ⟨((v8.len : Nat) : Int), rfl, h⟩
  · rintro e w' ⟨v, rfl, r0, rfl, h⟩; exact ⟨r0, rfl, h⟩

/-! ### (*towpath/towpathref06.Source).Get (function 87) -/
noncomputable def c_towpathref06_Source_Get_0 : Code := (Try.f87.body).getD Code.skip
noncomputable def c_towpathref06_Source_Get_1 : Code := Code.l c_towpathref06_Source_Get_0
noncomputable def r_towpathref06_Source_Get_1 : Array Oper := Code.ops c_towpathref06_Source_Get_1
noncomputable def c_towpathref06_Source_Get_3 : Code := Code.r c_towpathref06_Source_Get_0
noncomputable def c_towpathref06_Source_Get_4 : Code := Code.l c_towpathref06_Source_Get_3
noncomputable def c_towpathref06_Source_Get_5 : Code := Code.l c_towpathref06_Source_Get_4
noncomputable def r_towpathref06_Source_Get_5 : Array Oper := Code.ops c_towpathref06_Source_Get_5
noncomputable def c_towpathref06_Source_Get_7 : Code := Code.r c_towpathref06_Source_Get_4
noncomputable def c_towpathref06_Source_Get_8 : Code := Code.l c_towpathref06_Source_Get_7
noncomputable def c_towpathref06_Source_Get_9 : Code := Code.l c_towpathref06_Source_Get_8
noncomputable def r_towpathref06_Source_Get_9 : Array Oper := Code.ops c_towpathref06_Source_Get_9
noncomputable def c_towpathref06_Source_Get_11 : Code := Code.r c_towpathref06_Source_Get_8
noncomputable def c_towpathref06_Source_Get_12 : Code := Code.r c_towpathref06_Source_Get_7
noncomputable def c_towpathref06_Source_Get_13 : Code := Code.r c_towpathref06_Source_Get_3
noncomputable def c_towpathref06_Source_Get_14 : Code := Code.l c_towpathref06_Source_Get_13
noncomputable def c_towpathref06_Source_Get_15 : Code := Code.l c_towpathref06_Source_Get_14
noncomputable def r_towpathref06_Source_Get_15 : Array Oper := Code.ops c_towpathref06_Source_Get_15
noncomputable def c_towpathref06_Source_Get_17 : Code := Code.r c_towpathref06_Source_Get_14
noncomputable def c_towpathref06_Source_Get_18 : Code := Code.l c_towpathref06_Source_Get_17
noncomputable def c_towpathref06_Source_Get_19 : Code := Code.l c_towpathref06_Source_Get_18
noncomputable def r_towpathref06_Source_Get_19 : Array Oper := Code.ops c_towpathref06_Source_Get_19
noncomputable def c_towpathref06_Source_Get_21 : Code := Code.r c_towpathref06_Source_Get_18
noncomputable def c_towpathref06_Source_Get_22 : Code := Code.r c_towpathref06_Source_Get_17
noncomputable def c_towpathref06_Source_Get_23 : Code := Code.r c_towpathref06_Source_Get_13
noncomputable def c_towpathref06_Source_Get_24 : Code := Code.l c_towpathref06_Source_Get_23
noncomputable def r_towpathref06_Source_Get_24 : Array Oper := Code.ops c_towpathref06_Source_Get_24
noncomputable def c_towpathref06_Source_Get_26 : Code := Code.r c_towpathref06_Source_Get_23
noncomputable def c_towpathref06_Source_Get_27 : Code := Code.l c_towpathref06_Source_Get_26
noncomputable def r_towpathref06_Source_Get_27 : Array Oper := Code.ops c_towpathref06_Source_Get_27
noncomputable def c_towpathref06_Source_Get_29 : Code := Code.r c_towpathref06_Source_Get_26

set_option maxRecDepth 100000 in
set_option maxHeartbeats 4000000 in
theorem S_towpathref06_Source_Get {s : Option Addr} {number : Int} {w : World} {R : T_api_Txn → Int → World → Prop} (h : F_towpathref06_Source_Get s number R w) : C_towpathref06_Source_Get s number w R := by
  unfold F_towpathref06_Source_Get at h
  unfold C_towpathref06_Source_Get
  refine Calls.mono (calls_of_wpE (args := [Value.pointer s, Value.int .i64 number]) (R := fun v w' => ∃ (r0 : T_api_Txn) (r1 : Int), v = Value.tuple #[Value.agg #[Value.int .i64 r0.Number, Value.slice r0.Writes.ptr r0.Writes.len r0.Writes.cap], Value.int .i64 r1] ∧ R r0 r1 w') Try.func87 (c := c_towpathref06_Source_Get_0) (by kernel_rfl) 40 (by kernel_rfl) (by kernel_rfl) [(0, Value.pointer s), (1, Value.int .i64 number)] (by kernel_rfl) ?_) ?_
  · refine wpE_seq (x := c_towpathref06_Source_Get_1) (y := c_towpathref06_Source_Get_3) (by kernel_rfl) ?_
    refine wpE_region (id := 0) (ops := r_towpathref06_Source_Get_1) (by kernel_rfl) ?_
    refine reg_run [] 0 [(0, [], Value.pointer s), (1, [], Value.int .i64 number)] (by kernel_rfl) (by kernel_rfl) ?_
    refine reg_new (op := (Go.Op.alloc 42)) (ty := 0) (dst := some 4) (fun bb => Value.pointer (some ⟨bb, 0, none⟩)) (Obj.cells ([Value.int .i64 0, Value.slice none 0 0]).toArray ty_api_Txn (0, 0)) (by kernel_rfl) (by kernel_rfl) (fun b_ w1 hb hw => ?_)
    replace h := h b_ w1 hb hw
    clear hb hw
    refine reg_run [.plain] 2 [(0, [], Value.pointer s), (1, [], Value.int .i64 number), (4, [], Value.pointer (some ⟨b_, 0, none⟩))] (by kernel_rfl) (by kernel_rfl) ?_
    refine reg_end [(0, Value.pointer s), (1, Value.int .i64 number), (4, Value.pointer (some ⟨b_, 0, none⟩))] (by kernel_rfl) (by kernel_rfl) ?_
    change WpE _ _ c_towpathref06_Source_Get_3 _ _ _
    refine wpE_seq (x := c_towpathref06_Source_Get_4) (y := c_towpathref06_Source_Get_13) (by kernel_rfl) ?_
    refine wpE_seq (x := c_towpathref06_Source_Get_5) (y := c_towpathref06_Source_Get_7) (by kernel_rfl) ?_
    refine wpE_region (id := 1) (ops := r_towpathref06_Source_Get_5) (by kernel_rfl) ?_
    refine reg_run [.plain] 1 [(0, [], Value.pointer s), (1, [], Value.int .i64 number), (4, [], Value.pointer (some ⟨b_, 0, none⟩)), (6, [], Value.pointer s)] (by kernel_rfl) (by kernel_rfl) ?_
    refine reg_val (op := (Go.Op.binOp Go.BinOp.eql 107 (Go.Operand.tmp 6) (Go.Operand.const (Go.Value.pointer none)) 107)) (ty := 4) (dst := some 7) (Value.bool s.isNone) (by kernel_rfl) (fun ww => run_ptr_eql_R (p := s) (by kernel_rfl) (by kernel_rfl) (by kernel_rfl) ww) ?_
    refine reg_end [(0, Value.pointer s), (1, Value.int .i64 number), (4, Value.pointer (some ⟨b_, 0, none⟩)), (7, Value.bool s.isNone)] (by kernel_rfl) (by kernel_rfl) ?_
    change WpE _ _ c_towpathref06_Source_Get_7 _ _ _
    refine wpE_cond (o := (Operand.tmp 7)) (b := s.isNone) (x := c_towpathref06_Source_Get_8) (y := c_towpathref06_Source_Get_12) (by kernel_rfl) (by kernel_rfl) (fun hb => ?_) (fun hb => ?_)
    · replace h := h.1 hb
      refine wpE_seq (x := c_towpathref06_Source_Get_9) (y := c_towpathref06_Source_Get_11) (by kernel_rfl) ?_
      refine wpE_region (id := 2) (ops := r_towpathref06_Source_Get_9) (by kernel_rfl) ?_
      refine reg_run [.plain] 1 [(4, [], Value.pointer (some ⟨b_, 0, none⟩)), (8, [], Value.agg #[Value.int .i64 0, Value.slice none 0 0])] (by kernel_rfl) (by kernel_rfl) ?_
      obtain ⟨hc, h⟩ := h
      refine reg_store (t := 42) (a := (Go.Operand.tmp 4)) (x := (Go.Operand.tmp 8)) (b := b_) (o := 0) (ty := 0) (dst := none) [Value.int .i64 0, Value.slice none 0 0] (by kernel_rfl) (by kernel_rfl) (by kernel_rfl) (k := 2) (by kernel_rfl) (by kernel_rfl) (by kernel_rfl) hc (fun w2 hw => ?_)
      replace h := h w2 hw
      clear hw
      refine reg_run [.plain] 3 [(4, [], Value.pointer (some ⟨b_, 0, none⟩)), (5, [], Value.int .i64 2)] (by kernel_rfl) (by kernel_rfl) ?_
      refine reg_end [(4, Value.pointer (some ⟨b_, 0, none⟩)), (5, Value.int .i64 2)] (by kernel_rfl) (by kernel_rfl) ?_
      change WpE _ _ c_towpathref06_Source_Get_11 _ _ _
      refine wpE_ret (by kernel_rfl) ?_
      obtain ⟨res, hc_res, h⟩ := h
      repeat (first | refine seqQ_ret ?_ | refine blockQ_ret ?_ | refine loopQ_ret ?_ | refine cutQ_ret ?_)
      exact retT (rs := [(Go.ResultVar.cell 4 42), (Go.ResultVar.tmp 5)]) (vs := [Value.agg #[Value.int .i64 res.Number, Value.slice res.Writes.ptr res.Writes.len res.Writes.cap], Value.int .i64 2]) (by kernel_rfl) (⟨b_, 0, [Value.int .i64 res.Number, Value.slice res.Writes.ptr res.Writes.len res.Writes.cap], by kernel_rfl, hc_res, (sizeP_of (k := 2) (by kernel_rfl) (by kernel_rfl)), .inl ⟨by kernel_rfl, rfl⟩, ⟨by kernel_rfl, trivial⟩⟩) (by kernel_rfl) ⟨res, 2, rfl, h⟩
    · replace h := h.2 hb
      refine wpE_skip (by kernel_rfl) ?_
      change WpE _ _ c_towpathref06_Source_Get_13 _ _ _
      refine wpE_seq (x := c_towpathref06_Source_Get_14) (y := c_towpathref06_Source_Get_23) (by kernel_rfl) ?_
      refine wpE_seq_cut (x := c_towpathref06_Source_Get_15) (y := c_towpathref06_Source_Get_17) (by kernel_rfl) (fun l w => ∃ (t19 : Bool), l = [(0, Value.pointer s), (1, Value.int .i64 number), (4, Value.pointer (some ⟨b_, 0, none⟩)), (19, Value.bool t19)] ∧ F_towpathref06_Source_Get_k0 s number R b_ t19 w) ?_ ?_
      · refine wpE_region (id := 3) (ops := r_towpathref06_Source_Get_15) (by kernel_rfl) ?_
        refine reg_run [.plain, .plain, .plain, .plain, .plain] 5 [(0, [], Value.pointer s), (1, [], Value.int .i64 number), (4, [], Value.pointer (some ⟨b_, 0, none⟩)), (11, [], Value.bool (decide (number < 1))), (12, [(11, false)], Value.int .i64 number), (13, [(11, false)], Value.pointer s)] (by kernel_rfl) (by kernel_rfl) ?_
        refine reg_split 11 (decide (number < 1)) (by kernel_rfl) (fun hb => ?_) (fun hb => ?_)
        · replace h := h.1 hb
          refine reg_run [] 5 [(0, [], Value.pointer s), (1, [], Value.int .i64 number), (4, [], Value.pointer (some ⟨b_, 0, none⟩)), (11, [], Value.bool true), (12, [], undef), (13, [], undef)] (by kernel_rfl) (by kernel_rfl) ?_
          refine reg_run [.skip, .skip, .skip, .skip, .skip, .plain] 11 [(0, [], Value.pointer s), (1, [], Value.int .i64 number), (4, [], Value.pointer (some ⟨b_, 0, none⟩)), (19, [], Value.bool true)] (by kernel_rfl) (by kernel_rfl) ?_
          refine reg_end [(0, Value.pointer s), (1, Value.int .i64 number), (4, Value.pointer (some ⟨b_, 0, none⟩)), (19, Value.bool true)] (by kernel_rfl) (by kernel_rfl) ?_
          exact ⟨[(0, Value.pointer s), (1, Value.int .i64 number), (4, Value.pointer (some ⟨b_, 0, none⟩)), (19, Value.bool true)], Sub.mk (by kernel_rfl), true, rfl, h⟩
        · replace h := h.2 hb
          refine reg_run [] 5 [(0, [], Value.pointer s), (1, [], Value.int .i64 number), (4, [], Value.pointer (some ⟨b_, 0, none⟩)), (11, [], Value.bool false), (12, [], Value.int .i64 number), (13, [], Value.pointer s)] (by kernel_rfl) (by kernel_rfl) ?_
          refine reg_run [] 5 [(0, [], Value.pointer s), (1, [], Value.int .i64 number), (4, [], Value.pointer (some ⟨b_, 0, none⟩)), (11, [], Value.bool false), (12, [], Value.int .i64 number), (13, [], Value.pointer s)] (by kernel_rfl) (by kernel_rfl) ?_
          obtain ⟨hp_9, h⟩ := h
          refine reg_conv [(0, [], Value.pointer s), (1, [], Value.int .i64 number), (4, [], Value.pointer (some ⟨b_, 0, none⟩)), (11, [], Value.bool false), (12, [], Value.int .i64 number), (13, [], Value.pointer (some ⟨(pblk s), (poff s), none⟩))] (congrArg (fun pp => ([(0, [], Value.pointer s), (1, [], Value.int .i64 number), (4, [], Value.pointer (some ⟨b_, 0, none⟩)), (11, [], Value.bool false), (12, [], Value.int .i64 number), (13, [], Value.pointer pp)] : GEnv)) hp_9) ?_
          refine reg_run [.sure] 6 [(0, [], Value.pointer s), (1, [], Value.int .i64 number), (4, [], Value.pointer (some ⟨b_, 0, none⟩)), (11, [], Value.bool false), (12, [], Value.int .i64 number), (13, [], Value.pointer (some ⟨(pblk s), (poff s), none⟩)), (14, [], Value.pointer (some ⟨(pblk s), (poff s), none⟩))] (by kernel_rfl) (by kernel_rfl) ?_
          refine reg_run [.sure] 7 [(0, [], Value.pointer s), (1, [], Value.int .i64 number), (4, [], Value.pointer (some ⟨b_, 0, none⟩)), (11, [], Value.bool false), (12, [], Value.int .i64 number), (15, [], Value.pointer (some ⟨(pblk s), (poff s), none⟩))] (by kernel_rfl) (by kernel_rfl) ?_
          obtain ⟨v16, hc, h⟩ := h
          refine reg_load1 (t := 22) (a := (Go.Operand.tmp 15)) (b := (pblk s)) (o := (poff s)) (ty := 22) (dst := some 16) (by kernel_rfl) (by kernel_rfl) (by kernel_rfl) hc ?_
          refine reg_run [.sure, .sure, .plain] 11 [(0, [], Value.pointer s), (1, [], Value.int .i64 number), (4, [], Value.pointer (some ⟨b_, 0, none⟩)), (19, [], Value.bool (decide (number > ((v16.len : Nat) : Int))))] (by kernel_rfl) (by kernel_rfl) ?_
          refine reg_end [(0, Value.pointer s), (1, Value.int .i64 number), (4, Value.pointer (some ⟨b_, 0, none⟩)), (19, Value.bool (decide (number > ((v16.len : Nat) : Int))))] (by kernel_rfl) (by kernel_rfl) ?_
          exact ⟨[(0, Value.pointer s), (1, Value.int .i64 number), (4, Value.pointer (some ⟨b_, 0, none⟩)), (19, Value.bool (decide (number > ((v16.len : Nat) : Int))))], Sub.mk (by kernel_rfl), (decide (number > ((v16.len : Nat) : Int))), rfl, h⟩
      · rintro _ w3 ⟨t19, rfl, h⟩
        unfold F_towpathref06_Source_Get_k0 at h
        refine wpE_cond (o := (Operand.tmp 19)) (b := t19) (x := c_towpathref06_Source_Get_18) (y := c_towpathref06_Source_Get_22) (by kernel_rfl) (by kernel_rfl) (fun hb => ?_) (fun hb => ?_)
        · replace h := h.1 hb
          refine wpE_seq (x := c_towpathref06_Source_Get_19) (y := c_towpathref06_Source_Get_21) (by kernel_rfl) ?_
          refine wpE_region (id := 4) (ops := r_towpathref06_Source_Get_19) (by kernel_rfl) ?_
          refine reg_run [.plain] 1 [(4, [], Value.pointer (some ⟨b_, 0, none⟩)), (20, [], Value.agg #[Value.int .i64 0, Value.slice none 0 0])] (by kernel_rfl) (by kernel_rfl) ?_
          obtain ⟨hc, h⟩ := h
          refine reg_store (t := 42) (a := (Go.Operand.tmp 4)) (x := (Go.Operand.tmp 20)) (b := b_) (o := 0) (ty := 0) (dst := none) [Value.int .i64 0, Value.slice none 0 0] (by kernel_rfl) (by kernel_rfl) (by kernel_rfl) (k := 2) (by kernel_rfl) (by kernel_rfl) (by kernel_rfl) hc (fun w4 hw => ?_)
          replace h := h w4 hw
          clear hw
          refine reg_run [.plain] 3 [(4, [], Value.pointer (some ⟨b_, 0, none⟩)), (5, [], Value.int .i64 1)] (by kernel_rfl) (by kernel_rfl) ?_
          refine reg_end [(4, Value.pointer (some ⟨b_, 0, none⟩)), (5, Value.int .i64 1)] (by kernel_rfl) (by kernel_rfl) ?_
          change WpE _ _ c_towpathref06_Source_Get_21 _ _ _
          refine wpE_ret (by kernel_rfl) ?_
          obtain ⟨res1, hc_res1, h⟩ := h
          repeat (first | refine seqQ_ret ?_ | refine blockQ_ret ?_ | refine loopQ_ret ?_ | refine cutQ_ret ?_)
          exact retT (rs := [(Go.ResultVar.cell 4 42), (Go.ResultVar.tmp 5)]) (vs := [Value.agg #[Value.int .i64 res1.Number, Value.slice res1.Writes.ptr res1.Writes.len res1.Writes.cap], Value.int .i64 1]) (by kernel_rfl) (⟨b_, 0, [Value.int .i64 res1.Number, Value.slice res1.Writes.ptr res1.Writes.len res1.Writes.cap], by kernel_rfl, hc_res1, (sizeP_of (k := 2) (by kernel_rfl) (by kernel_rfl)), .inl ⟨by kernel_rfl, rfl⟩, ⟨by kernel_rfl, trivial⟩⟩) (by kernel_rfl) ⟨res1, 1, rfl, h⟩
        · replace h := h.2 hb
          refine wpE_skip (by kernel_rfl) ?_
          change WpE _ _ c_towpathref06_Source_Get_23 _ _ _
          refine wpE_seq (x := c_towpathref06_Source_Get_24) (y := c_towpathref06_Source_Get_26) (by kernel_rfl) ?_
          refine wpE_region (id := 5) (ops := r_towpathref06_Source_Get_24) (by kernel_rfl) ?_
          refine reg_run [.plain, .plain] 2 [(0, [], Value.pointer s), (1, [], Value.int .i64 number), (4, [], Value.pointer (some ⟨b_, 0, none⟩)), (21, [], Value.pointer s), (22, [], Value.pointer s)] (by kernel_rfl) (by kernel_rfl) ?_
          obtain ⟨hp_5, h⟩ := h
          refine reg_conv [(0, [], Value.pointer s), (1, [], Value.int .i64 number), (4, [], Value.pointer (some ⟨b_, 0, none⟩)), (21, [], Value.pointer s), (22, [], Value.pointer (some ⟨(pblk s), (poff s), none⟩))] (congrArg (fun pp => ([(0, [], Value.pointer s), (1, [], Value.int .i64 number), (4, [], Value.pointer (some ⟨b_, 0, none⟩)), (21, [], Value.pointer s), (22, [], Value.pointer pp)] : GEnv)) hp_5) ?_
          refine reg_run [.plain] 3 [(0, [], Value.pointer s), (1, [], Value.int .i64 number), (4, [], Value.pointer (some ⟨b_, 0, none⟩)), (21, [], Value.pointer s), (22, [], Value.pointer (some ⟨(pblk s), (poff s), none⟩)), (23, [], Value.pointer (some ⟨(pblk s), (poff s), none⟩))] (by kernel_rfl) (by kernel_rfl) ?_
          refine reg_run [.plain] 4 [(0, [], Value.pointer s), (1, [], Value.int .i64 number), (4, [], Value.pointer (some ⟨b_, 0, none⟩)), (21, [], Value.pointer s), (24, [], Value.pointer (some ⟨(pblk s), (poff s) + 1, none⟩))] (by kernel_rfl) (by kernel_rfl) ?_
          obtain ⟨v25, hc, h⟩ := h
          refine reg_load1 (t := 23) (a := (Go.Operand.tmp 24)) (b := (pblk s)) (o := ((poff s) + 1)) (ty := 23) (dst := some 25) (by kernel_rfl) (by kernel_rfl) (by kernel_rfl) hc ?_
          refine reg_run [.plain] 6 [(0, [], Value.pointer s), (1, [], Value.int .i64 number), (4, [], Value.pointer (some ⟨b_, 0, none⟩)), (21, [], Value.pointer s), (25, [], Value.slice v25.ptr v25.len v25.cap), (26, [], Value.int .i64 number)] (by kernel_rfl) (by kernel_rfl) ?_
          refine reg_new (op := (Go.Op.buildSlice 23 1 #[(0, (Go.Operand.tmp 26))])) (ty := 23) (dst := some 27) (fun bb => Value.slice (some ⟨bb, 0, none⟩) 1 1) (Obj.cells ([Value.int .i64 number]).toArray ty_int (0, 0)) (by kernel_rfl) (by kernel_rfl) (fun b_1 w5 hb hw => ?_)
          replace h := h b_1 w5 hb hw
          clear hb hw
          refine reg_run [] 7 [(0, [], Value.pointer s), (1, [], Value.int .i64 number), (4, [], Value.pointer (some ⟨b_, 0, none⟩)), (21, [], Value.pointer s), (25, [], Value.slice v25.ptr v25.len v25.cap), (27, [], Value.slice (some ⟨b_1, 0, none⟩) 1 1)] (by kernel_rfl) (by kernel_rfl) ?_
          obtain ⟨src, hs, h⟩ := h
          refine reg_append (t := 23) (tx := 23) (e := 3) (a := (Go.Operand.tmp 25)) (xo := (Go.Operand.tmp 27)) (s := v25) (x := (Slc.mk (some ⟨b_1, 0, none⟩) 1 1)) (sz := 1) (by_ := 8) (zs := [Value.int .i64 0]) (ty := 23) (dst := some 28)  src (by kernel_rfl) (by kernel_rfl) (by kernel_rfl) (by kernel_rfl) (by kernel_rfl) (by kernel_rfl) (by kernel_rfl) (by kernel_rfl) (by kernel_rfl) hs (AppendW.mono h (fun v28 w6 h => ?_))
          refine reg_run [] 8 [(0, [], Value.pointer s), (1, [], Value.int .i64 number), (4, [], Value.pointer (some ⟨b_, 0, none⟩)), (21, [], Value.pointer s), (28, [], Value.slice v28.ptr v28.len v28.cap)] (by kernel_rfl) (by kernel_rfl) ?_
          obtain ⟨hp_6, h⟩ := h
          refine reg_conv [(0, [], Value.pointer s), (1, [], Value.int .i64 number), (4, [], Value.pointer (some ⟨b_, 0, none⟩)), (21, [], Value.pointer (some ⟨(pblk s), (poff s), none⟩)), (28, [], Value.slice v28.ptr v28.len v28.cap)] (congrArg (fun pp => ([(0, [], Value.pointer s), (1, [], Value.int .i64 number), (4, [], Value.pointer (some ⟨b_, 0, none⟩)), (21, [], Value.pointer pp), (28, [], Value.slice v28.ptr v28.len v28.cap)] : GEnv)) hp_6) ?_
          refine reg_run [.plain] 9 [(0, [], Value.pointer s), (1, [], Value.int .i64 number), (4, [], Value.pointer (some ⟨b_, 0, none⟩)), (21, [], Value.pointer (some ⟨(pblk s), (poff s), none⟩)), (28, [], Value.slice v28.ptr v28.len v28.cap), (29, [], Value.pointer (some ⟨(pblk s), (poff s), none⟩))] (by kernel_rfl) (by kernel_rfl) ?_
          refine reg_run [.plain] 10 [(0, [], Value.pointer s), (1, [], Value.int .i64 number), (4, [], Value.pointer (some ⟨b_, 0, none⟩)), (28, [], Value.slice v28.ptr v28.len v28.cap), (30, [], Value.pointer (some ⟨(pblk s), (poff s) + 1, none⟩))] (by kernel_rfl) (by kernel_rfl) ?_
          obtain ⟨hc, h⟩ := h
          refine reg_store (t := 23) (a := (Go.Operand.tmp 30)) (x := (Go.Operand.tmp 28)) (b := (pblk s)) (o := ((poff s) + 1)) (ty := 0) (dst := none) [Value.slice v28.ptr v28.len v28.cap] (by kernel_rfl) (by kernel_rfl) (by kernel_rfl) (k := 1) (by kernel_rfl) (by kernel_rfl) (by kernel_rfl) hc (fun w7 hw => ?_)
          replace h := h w7 hw
          clear hw
          refine reg_end [(0, Value.pointer s), (1, Value.int .i64 number), (4, Value.pointer (some ⟨b_, 0, none⟩))] (by kernel_rfl) (by kernel_rfl) ?_
          change WpE _ _ c_towpathref06_Source_Get_26 _ _ _
          refine wpE_seq (x := c_towpathref06_Source_Get_27) (y := c_towpathref06_Source_Get_29) (by kernel_rfl) ?_
          refine wpE_region (id := 6) (ops := r_towpathref06_Source_Get_27) (by kernel_rfl) ?_
          refine reg_run [.plain] 1 [(1, [], Value.int .i64 number), (4, [], Value.pointer (some ⟨b_, 0, none⟩)), (31, [], Value.pointer s)] (by kernel_rfl) (by kernel_rfl) ?_
          obtain ⟨hp_7, h⟩ := h
          refine reg_conv [(1, [], Value.int .i64 number), (4, [], Value.pointer (some ⟨b_, 0, none⟩)), (31, [], Value.pointer (some ⟨(pblk s), (poff s), none⟩))] (congrArg (fun pp => ([(1, [], Value.int .i64 number), (4, [], Value.pointer (some ⟨b_, 0, none⟩)), (31, [], Value.pointer pp)] : GEnv)) hp_7) ?_
          refine reg_run [.plain] 2 [(1, [], Value.int .i64 number), (4, [], Value.pointer (some ⟨b_, 0, none⟩)), (31, [], Value.pointer (some ⟨(pblk s), (poff s), none⟩)), (32, [], Value.pointer (some ⟨(pblk s), (poff s), none⟩))] (by kernel_rfl) (by kernel_rfl) ?_
          refine reg_run [.plain] 3 [(1, [], Value.int .i64 number), (4, [], Value.pointer (some ⟨b_, 0, none⟩)), (33, [], Value.pointer (some ⟨(pblk s), (poff s), none⟩))] (by kernel_rfl) (by kernel_rfl) ?_
          obtain ⟨v34, hc, h⟩ := h
          refine reg_load1 (t := 22) (a := (Go.Operand.tmp 33)) (b := (pblk s)) (o := (poff s)) (ty := 22) (dst := some 34) (by kernel_rfl) (by kernel_rfl) (by kernel_rfl) hc ?_
          refine reg_run [.plain, .plain] 6 [(4, [], Value.pointer (some ⟨b_, 0, none⟩)), (34, [], Value.slice v34.ptr v34.len v34.cap), (36, [], Value.int .i64 (IntKind.i64.wrap (number - 1)))] (by kernel_rfl) (by kernel_rfl) ?_
          obtain ⟨hp_8, h⟩ := h
          refine reg_conv [(4, [], Value.pointer (some ⟨b_, 0, none⟩)), (34, [], Value.slice (some ⟨(pblk v34.ptr), (poff v34.ptr), none⟩) v34.len v34.cap), (36, [], Value.int .i64 (IntKind.i64.wrap (number - 1)))] (congrArg (fun pp => ([(4, [], Value.pointer (some ⟨b_, 0, none⟩)), (34, [], Value.slice pp v34.len v34.cap), (36, [], Value.int .i64 (IntKind.i64.wrap (number - 1)))] : GEnv)) hp_8) ?_
          obtain ⟨h0, h1, h⟩ := h
          refine reg_indexS (t := 22) (e := 42) (x := (Go.Operand.tmp 34)) (ix := (Go.Operand.tmp 36)) (b := (pblk v34.ptr)) (o := (poff v34.ptr)) (l := v34.len) (c := v34.cap) (k := .i64) (j := (IntKind.i64.wrap (number - 1))) (ty := 0) (dst := some 37) (sz := 2) (by kernel_rfl) (by kernel_rfl) (by kernel_rfl) (by kernel_rfl) (by kernel_rfl) h0 h1 ?_
          refine reg_run [] 7 [(4, [], Value.pointer (some ⟨b_, 0, none⟩)), (37, [], Value.pointer (some ⟨(pblk v34.ptr), (poff v34.ptr) + (IntKind.i64.wrap (number - 1)).toNat * 2, none⟩))] (by kernel_rfl) (by kernel_rfl) ?_
          obtain ⟨v38, hc, h⟩ := h
          refine reg_loadN (t := 42) (a := (Go.Operand.tmp 37)) (b := (pblk v34.ptr)) (o := ((poff v34.ptr) + (IntKind.i64.wrap (number - 1)).toNat * 2)) (ty := 42) (dst := some 38) [Value.int .i64 v38.Number, Value.slice v38.Writes.ptr v38.Writes.len v38.Writes.cap] (by kernel_rfl) (by kernel_rfl) (by kernel_rfl) (k := 2) (by kernel_rfl) (by kernel_rfl) hc ?_
          refine reg_run [] 8 [(4, [], Value.pointer (some ⟨b_, 0, none⟩)), (38, [], Value.agg #[Value.int .i64 v38.Number, Value.slice v38.Writes.ptr v38.Writes.len v38.Writes.cap])] (by kernel_rfl) (by kernel_rfl) ?_
          refine reg_enter (op := (Go.Op.call (Go.Call.mk (Go.Callee.value (Go.Operand.func 83)) #[(Go.Operand.tmp 38)] #[42]))) (ty := 42) (dst := some 39) 83 #[Value.agg #[Value.int .i64 v38.Number, Value.slice v38.Writes.ptr v38.Writes.len v38.Writes.cap]] (by kernel_rfl) (fun ww => by kernel_rfl) (Calls.mono h ?_)
          rintro _ w8 ⟨v39, rfl, h⟩
          refine ⟨_, rfl, ?_⟩
          refine reg_run [] 9 [(4, [], Value.pointer (some ⟨b_, 0, none⟩)), (39, [], Value.agg #[Value.int .i64 v39.Number, Value.slice v39.Writes.ptr v39.Writes.len v39.Writes.cap])] (by kernel_rfl) (by kernel_rfl) ?_
          obtain ⟨hc, h⟩ := h
          refine reg_store (t := 42) (a := (Go.Operand.tmp 4)) (x := (Go.Operand.tmp 39)) (b := b_) (o := 0) (ty := 0) (dst := none) [Value.int .i64 v39.Number, Value.slice v39.Writes.ptr v39.Writes.len v39.Writes.cap] (by kernel_rfl) (by kernel_rfl) (by kernel_rfl) (k := 2) (by kernel_rfl) (by kernel_rfl) (by kernel_rfl) hc (fun w9 hw => ?_)
          replace h := h w9 hw
          clear hw
          refine reg_run [.plain] 11 [(4, [], Value.pointer (some ⟨b_, 0, none⟩)), (5, [], Value.int .i64 0)] (by kernel_rfl) (by kernel_rfl) ?_
          refine reg_end [(4, Value.pointer (some ⟨b_, 0, none⟩)), (5, Value.int .i64 0)] (by kernel_rfl) (by kernel_rfl) ?_
          change WpE _ _ c_towpathref06_Source_Get_29 _ _ _
          refine wpE_ret (by kernel_rfl) ?_
          obtain ⟨res2, hc_res2, h⟩ := h
          repeat (first | refine seqQ_ret ?_ | refine blockQ_ret ?_ | refine loopQ_ret ?_ | refine cutQ_ret ?_)
          exact retT (rs := [(Go.ResultVar.cell 4 42), (Go.ResultVar.tmp 5)]) (vs := [Value.agg #[Value.int .i64 res2.Number, Value.slice res2.Writes.ptr res2.Writes.len res2.Writes.cap], Value.int .i64 0]) (by kernel_rfl) (⟨b_, 0, [Value.int .i64 res2.Number, Value.slice res2.Writes.ptr res2.Writes.len res2.Writes.cap], by kernel_rfl, hc_res2, (sizeP_of (k := 2) (by kernel_rfl) (by kernel_rfl)), .inl ⟨by kernel_rfl, rfl⟩, ⟨by kernel_rfl, trivial⟩⟩) (by kernel_rfl) ⟨res2, 0, rfl, h⟩
  · rintro e w' ⟨v, rfl, r0, r1, rfl, h⟩; exact ⟨r0, r1, rfl, h⟩
end Go.Proofs.Ytpedclhflmhakaa
