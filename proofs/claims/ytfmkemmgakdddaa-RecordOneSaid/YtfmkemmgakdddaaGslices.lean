/- WRITTEN BY PROGRAM (dec.py): for each Go function the clean formula F, the call's contract C, and the proof S that F gives C. -/
import Derived.Test.YtfmkemmgakdddaaRows
import Derived.Test.YtfmkemmgakdddaaGF
namespace Go.Proofs.Ytfmkemmgakdddaa
open Go
set_option linter.unusedVariables false

/-! ### slices.ContainsFunc[[]towpath/api.Write,towpath/api.Write] (function 63) -/
noncomputable def c_slices_ContainsFunc_api_Write_api_Write_0 : Code := (Try.f63.body).getD Code.skip
noncomputable def c_slices_ContainsFunc_api_Write_api_Write_1 : Code := Code.l c_slices_ContainsFunc_api_Write_api_Write_0
noncomputable def r_slices_ContainsFunc_api_Write_api_Write_1 : Array Oper := Code.ops c_slices_ContainsFunc_api_Write_api_Write_1
noncomputable def c_slices_ContainsFunc_api_Write_api_Write_3 : Code := Code.r c_slices_ContainsFunc_api_Write_api_Write_0
noncomputable def c_slices_ContainsFunc_api_Write_api_Write_4 : Code := Code.l c_slices_ContainsFunc_api_Write_api_Write_3
noncomputable def r_slices_ContainsFunc_api_Write_api_Write_4 : Array Oper := Code.ops c_slices_ContainsFunc_api_Write_api_Write_4
noncomputable def c_slices_ContainsFunc_api_Write_api_Write_6 : Code := Code.r c_slices_ContainsFunc_api_Write_api_Write_3

set_option maxRecDepth 100000 in
set_option maxHeartbeats 4000000 in
theorem S_slices_ContainsFunc_api_Write_api_Write {s : Slc} {f : Value} {w : World} {R : Bool → World → Prop} (h : F_slices_ContainsFunc_api_Write_api_Write s f R w) : C_slices_ContainsFunc_api_Write_api_Write s f w R := by
  unfold F_slices_ContainsFunc_api_Write_api_Write at h
  unfold C_slices_ContainsFunc_api_Write_api_Write
  refine Calls.mono (calls_of_wpE (args := [Value.slice s.ptr s.len s.cap, f]) (R := fun v w' => ∃ (r0 : Bool), v = Value.bool r0 ∧ R r0 w') Try.func63 (c := c_slices_ContainsFunc_api_Write_api_Write_0) (by kernel_rfl) 9 (by kernel_rfl) (by kernel_rfl) [(0, Value.slice s.ptr s.len s.cap), (1, f)] (by kernel_rfl) ?_) ?_
  · refine wpE_seq (x := c_slices_ContainsFunc_api_Write_api_Write_1) (y := c_slices_ContainsFunc_api_Write_api_Write_3) (by kernel_rfl) ?_
    refine wpE_region (id := 0) (ops := r_slices_ContainsFunc_api_Write_api_Write_1) (by kernel_rfl) ?_
    refine reg_run [.plain] 1 [(0, [], Value.slice s.ptr s.len s.cap), (1, [], f)] (by kernel_rfl) (by kernel_rfl) ?_
    refine reg_end [(0, Value.slice s.ptr s.len s.cap), (1, f)] (by kernel_rfl) (by kernel_rfl) ?_
    change WpE _ _ c_slices_ContainsFunc_api_Write_api_Write_3 _ _ _
    refine wpE_seq (x := c_slices_ContainsFunc_api_Write_api_Write_4) (y := c_slices_ContainsFunc_api_Write_api_Write_6) (by kernel_rfl) ?_
    refine wpE_region (id := 1) (ops := r_slices_ContainsFunc_api_Write_api_Write_4) (by kernel_rfl) ?_
    refine reg_run [.plain, .plain] 2 [(5, [], Value.slice s.ptr s.len s.cap), (6, [], f)] (by kernel_rfl) (by kernel_rfl) ?_
    refine reg_enter (op := (Go.Op.call (Go.Call.mk (Go.Callee.value (Go.Operand.func 89)) #[(Go.Operand.tmp 5), (Go.Operand.tmp 6)] #[25, 108]))) (ty := 3) (dst := some 7) 89 #[Value.slice s.ptr s.len s.cap, f] (by kernel_rfl) (fun ww => by kernel_rfl) (Calls.mono h ?_)
    rintro _ w1 ⟨v7, rfl, h⟩
    refine ⟨_, rfl, ?_⟩
    refine reg_run [.plain, .plain] 5 [(4, [], Value.bool (decide (v7 ≥ 0)))] (by kernel_rfl) (by kernel_rfl) ?_
    refine reg_end [(4, Value.bool (decide (v7 ≥ 0)))] (by kernel_rfl) (by kernel_rfl) ?_
    change WpE _ _ c_slices_ContainsFunc_api_Write_api_Write_6 _ _ _
    refine wpE_ret (by kernel_rfl) ?_
    repeat (first | refine seqQ_ret ?_ | refine blockQ_ret ?_ | refine loopQ_ret ?_ | refine cutQ_ret ?_)
    exact retS (rs := [(Go.ResultVar.tmp 4)]) (v := Value.bool (decide (v7 ≥ 0))) (by kernel_rfl) (⟨by kernel_rfl, trivial⟩) ⟨(decide (v7 ≥ 0)), rfl, h⟩
  · rintro e w' ⟨v, rfl, r0, rfl, h⟩; exact ⟨r0, rfl, h⟩

/-! ### slices.Clone[[]byte,byte] (function 72) -/
noncomputable def c_slices_Clone_byte_byte_0 : Code := (Try.f72.body).getD Code.skip
noncomputable def c_slices_Clone_byte_byte_1 : Code := Code.l c_slices_Clone_byte_byte_0
noncomputable def r_slices_Clone_byte_byte_1 : Array Oper := Code.ops c_slices_Clone_byte_byte_1
noncomputable def c_slices_Clone_byte_byte_3 : Code := Code.r c_slices_Clone_byte_byte_0
noncomputable def c_slices_Clone_byte_byte_4 : Code := Code.l c_slices_Clone_byte_byte_3
noncomputable def c_slices_Clone_byte_byte_5 : Code := Code.l c_slices_Clone_byte_byte_4
noncomputable def r_slices_Clone_byte_byte_5 : Array Oper := Code.ops c_slices_Clone_byte_byte_5
noncomputable def c_slices_Clone_byte_byte_7 : Code := Code.r c_slices_Clone_byte_byte_4
noncomputable def c_slices_Clone_byte_byte_8 : Code := Code.l c_slices_Clone_byte_byte_7
noncomputable def c_slices_Clone_byte_byte_9 : Code := Code.l c_slices_Clone_byte_byte_8
noncomputable def r_slices_Clone_byte_byte_9 : Array Oper := Code.ops c_slices_Clone_byte_byte_9
noncomputable def c_slices_Clone_byte_byte_11 : Code := Code.r c_slices_Clone_byte_byte_8
noncomputable def c_slices_Clone_byte_byte_12 : Code := Code.r c_slices_Clone_byte_byte_7
noncomputable def c_slices_Clone_byte_byte_13 : Code := Code.r c_slices_Clone_byte_byte_3
noncomputable def c_slices_Clone_byte_byte_14 : Code := Code.l c_slices_Clone_byte_byte_13
noncomputable def r_slices_Clone_byte_byte_14 : Array Oper := Code.ops c_slices_Clone_byte_byte_14
noncomputable def c_slices_Clone_byte_byte_16 : Code := Code.r c_slices_Clone_byte_byte_13

set_option maxRecDepth 100000 in
set_option maxHeartbeats 4000000 in
theorem S_slices_Clone_byte_byte {s : Slc} {w : World} {R : Slc → World → Prop} (h : F_slices_Clone_byte_byte s R w) : C_slices_Clone_byte_byte s w R := by
  unfold F_slices_Clone_byte_byte at h
  unfold C_slices_Clone_byte_byte
  refine Calls.mono (calls_of_wpE (args := [Value.slice s.ptr s.len s.cap]) (R := fun v w' => ∃ (r0 : Slc), v = Value.slice r0.ptr r0.len r0.cap ∧ R r0 w') Try.func72 (c := c_slices_Clone_byte_byte_0) (by kernel_rfl) 8 (by kernel_rfl) (by kernel_rfl) [(0, Value.slice s.ptr s.len s.cap)] (by kernel_rfl) ?_) ?_
  · refine wpE_seq (x := c_slices_Clone_byte_byte_1) (y := c_slices_Clone_byte_byte_3) (by kernel_rfl) ?_
    refine wpE_region (id := 0) (ops := r_slices_Clone_byte_byte_1) (by kernel_rfl) ?_
    refine reg_run [.plain] 1 [(0, [], Value.slice s.ptr s.len s.cap)] (by kernel_rfl) (by kernel_rfl) ?_
    refine reg_end [(0, Value.slice s.ptr s.len s.cap)] (by kernel_rfl) (by kernel_rfl) ?_
    change WpE _ _ c_slices_Clone_byte_byte_3 _ _ _
    refine wpE_seq (x := c_slices_Clone_byte_byte_4) (y := c_slices_Clone_byte_byte_13) (by kernel_rfl) ?_
    refine wpE_seq (x := c_slices_Clone_byte_byte_5) (y := c_slices_Clone_byte_byte_7) (by kernel_rfl) ?_
    refine wpE_region (id := 1) (ops := r_slices_Clone_byte_byte_5) (by kernel_rfl) ?_
    refine reg_run [.plain] 1 [(0, [], Value.slice s.ptr s.len s.cap), (3, [], Value.slice s.ptr s.len s.cap)] (by kernel_rfl) (by kernel_rfl) ?_
    refine reg_val (op := (Go.Op.binOp Go.BinOp.eql 22 (Go.Operand.tmp 3) (Go.Operand.const (Go.Value.slice none 0 0)) 22)) (ty := 4) (dst := some 4) (Value.bool s.ptr.isNone) (by kernel_rfl) (fun ww => run_slice_eql_R (p := s.ptr) (l := s.len) (c := s.cap) (by kernel_rfl) (by kernel_rfl) (by kernel_rfl) ww) ?_
    refine reg_end [(0, Value.slice s.ptr s.len s.cap), (4, Value.bool s.ptr.isNone)] (by kernel_rfl) (by kernel_rfl) ?_
    change WpE _ _ c_slices_Clone_byte_byte_7 _ _ _
    refine wpE_cond (o := (Operand.tmp 4)) (b := s.ptr.isNone) (x := c_slices_Clone_byte_byte_8) (y := c_slices_Clone_byte_byte_12) (by kernel_rfl) (by kernel_rfl) (fun hb => ?_) (fun hb => ?_)
    · replace h := h.1 hb
      refine wpE_seq (x := c_slices_Clone_byte_byte_9) (y := c_slices_Clone_byte_byte_11) (by kernel_rfl) ?_
      refine wpE_region (id := 2) (ops := r_slices_Clone_byte_byte_9) (by kernel_rfl) ?_
      refine reg_run [.plain] 1 [(2, [], Value.slice none 0 0)] (by kernel_rfl) (by kernel_rfl) ?_
      refine reg_end [(2, Value.slice none 0 0)] (by kernel_rfl) (by kernel_rfl) ?_
      change WpE _ _ c_slices_Clone_byte_byte_11 _ _ _
      refine wpE_ret (by kernel_rfl) ?_
      repeat (first | refine seqQ_ret ?_ | refine blockQ_ret ?_ | refine loopQ_ret ?_ | refine cutQ_ret ?_)
      exact retS (rs := [(Go.ResultVar.tmp 2)]) (v := Value.slice none 0 0) (by kernel_rfl) (⟨by kernel_rfl, trivial⟩) ⟨(Slc.mk none 0 0), rfl, h⟩
    · replace h := h.2 hb
      refine wpE_skip (by kernel_rfl) ?_
      change WpE _ _ c_slices_Clone_byte_byte_13 _ _ _
      refine wpE_seq (x := c_slices_Clone_byte_byte_14) (y := c_slices_Clone_byte_byte_16) (by kernel_rfl) ?_
      refine wpE_region (id := 3) (ops := r_slices_Clone_byte_byte_14) (by kernel_rfl) ?_
      refine reg_run [] 0 [(0, [], Value.slice s.ptr s.len s.cap)] (by kernel_rfl) (by kernel_rfl) ?_
      refine reg_new (op := (Go.Op.buildSlice 22 0 #[])) (ty := 22) (dst := some 5) (fun bb => Value.slice (some ⟨bb, 0, none⟩) 0 0) (Obj.cells ([]).toArray ty_uint8 (0, 0)) (by kernel_rfl) (by kernel_rfl) (fun b_ w1 hb hw => ?_)
      replace h := h b_ w1 hb hw
      clear hb hw
      refine reg_run [.plain] 2 [(5, [], Value.slice (some ⟨b_, 0, none⟩) 0 0), (6, [], Value.slice s.ptr s.len s.cap)] (by kernel_rfl) (by kernel_rfl) ?_
      obtain ⟨src, hs, h⟩ := h
      refine reg_append (t := 22) (tx := 22) (e := 5) (a := (Go.Operand.tmp 5)) (xo := (Go.Operand.tmp 6)) (s := (Slc.mk (some ⟨b_, 0, none⟩) 0 0)) (x := s) (sz := 1) (by_ := 1) (zs := [Value.int .u8 0]) (ty := 22) (dst := some 7)  src (by kernel_rfl) (by kernel_rfl) (by kernel_rfl) (by kernel_rfl) (by kernel_rfl) (by kernel_rfl) (by kernel_rfl) (by kernel_rfl) (by kernel_rfl) hs (AppendW.mono h (fun v7 w2 h => ?_))
      refine reg_run [.plain] 4 [(2, [], Value.slice v7.ptr v7.len v7.cap)] (by kernel_rfl) (by kernel_rfl) ?_
      refine reg_end [(2, Value.slice v7.ptr v7.len v7.cap)] (by kernel_rfl) (by kernel_rfl) ?_
      change WpE _ _ c_slices_Clone_byte_byte_16 _ _ _
      refine wpE_ret (by kernel_rfl) ?_
      repeat (first | refine seqQ_ret ?_ | refine blockQ_ret ?_ | refine loopQ_ret ?_ | refine cutQ_ret ?_)
      exact retS (rs := [(Go.ResultVar.tmp 2)]) (v := Value.slice v7.ptr v7.len v7.cap) (by kernel_rfl) (⟨by kernel_rfl, trivial⟩) ⟨v7, rfl, h⟩
  · rintro e w' ⟨v, rfl, r0, rfl, h⟩; exact ⟨r0, rfl, h⟩

/-! ### slices.IndexFunc[[]towpath/api.Write,towpath/api.Write] (function 89) -/
noncomputable def c_slices_IndexFunc_api_Write_api_Write_0 : Code := (Try.f89.body).getD Code.skip
noncomputable def c_slices_IndexFunc_api_Write_api_Write_1 : Code := Code.l c_slices_IndexFunc_api_Write_api_Write_0
noncomputable def r_slices_IndexFunc_api_Write_api_Write_1 : Array Oper := Code.ops c_slices_IndexFunc_api_Write_api_Write_1
noncomputable def c_slices_IndexFunc_api_Write_api_Write_3 : Code := Code.r c_slices_IndexFunc_api_Write_api_Write_0
noncomputable def c_slices_IndexFunc_api_Write_api_Write_4 : Code := Code.l c_slices_IndexFunc_api_Write_api_Write_3
noncomputable def c_slices_IndexFunc_api_Write_api_Write_5 : Code := Code.l c_slices_IndexFunc_api_Write_api_Write_4
noncomputable def r_slices_IndexFunc_api_Write_api_Write_5 : Array Oper := Code.ops c_slices_IndexFunc_api_Write_api_Write_5
noncomputable def c_slices_IndexFunc_api_Write_api_Write_7 : Code := Code.r c_slices_IndexFunc_api_Write_api_Write_4
noncomputable def c_slices_IndexFunc_api_Write_api_Write_8 : Code := Code.l c_slices_IndexFunc_api_Write_api_Write_7
noncomputable def c_slices_IndexFunc_api_Write_api_Write_9 : Code := Code.l c_slices_IndexFunc_api_Write_api_Write_8
noncomputable def c_slices_IndexFunc_api_Write_api_Write_10 : Code := Code.l c_slices_IndexFunc_api_Write_api_Write_9
noncomputable def r_slices_IndexFunc_api_Write_api_Write_10 : Array Oper := Code.ops c_slices_IndexFunc_api_Write_api_Write_10
noncomputable def c_slices_IndexFunc_api_Write_api_Write_12 : Code := Code.r c_slices_IndexFunc_api_Write_api_Write_9
noncomputable def c_slices_IndexFunc_api_Write_api_Write_13 : Code := Code.l c_slices_IndexFunc_api_Write_api_Write_12
noncomputable def c_slices_IndexFunc_api_Write_api_Write_14 : Code := Code.l c_slices_IndexFunc_api_Write_api_Write_13
noncomputable def c_slices_IndexFunc_api_Write_api_Write_15 : Code := Code.r c_slices_IndexFunc_api_Write_api_Write_13
noncomputable def c_slices_IndexFunc_api_Write_api_Write_16 : Code := Code.r c_slices_IndexFunc_api_Write_api_Write_12
noncomputable def c_slices_IndexFunc_api_Write_api_Write_17 : Code := Code.l c_slices_IndexFunc_api_Write_api_Write_16
noncomputable def c_slices_IndexFunc_api_Write_api_Write_18 : Code := Code.l c_slices_IndexFunc_api_Write_api_Write_17
noncomputable def c_slices_IndexFunc_api_Write_api_Write_19 : Code := Code.l c_slices_IndexFunc_api_Write_api_Write_18
noncomputable def r_slices_IndexFunc_api_Write_api_Write_19 : Array Oper := Code.ops c_slices_IndexFunc_api_Write_api_Write_19
noncomputable def c_slices_IndexFunc_api_Write_api_Write_21 : Code := Code.r c_slices_IndexFunc_api_Write_api_Write_18
noncomputable def c_slices_IndexFunc_api_Write_api_Write_22 : Code := Code.l c_slices_IndexFunc_api_Write_api_Write_21
noncomputable def r_slices_IndexFunc_api_Write_api_Write_22 : Array Oper := Code.ops c_slices_IndexFunc_api_Write_api_Write_22
noncomputable def c_slices_IndexFunc_api_Write_api_Write_24 : Code := Code.r c_slices_IndexFunc_api_Write_api_Write_21
noncomputable def c_slices_IndexFunc_api_Write_api_Write_25 : Code := Code.l c_slices_IndexFunc_api_Write_api_Write_24
noncomputable def c_slices_IndexFunc_api_Write_api_Write_26 : Code := Code.l c_slices_IndexFunc_api_Write_api_Write_25
noncomputable def r_slices_IndexFunc_api_Write_api_Write_26 : Array Oper := Code.ops c_slices_IndexFunc_api_Write_api_Write_26
noncomputable def c_slices_IndexFunc_api_Write_api_Write_28 : Code := Code.r c_slices_IndexFunc_api_Write_api_Write_25
noncomputable def c_slices_IndexFunc_api_Write_api_Write_29 : Code := Code.r c_slices_IndexFunc_api_Write_api_Write_24
noncomputable def c_slices_IndexFunc_api_Write_api_Write_30 : Code := Code.r c_slices_IndexFunc_api_Write_api_Write_16
noncomputable def r_slices_IndexFunc_api_Write_api_Write_30 : Array Oper := Code.ops c_slices_IndexFunc_api_Write_api_Write_30
noncomputable def c_slices_IndexFunc_api_Write_api_Write_32 : Code := Code.r c_slices_IndexFunc_api_Write_api_Write_3
noncomputable def c_slices_IndexFunc_api_Write_api_Write_33 : Code := Code.l c_slices_IndexFunc_api_Write_api_Write_32
noncomputable def r_slices_IndexFunc_api_Write_api_Write_33 : Array Oper := Code.ops c_slices_IndexFunc_api_Write_api_Write_33
noncomputable def c_slices_IndexFunc_api_Write_api_Write_35 : Code := Code.r c_slices_IndexFunc_api_Write_api_Write_32

set_option maxRecDepth 100000 in
set_option maxHeartbeats 4000000 in
theorem S_slices_IndexFunc_api_Write_api_Write {s : Slc} {f : Value} {w : World} {R : Int → World → Prop} (h : F_slices_IndexFunc_api_Write_api_Write s f R w) : C_slices_IndexFunc_api_Write_api_Write s f w R := by
  unfold F_slices_IndexFunc_api_Write_api_Write at h
  unfold C_slices_IndexFunc_api_Write_api_Write
  refine Calls.mono (calls_of_wpE (args := [Value.slice s.ptr s.len s.cap, f]) (R := fun v w' => ∃ (r0 : Int), v = Value.int .i64 r0 ∧ R r0 w') Try.func89 (c := c_slices_IndexFunc_api_Write_api_Write_0) (by kernel_rfl) 19 (by kernel_rfl) (by kernel_rfl) [(0, Value.slice s.ptr s.len s.cap), (1, f)] (by kernel_rfl) ?_) ?_
  · refine wpE_seq (x := c_slices_IndexFunc_api_Write_api_Write_1) (y := c_slices_IndexFunc_api_Write_api_Write_3) (by kernel_rfl) ?_
    refine wpE_region (id := 0) (ops := r_slices_IndexFunc_api_Write_api_Write_1) (by kernel_rfl) ?_
    refine reg_run [.plain] 1 [(0, [], Value.slice s.ptr s.len s.cap), (1, [], f)] (by kernel_rfl) (by kernel_rfl) ?_
    refine reg_end [(0, Value.slice s.ptr s.len s.cap), (1, f)] (by kernel_rfl) (by kernel_rfl) ?_
    change WpE _ _ c_slices_IndexFunc_api_Write_api_Write_3 _ _ _
    refine wpE_seq (x := c_slices_IndexFunc_api_Write_api_Write_4) (y := c_slices_IndexFunc_api_Write_api_Write_32) (by kernel_rfl) ?_
    refine wpE_seq (x := c_slices_IndexFunc_api_Write_api_Write_5) (y := c_slices_IndexFunc_api_Write_api_Write_7) (by kernel_rfl) ?_
    refine wpE_region (id := 1) (ops := r_slices_IndexFunc_api_Write_api_Write_5) (by kernel_rfl) ?_
    refine reg_run [.plain, .plain, .plain] 3 [(0, [], Value.slice s.ptr s.len s.cap), (1, [], f), (7, [], Value.int .i64 ((s.len : Nat) : Int)), (8, [], Value.int .i64 0)] (by kernel_rfl) (by kernel_rfl) ?_
    refine reg_end [(0, Value.slice s.ptr s.len s.cap), (1, f), (7, Value.int .i64 ((s.len : Nat) : Int)), (8, Value.int .i64 0)] (by kernel_rfl) (by kernel_rfl) ?_
    change WpE _ _ c_slices_IndexFunc_api_Write_api_Write_7 _ _ _
    refine wpE_block (id := 0) (x := c_slices_IndexFunc_api_Write_api_Write_8) (by kernel_rfl) ?_
    obtain ⟨I, μ, h0, hr⟩ := h
    refine wpE_loop (x := c_slices_IndexFunc_api_Write_api_Write_9) (by kernel_rfl) (fun m l w => ∃ (t8 : Int), l = [(0, Value.slice s.ptr s.len s.cap), (1, f), (7, Value.int .i64 ((s.len : Nat) : Int)), (8, Value.int .i64 t8)] ∧ I t8 w ∧ μ t8 w = m) (l' := [(0, Value.slice s.ptr s.len s.cap), (1, f), (7, Value.int .i64 ((s.len : Nat) : Int)), (8, Value.int .i64 0)]) (Sub.mk (by kernel_rfl)) ⟨0, rfl, h0, rfl⟩ ?_
    rintro _ _ w1 ⟨t8, rfl, hI, rfl⟩
    obtain ⟨again_, again__h, h⟩ : ∃ again_ : Int → World → Prop, (∀ t8' w', again_ t8' w' → I t8' w' ∧ μ t8' w' < μ t8 w1) ∧ F_slices_IndexFunc_api_Write_api_Write_L0 s f R again_ t8 w1 := ⟨_, fun _ _ h => h, hr t8 w1 hI⟩
    clear h0 hI
    unfold F_slices_IndexFunc_api_Write_api_Write_L0 at h
    refine wpE_seq (x := c_slices_IndexFunc_api_Write_api_Write_10) (y := c_slices_IndexFunc_api_Write_api_Write_12) (by kernel_rfl) ?_
    refine wpE_region (id := 2) (ops := r_slices_IndexFunc_api_Write_api_Write_10) (by kernel_rfl) ?_
    refine reg_run [.plain] 1 [(0, [], Value.slice s.ptr s.len s.cap), (1, [], f), (7, [], Value.int .i64 ((s.len : Nat) : Int)), (8, [], Value.int .i64 t8), (9, [], Value.bool (decide (t8 < ((s.len : Nat) : Int))))] (by kernel_rfl) (by kernel_rfl) ?_
    refine reg_end [(0, Value.slice s.ptr s.len s.cap), (1, f), (7, Value.int .i64 ((s.len : Nat) : Int)), (8, Value.int .i64 t8), (9, Value.bool (decide (t8 < ((s.len : Nat) : Int))))] (by kernel_rfl) (by kernel_rfl) ?_
    change WpE _ _ c_slices_IndexFunc_api_Write_api_Write_12 _ _ _
    refine wpE_seq (x := c_slices_IndexFunc_api_Write_api_Write_13) (y := c_slices_IndexFunc_api_Write_api_Write_16) (by kernel_rfl) ?_
    refine wpE_cond (o := (Operand.tmp 9)) (b := (decide (t8 < ((s.len : Nat) : Int)))) (x := c_slices_IndexFunc_api_Write_api_Write_14) (y := c_slices_IndexFunc_api_Write_api_Write_15) (by kernel_rfl) (by kernel_rfl) (fun hb => ?_) (fun hb => ?_)
    · replace h := h.1 hb
      refine wpE_skip (by kernel_rfl) ?_
      change WpE _ _ c_slices_IndexFunc_api_Write_api_Write_16 _ _ _
      refine wpE_seq (x := c_slices_IndexFunc_api_Write_api_Write_17) (y := c_slices_IndexFunc_api_Write_api_Write_30) (by kernel_rfl) ?_
      refine wpE_block (id := 1) (x := c_slices_IndexFunc_api_Write_api_Write_18) (by kernel_rfl) ?_
      refine wpE_seq (x := c_slices_IndexFunc_api_Write_api_Write_19) (y := c_slices_IndexFunc_api_Write_api_Write_21) (by kernel_rfl) ?_
      refine wpE_region (id := 3) (ops := r_slices_IndexFunc_api_Write_api_Write_19) (by kernel_rfl) ?_
      refine reg_run [.plain, .plain] 2 [(0, [], Value.slice s.ptr s.len s.cap), (1, [], f), (5, [], Value.int .i64 t8), (7, [], Value.int .i64 ((s.len : Nat) : Int)), (8, [], Value.int .i64 t8)] (by kernel_rfl) (by kernel_rfl) ?_
      refine reg_end [(0, Value.slice s.ptr s.len s.cap), (1, f), (5, Value.int .i64 t8), (7, Value.int .i64 ((s.len : Nat) : Int)), (8, Value.int .i64 t8)] (by kernel_rfl) (by kernel_rfl) ?_
      change WpE _ _ c_slices_IndexFunc_api_Write_api_Write_21 _ _ _
      refine wpE_seq (x := c_slices_IndexFunc_api_Write_api_Write_22) (y := c_slices_IndexFunc_api_Write_api_Write_24) (by kernel_rfl) ?_
      refine wpE_region (id := 4) (ops := r_slices_IndexFunc_api_Write_api_Write_22) (by kernel_rfl) ?_
      refine reg_run [.plain, .plain, .plain] 3 [(0, [], Value.slice s.ptr s.len s.cap), (1, [], f), (5, [], Value.int .i64 t8), (7, [], Value.int .i64 ((s.len : Nat) : Int)), (8, [], Value.int .i64 t8), (11, [], f), (12, [], Value.slice s.ptr s.len s.cap), (13, [], Value.int .i64 t8)] (by kernel_rfl) (by kernel_rfl) ?_
      obtain ⟨hp_7, h⟩ := h
      refine reg_conv [(0, [], Value.slice s.ptr s.len s.cap), (1, [], f), (5, [], Value.int .i64 t8), (7, [], Value.int .i64 ((s.len : Nat) : Int)), (8, [], Value.int .i64 t8), (11, [], f), (12, [], Value.slice (some ⟨(pblk s.ptr), (poff s.ptr), none⟩) s.len s.cap), (13, [], Value.int .i64 t8)] (congrArg (fun pp => ([(0, [], Value.slice s.ptr s.len s.cap), (1, [], f), (5, [], Value.int .i64 t8), (7, [], Value.int .i64 ((s.len : Nat) : Int)), (8, [], Value.int .i64 t8), (11, [], f), (12, [], Value.slice pp s.len s.cap), (13, [], Value.int .i64 t8)] : GEnv)) hp_7) ?_
      obtain ⟨h0, h1, h⟩ := h
      refine reg_indexS (t := 25) (e := 61) (x := (Go.Operand.tmp 12)) (ix := (Go.Operand.tmp 13)) (b := (pblk s.ptr)) (o := (poff s.ptr)) (l := s.len) (c := s.cap) (k := .i64) (j := t8) (ty := 0) (dst := some 14) (sz := 3) (by kernel_rfl) (by kernel_rfl) (by kernel_rfl) (by kernel_rfl) (by kernel_rfl) h0 h1 ?_
      refine reg_run [] 4 [(0, [], Value.slice s.ptr s.len s.cap), (1, [], f), (5, [], Value.int .i64 t8), (7, [], Value.int .i64 ((s.len : Nat) : Int)), (8, [], Value.int .i64 t8), (11, [], f), (14, [], Value.pointer (some ⟨(pblk s.ptr), (poff s.ptr) + t8.toNat * 3, none⟩))] (by kernel_rfl) (by kernel_rfl) ?_
      obtain ⟨v15, hc, h⟩ := h
      refine reg_loadN (t := 61) (a := (Go.Operand.tmp 14)) (b := (pblk s.ptr)) (o := ((poff s.ptr) + t8.toNat * 3)) (ty := 61) (dst := some 15) [Value.string v15.Key, Value.string v15.Val, Value.bool v15.Drop] (by kernel_rfl) (by kernel_rfl) (by kernel_rfl) (k := 3) (by kernel_rfl) (by kernel_rfl) hc ?_
      refine reg_run [] 5 [(0, [], Value.slice s.ptr s.len s.cap), (1, [], f), (5, [], Value.int .i64 t8), (7, [], Value.int .i64 ((s.len : Nat) : Int)), (8, [], Value.int .i64 t8), (11, [], f), (15, [], Value.agg #[Value.string v15.Key, Value.string v15.Val, Value.bool v15.Drop])] (by kernel_rfl) (by kernel_rfl) ?_
      refine reg_enterV (fo := (Go.Operand.tmp 11)) (aa := #[(Go.Operand.tmp 15)]) (ts := #[61]) (fv := f) (ty := 4) (dst := some 16) #[Value.agg #[Value.string v15.Key, Value.string v15.Val, Value.bool v15.Drop]] (by kernel_rfl) (by kernel_rfl) (by kernel_rfl) (CallsV.mono h ?_)
      rintro _ w2 ⟨v16, rfl, h⟩
      refine ⟨_, rfl, ?_⟩
      refine reg_end [(0, Value.slice s.ptr s.len s.cap), (1, f), (5, Value.int .i64 t8), (7, Value.int .i64 ((s.len : Nat) : Int)), (8, Value.int .i64 t8), (16, Value.bool v16)] (by kernel_rfl) (by kernel_rfl) ?_
      change WpE _ _ c_slices_IndexFunc_api_Write_api_Write_24 _ _ _
      refine wpE_cond (o := (Operand.tmp 16)) (b := v16) (x := c_slices_IndexFunc_api_Write_api_Write_25) (y := c_slices_IndexFunc_api_Write_api_Write_29) (by kernel_rfl) (by kernel_rfl) (fun hb => ?_) (fun hb => ?_)
      · replace h := h.1 hb
        refine wpE_seq (x := c_slices_IndexFunc_api_Write_api_Write_26) (y := c_slices_IndexFunc_api_Write_api_Write_28) (by kernel_rfl) ?_
        refine wpE_region (id := 5) (ops := r_slices_IndexFunc_api_Write_api_Write_26) (by kernel_rfl) ?_
        refine reg_run [.plain, .plain] 2 [(4, [], Value.int .i64 t8)] (by kernel_rfl) (by kernel_rfl) ?_
        refine reg_end [(4, Value.int .i64 t8)] (by kernel_rfl) (by kernel_rfl) ?_
        change WpE _ _ c_slices_IndexFunc_api_Write_api_Write_28 _ _ _
        refine wpE_ret (by kernel_rfl) ?_
        repeat (first | refine seqQ_ret ?_ | refine blockQ_ret ?_ | refine loopQ_ret ?_ | refine cutQ_ret ?_)
        exact retS (rs := [(Go.ResultVar.tmp 4)]) (v := Value.int .i64 t8) (by kernel_rfl) (⟨by kernel_rfl, trivial⟩) ⟨t8, rfl, h⟩
      · replace h := h.2 hb
        refine wpE_skip (by kernel_rfl) ?_
        change WpE _ _ c_slices_IndexFunc_api_Write_api_Write_30 _ _ _
        refine wpE_region (id := 6) (ops := r_slices_IndexFunc_api_Write_api_Write_30) (by kernel_rfl) ?_
        refine reg_run [.plain, .plain] 2 [(0, [], Value.slice s.ptr s.len s.cap), (1, [], f), (7, [], Value.int .i64 ((s.len : Nat) : Int)), (8, [], Value.int .i64 (IntKind.i64.wrap (t8 + 1)))] (by kernel_rfl) (by kernel_rfl) ?_
        refine reg_end [(0, Value.slice s.ptr s.len s.cap), (1, f), (7, Value.int .i64 ((s.len : Nat) : Int)), (8, Value.int .i64 (IntKind.i64.wrap (t8 + 1)))] (by kernel_rfl) (by kernel_rfl) ?_
        have hb_ := again__h _ _ h
        exact ⟨_, hb_.2, [(0, Value.slice s.ptr s.len s.cap), (1, f), (7, Value.int .i64 ((s.len : Nat) : Int)), (8, Value.int .i64 (IntKind.i64.wrap (t8 + 1)))], Sub.mk (by kernel_rfl), (IntKind.i64.wrap (t8 + 1)), rfl, hb_.1, rfl⟩
    · replace h := h.2 hb
      refine wpE_exit (id := 0) (by kernel_rfl) ?_
      change WpE _ _ c_slices_IndexFunc_api_Write_api_Write_32 _ _ _
      refine wpE_seq (x := c_slices_IndexFunc_api_Write_api_Write_33) (y := c_slices_IndexFunc_api_Write_api_Write_35) (by kernel_rfl) ?_
      refine wpE_region (id := 7) (ops := r_slices_IndexFunc_api_Write_api_Write_33) (by kernel_rfl) ?_
      refine reg_run [.plain] 1 [(4, [], Value.int .i64 (-1))] (by kernel_rfl) (by kernel_rfl) ?_
      refine reg_end [(4, Value.int .i64 (-1))] (by kernel_rfl) (by kernel_rfl) ?_
      change WpE _ _ c_slices_IndexFunc_api_Write_api_Write_35 _ _ _
      refine wpE_ret (by kernel_rfl) ?_
      repeat (first | refine seqQ_ret ?_ | refine blockQ_ret ?_ | refine loopQ_ret ?_ | refine cutQ_ret ?_)
      exact retS (rs := [(Go.ResultVar.tmp 4)]) (v := Value.int .i64 (-1)) (by kernel_rfl) (⟨by kernel_rfl, trivial⟩) ⟨(-1), rfl, h⟩
  · rintro e w' ⟨v, rfl, r0, rfl, h⟩; exact ⟨r0, rfl, h⟩
end Go.Proofs.Ytfmkemmgakdddaa
