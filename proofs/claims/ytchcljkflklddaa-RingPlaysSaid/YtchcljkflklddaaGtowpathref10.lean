/- WRITTEN BY PROGRAM (dec.py): for each Go function the clean formula F, the call's contract C, and the proof S that F gives C. -/
import Derived.Test.YtchcljkflklddaaRows
import Derived.Test.YtchcljkflklddaaGF
namespace Go.Proofs.Ytchcljkflklddaa
open Go
set_option linter.unusedVariables false

/-! ### towpath/towpathref10.New (function 38) -/
noncomputable def c_towpathref10_New_0 : Code := (Try.f38.body).getD Code.skip
noncomputable def c_towpathref10_New_1 : Code := Code.l c_towpathref10_New_0
noncomputable def r_towpathref10_New_1 : Array Oper := Code.ops c_towpathref10_New_1
noncomputable def c_towpathref10_New_3 : Code := Code.r c_towpathref10_New_0
noncomputable def c_towpathref10_New_4 : Code := Code.l c_towpathref10_New_3
noncomputable def c_towpathref10_New_5 : Code := Code.l c_towpathref10_New_4
noncomputable def r_towpathref10_New_5 : Array Oper := Code.ops c_towpathref10_New_5
noncomputable def c_towpathref10_New_7 : Code := Code.r c_towpathref10_New_4
noncomputable def c_towpathref10_New_8 : Code := Code.l c_towpathref10_New_7
noncomputable def c_towpathref10_New_9 : Code := Code.l c_towpathref10_New_8
noncomputable def r_towpathref10_New_9 : Array Oper := Code.ops c_towpathref10_New_9
noncomputable def c_towpathref10_New_11 : Code := Code.r c_towpathref10_New_8
noncomputable def c_towpathref10_New_12 : Code := Code.r c_towpathref10_New_7
noncomputable def c_towpathref10_New_13 : Code := Code.r c_towpathref10_New_3
noncomputable def c_towpathref10_New_14 : Code := Code.l c_towpathref10_New_13
noncomputable def r_towpathref10_New_14 : Array Oper := Code.ops c_towpathref10_New_14
noncomputable def c_towpathref10_New_16 : Code := Code.r c_towpathref10_New_13

set_option maxRecDepth 100000 in
set_option maxHeartbeats 4000000 in
theorem S_towpathref10_New {capacity : Int} {w : World} {R : Option Addr → Int → World → Prop} (h : F_towpathref10_New capacity R w) : C_towpathref10_New capacity w R := by
  unfold F_towpathref10_New at h
  unfold C_towpathref10_New
  refine Calls.mono (calls_of_wpE (args := [Value.int .i64 capacity]) (R := fun v w' => ∃ (r0 : Option Addr) (r1 : Int), v = Value.tuple #[Value.pointer r0, Value.int .i64 r1] ∧ R r0 r1 w') Try.func38 (c := c_towpathref10_New_0) (by kernel_rfl) 13 (by kernel_rfl) (by kernel_rfl) [(0, Value.int .i64 capacity)] (by kernel_rfl) ?_) ?_
  · refine wpE_seq (x := c_towpathref10_New_1) (y := c_towpathref10_New_3) (by kernel_rfl) ?_
    refine wpE_region (id := 0) (ops := r_towpathref10_New_1) (by kernel_rfl) ?_
    refine reg_run [.plain, .plain] 2 [(0, [], Value.int .i64 capacity)] (by kernel_rfl) (by kernel_rfl) ?_
    refine reg_end [(0, Value.int .i64 capacity)] (by kernel_rfl) (by kernel_rfl) ?_
    change WpE _ _ c_towpathref10_New_3 _ _ _
    refine wpE_seq (x := c_towpathref10_New_4) (y := c_towpathref10_New_13) (by kernel_rfl) ?_
    refine wpE_seq (x := c_towpathref10_New_5) (y := c_towpathref10_New_7) (by kernel_rfl) ?_
    refine wpE_region (id := 1) (ops := r_towpathref10_New_5) (by kernel_rfl) ?_
    refine reg_run [.plain, .plain, .plain, .plain, .plain, .pick] 6 [(0, [], Value.int .i64 capacity), (9, [], Value.bool ((decide (capacity < 1)) || (decide (capacity > 65536))))] (by kernel_rfl) (by kernel_rfl) ?_
    refine reg_end [(0, Value.int .i64 capacity), (9, Value.bool ((decide (capacity < 1)) || (decide (capacity > 65536))))] (by kernel_rfl) (by kernel_rfl) ?_
    change WpE _ _ c_towpathref10_New_7 _ _ _
    refine wpE_cond (o := (Operand.tmp 9)) (b := ((decide (capacity < 1)) || (decide (capacity > 65536)))) (x := c_towpathref10_New_8) (y := c_towpathref10_New_12) (by kernel_rfl) (by kernel_rfl) (fun hb => ?_) (fun hb => ?_)
    · replace h := h.1 hb
      refine wpE_seq (x := c_towpathref10_New_9) (y := c_towpathref10_New_11) (by kernel_rfl) ?_
      refine wpE_region (id := 2) (ops := r_towpathref10_New_9) (by kernel_rfl) ?_
      refine reg_run [.plain, .plain] 2 [(2, [], Value.pointer none), (3, [], Value.int .i64 1)] (by kernel_rfl) (by kernel_rfl) ?_
      refine reg_end [(2, Value.pointer none), (3, Value.int .i64 1)] (by kernel_rfl) (by kernel_rfl) ?_
      change WpE _ _ c_towpathref10_New_11 _ _ _
      refine wpE_ret (by kernel_rfl) ?_
      repeat (first | refine seqQ_ret ?_ | refine blockQ_ret ?_ | refine loopQ_ret ?_ | refine cutQ_ret ?_)
      exact retT (rs := [(Go.ResultVar.tmp 2), (Go.ResultVar.tmp 3)]) (vs := [Value.pointer none, Value.int .i64 1]) (by kernel_rfl) (⟨by kernel_rfl, ⟨by kernel_rfl, trivial⟩⟩) (by kernel_rfl) ⟨none, 1, rfl, h⟩
    · replace h := h.2 hb
      refine wpE_skip (by kernel_rfl) ?_
      change WpE _ _ c_towpathref10_New_13 _ _ _
      refine wpE_seq (x := c_towpathref10_New_14) (y := c_towpathref10_New_16) (by kernel_rfl) ?_
      refine wpE_region (id := 3) (ops := r_towpathref10_New_14) (by kernel_rfl) ?_
      refine reg_run [.plain, .plain] 2 [(11, [], Value.agg #[Value.slice none 0 0, Value.int .i64 capacity, Value.bool false])] (by kernel_rfl) (by kernel_rfl) ?_
      refine reg_new (op := (Go.Op.box 86 (Go.Operand.tmp 11))) (ty := 60) (dst := some 12) (fun bb => Value.pointer (some ⟨bb, 0, none⟩)) (Obj.cells ([Value.slice none 0 0, Value.int .i64 capacity, Value.bool false]).toArray ty_towpathref10_Ring (0, 0)) (by kernel_rfl) (by kernel_rfl) (fun b_ w1 hb hw => ?_)
      replace h := h b_ w1 hb hw
      clear hb hw
      refine reg_run [.plain, .plain] 5 [(2, [], Value.pointer (some ⟨b_, 0, none⟩)), (3, [], Value.int .i64 0)] (by kernel_rfl) (by kernel_rfl) ?_
      refine reg_end [(2, Value.pointer (some ⟨b_, 0, none⟩)), (3, Value.int .i64 0)] (by kernel_rfl) (by kernel_rfl) ?_
      change WpE _ _ c_towpathref10_New_16 _ _ _
      refine wpE_ret (by kernel_rfl) ?_
      repeat (first | refine seqQ_ret ?_ | refine blockQ_ret ?_ | refine loopQ_ret ?_ | refine cutQ_ret ?_)
      exact retT (rs := [(Go.ResultVar.tmp 2), (Go.ResultVar.tmp 3)]) (vs := [Value.pointer (some ⟨b_, 0, none⟩), Value.int .i64 0]) (by kernel_rfl) (⟨by kernel_rfl, ⟨by kernel_rfl, trivial⟩⟩) (by kernel_rfl) ⟨(some ⟨b_, 0, none⟩), 0, rfl, h⟩
  · rintro e w' ⟨v, rfl, r0, r1, rfl, h⟩; exact ⟨r0, r1, rfl, h⟩

/-! ### (*towpath/towpathref10.Ring).All (function 41) -/
noncomputable def c_towpathref10_Ring_All_0 : Code := (Try.f41.body).getD Code.skip
noncomputable def c_towpathref10_Ring_All_1 : Code := Code.l c_towpathref10_Ring_All_0
noncomputable def r_towpathref10_Ring_All_1 : Array Oper := Code.ops c_towpathref10_Ring_All_1
noncomputable def c_towpathref10_Ring_All_3 : Code := Code.r c_towpathref10_Ring_All_0
noncomputable def c_towpathref10_Ring_All_4 : Code := Code.l c_towpathref10_Ring_All_3
noncomputable def c_towpathref10_Ring_All_5 : Code := Code.l c_towpathref10_Ring_All_4
noncomputable def r_towpathref10_Ring_All_5 : Array Oper := Code.ops c_towpathref10_Ring_All_5
noncomputable def c_towpathref10_Ring_All_7 : Code := Code.r c_towpathref10_Ring_All_4
noncomputable def c_towpathref10_Ring_All_8 : Code := Code.l c_towpathref10_Ring_All_7
noncomputable def c_towpathref10_Ring_All_9 : Code := Code.l c_towpathref10_Ring_All_8
noncomputable def r_towpathref10_Ring_All_9 : Array Oper := Code.ops c_towpathref10_Ring_All_9
noncomputable def c_towpathref10_Ring_All_11 : Code := Code.r c_towpathref10_Ring_All_8
noncomputable def c_towpathref10_Ring_All_12 : Code := Code.r c_towpathref10_Ring_All_7
noncomputable def c_towpathref10_Ring_All_13 : Code := Code.r c_towpathref10_Ring_All_3
noncomputable def c_towpathref10_Ring_All_14 : Code := Code.l c_towpathref10_Ring_All_13
noncomputable def r_towpathref10_Ring_All_14 : Array Oper := Code.ops c_towpathref10_Ring_All_14
noncomputable def c_towpathref10_Ring_All_16 : Code := Code.r c_towpathref10_Ring_All_13

set_option maxRecDepth 100000 in
set_option maxHeartbeats 4000000 in
theorem S_towpathref10_Ring_All {r : Option Addr} {w : World} {R : Slc → World → Prop} (h : F_towpathref10_Ring_All r R w) : C_towpathref10_Ring_All r w R := by
  unfold F_towpathref10_Ring_All at h
  unfold C_towpathref10_Ring_All
  refine Calls.mono (calls_of_wpE (args := [Value.pointer r]) (R := fun v w' => ∃ (r0 : Slc), v = Value.slice r0.ptr r0.len r0.cap ∧ R r0 w') Try.func41 (c := c_towpathref10_Ring_All_0) (by kernel_rfl) 9 (by kernel_rfl) (by kernel_rfl) [(0, Value.pointer r)] (by kernel_rfl) ?_) ?_
  · refine wpE_seq (x := c_towpathref10_Ring_All_1) (y := c_towpathref10_Ring_All_3) (by kernel_rfl) ?_
    refine wpE_region (id := 0) (ops := r_towpathref10_Ring_All_1) (by kernel_rfl) ?_
    refine reg_run [.plain] 1 [(0, [], Value.pointer r)] (by kernel_rfl) (by kernel_rfl) ?_
    refine reg_end [(0, Value.pointer r)] (by kernel_rfl) (by kernel_rfl) ?_
    change WpE _ _ c_towpathref10_Ring_All_3 _ _ _
    refine wpE_seq (x := c_towpathref10_Ring_All_4) (y := c_towpathref10_Ring_All_13) (by kernel_rfl) ?_
    refine wpE_seq (x := c_towpathref10_Ring_All_5) (y := c_towpathref10_Ring_All_7) (by kernel_rfl) ?_
    refine wpE_region (id := 1) (ops := r_towpathref10_Ring_All_5) (by kernel_rfl) ?_
    refine reg_run [.plain] 1 [(0, [], Value.pointer r), (3, [], Value.pointer r)] (by kernel_rfl) (by kernel_rfl) ?_
    refine reg_val (op := (Go.Op.binOp Go.BinOp.eql 60 (Go.Operand.tmp 3) (Go.Operand.const (Go.Value.pointer none)) 60)) (ty := 4) (dst := some 4) (Value.bool r.isNone) (by kernel_rfl) (fun ww => run_ptr_eql_R (p := r) (by kernel_rfl) (by kernel_rfl) (by kernel_rfl) ww) ?_
    refine reg_end [(0, Value.pointer r), (4, Value.bool r.isNone)] (by kernel_rfl) (by kernel_rfl) ?_
    change WpE _ _ c_towpathref10_Ring_All_7 _ _ _
    refine wpE_cond (o := (Operand.tmp 4)) (b := r.isNone) (x := c_towpathref10_Ring_All_8) (y := c_towpathref10_Ring_All_12) (by kernel_rfl) (by kernel_rfl) (fun hb => ?_) (fun hb => ?_)
    · replace h := h.1 hb
      refine wpE_seq (x := c_towpathref10_Ring_All_9) (y := c_towpathref10_Ring_All_11) (by kernel_rfl) ?_
      refine wpE_region (id := 2) (ops := r_towpathref10_Ring_All_9) (by kernel_rfl) ?_
      refine reg_run [.plain] 1 [(2, [], Value.slice none 0 0)] (by kernel_rfl) (by kernel_rfl) ?_
      refine reg_end [(2, Value.slice none 0 0)] (by kernel_rfl) (by kernel_rfl) ?_
      change WpE _ _ c_towpathref10_Ring_All_11 _ _ _
      refine wpE_ret (by kernel_rfl) ?_
      repeat (first | refine seqQ_ret ?_ | refine blockQ_ret ?_ | refine loopQ_ret ?_ | refine cutQ_ret ?_)
      exact retS (rs := [(Go.ResultVar.tmp 2)]) (v := Value.slice none 0 0) (by kernel_rfl) (⟨by kernel_rfl, trivial⟩) ⟨(Slc.mk none 0 0), rfl, h⟩
    · replace h := h.2 hb
      refine wpE_skip (by kernel_rfl) ?_
      change WpE _ _ c_towpathref10_Ring_All_13 _ _ _
      refine wpE_seq (x := c_towpathref10_Ring_All_14) (y := c_towpathref10_Ring_All_16) (by kernel_rfl) ?_
      refine wpE_region (id := 3) (ops := r_towpathref10_Ring_All_14) (by kernel_rfl) ?_
      refine reg_run [.plain] 1 [(5, [], Value.pointer r)] (by kernel_rfl) (by kernel_rfl) ?_
      obtain ⟨hp_0, h⟩ := h
      refine reg_conv [(5, [], Value.pointer (some ⟨(pblk r), (poff r), none⟩))] (congrArg (fun pp => ([(5, [], Value.pointer pp)] : GEnv)) hp_0) ?_
      refine reg_run [.plain] 2 [(5, [], Value.pointer (some ⟨(pblk r), (poff r), none⟩)), (6, [], Value.pointer (some ⟨(pblk r), (poff r), none⟩))] (by kernel_rfl) (by kernel_rfl) ?_
      refine reg_run [.plain] 3 [(7, [], Value.pointer (some ⟨(pblk r), (poff r), none⟩))] (by kernel_rfl) (by kernel_rfl) ?_
      obtain ⟨v8, hc, h⟩ := h
      refine reg_load1 (t := 49) (a := (Go.Operand.tmp 7)) (b := (pblk r)) (o := (poff r)) (ty := 49) (dst := some 8) (by kernel_rfl) (by kernel_rfl) (by kernel_rfl) hc ?_
      refine reg_run [.plain] 5 [(2, [], Value.slice v8.ptr v8.len v8.cap)] (by kernel_rfl) (by kernel_rfl) ?_
      refine reg_end [(2, Value.slice v8.ptr v8.len v8.cap)] (by kernel_rfl) (by kernel_rfl) ?_
      change WpE _ _ c_towpathref10_Ring_All_16 _ _ _
      refine wpE_ret (by kernel_rfl) ?_
      repeat (first | refine seqQ_ret ?_ | refine blockQ_ret ?_ | refine loopQ_ret ?_ | refine cutQ_ret ?_)
      exact retS (rs := [(Go.ResultVar.tmp 2)]) (v := Value.slice v8.ptr v8.len v8.cap) (by kernel_rfl) (⟨by kernel_rfl, trivial⟩) ⟨v8, rfl, h⟩
  · rintro e w' ⟨v, rfl, r0, rfl, h⟩; exact ⟨r0, rfl, h⟩

/-! ### (*towpath/towpathref10.Ring).Put (function 51) -/
noncomputable def c_towpathref10_Ring_Put_0 : Code := (Try.f51.body).getD Code.skip
noncomputable def c_towpathref10_Ring_Put_1 : Code := Code.l c_towpathref10_Ring_Put_0
noncomputable def r_towpathref10_Ring_Put_1 : Array Oper := Code.ops c_towpathref10_Ring_Put_1
noncomputable def c_towpathref10_Ring_Put_3 : Code := Code.r c_towpathref10_Ring_Put_0
noncomputable def c_towpathref10_Ring_Put_4 : Code := Code.l c_towpathref10_Ring_Put_3
noncomputable def c_towpathref10_Ring_Put_5 : Code := Code.l c_towpathref10_Ring_Put_4
noncomputable def r_towpathref10_Ring_Put_5 : Array Oper := Code.ops c_towpathref10_Ring_Put_5
noncomputable def c_towpathref10_Ring_Put_7 : Code := Code.r c_towpathref10_Ring_Put_4
noncomputable def c_towpathref10_Ring_Put_8 : Code := Code.l c_towpathref10_Ring_Put_7
noncomputable def c_towpathref10_Ring_Put_9 : Code := Code.l c_towpathref10_Ring_Put_8
noncomputable def r_towpathref10_Ring_Put_9 : Array Oper := Code.ops c_towpathref10_Ring_Put_9
noncomputable def c_towpathref10_Ring_Put_11 : Code := Code.r c_towpathref10_Ring_Put_8
noncomputable def c_towpathref10_Ring_Put_12 : Code := Code.r c_towpathref10_Ring_Put_7
noncomputable def c_towpathref10_Ring_Put_13 : Code := Code.r c_towpathref10_Ring_Put_3
noncomputable def c_towpathref10_Ring_Put_14 : Code := Code.l c_towpathref10_Ring_Put_13
noncomputable def r_towpathref10_Ring_Put_14 : Array Oper := Code.ops c_towpathref10_Ring_Put_14
noncomputable def c_towpathref10_Ring_Put_16 : Code := Code.r c_towpathref10_Ring_Put_13
noncomputable def c_towpathref10_Ring_Put_17 : Code := Code.l c_towpathref10_Ring_Put_16
noncomputable def r_towpathref10_Ring_Put_17 : Array Oper := Code.ops c_towpathref10_Ring_Put_17
noncomputable def c_towpathref10_Ring_Put_19 : Code := Code.r c_towpathref10_Ring_Put_16

set_option maxRecDepth 100000 in
set_option maxHeartbeats 4000000 in
theorem S_towpathref10_Ring_Put {r : Option Addr} {x : Int} {w : World} {R : Bool → World → Prop} (h : F_towpathref10_Ring_Put r x R w) : C_towpathref10_Ring_Put r x w R := by
  unfold F_towpathref10_Ring_Put at h
  unfold C_towpathref10_Ring_Put
  refine Calls.mono (calls_of_wpE (args := [Value.pointer r, Value.int .i64 x]) (R := fun v w' => ∃ (r0 : Bool), v = Value.bool r0 ∧ R r0 w') Try.func51 (c := c_towpathref10_Ring_Put_0) (by kernel_rfl) 35 (by kernel_rfl) (by kernel_rfl) [(0, Value.pointer r), (1, Value.int .i64 x)] (by kernel_rfl) ?_) ?_
  · refine wpE_seq (x := c_towpathref10_Ring_Put_1) (y := c_towpathref10_Ring_Put_3) (by kernel_rfl) ?_
    refine wpE_region (id := 0) (ops := r_towpathref10_Ring_Put_1) (by kernel_rfl) ?_
    refine reg_run [.plain] 1 [(0, [], Value.pointer r), (1, [], Value.int .i64 x)] (by kernel_rfl) (by kernel_rfl) ?_
    refine reg_end [(0, Value.pointer r), (1, Value.int .i64 x)] (by kernel_rfl) (by kernel_rfl) ?_
    change WpE _ _ c_towpathref10_Ring_Put_3 _ _ _
    refine wpE_seq (x := c_towpathref10_Ring_Put_4) (y := c_towpathref10_Ring_Put_13) (by kernel_rfl) ?_
    refine wpE_seq_cut (x := c_towpathref10_Ring_Put_5) (y := c_towpathref10_Ring_Put_7) (by kernel_rfl) (fun l w => ∃ (t24 : Bool), l = [(0, Value.pointer r), (1, Value.int .i64 x), (24, Value.bool t24)] ∧ F_towpathref10_Ring_Put_k0 r x R t24 w) ?_ ?_
    · refine wpE_drawregion (id := 1) (ops := r_towpathref10_Ring_Put_5) (by kernel_rfl) (by kernel_rfl) (by kernel_rfl) ?_
      refine qreg_run [.plain] 1 [(0, [], Value.pointer r), (1, [], Value.int .i64 x), (5, [], Value.pointer r)] (by kernel_rfl) (by kernel_rfl) ?_
      refine qreg_val (op := (Go.Op.binOp Go.BinOp.eql 60 (Go.Operand.tmp 5) (Go.Operand.const (Go.Value.pointer none)) 60)) (ty := 4) (dst := some 6) (Value.bool r.isNone) (by kernel_rfl) (fun ww => run_ptr_eql_R (p := r) (by kernel_rfl) (by kernel_rfl) (by kernel_rfl) ww) ?_
      refine qreg_run [.plain, .plain] 4 [(0, [], Value.pointer r), (1, [], Value.int .i64 x), (7, [], Value.bool r.isNone), (8, [(7, false)], Value.pointer r)] (by kernel_rfl) (by kernel_rfl) ?_
      refine qreg_split 7 r.isNone (by kernel_rfl) (fun hb => ?_) (fun hb => ?_)
      · replace h := h.1 hb
        refine qreg_run [] 4 [(0, [], Value.pointer r), (1, [], Value.int .i64 x), (7, [], Value.bool true), (8, [], undef)] (by kernel_rfl) (by kernel_rfl) ?_
        refine qreg_run [.skip, .skip, .skip, .plain, .plain, .skip, .skip, .skip, .skip, .skip, .skip, .skip, .skip, .skip, .skip, .plain] 20 [(0, [], Value.pointer r), (1, [], Value.int .i64 x), (24, [], Value.bool true)] (by kernel_rfl) (by kernel_rfl) ?_
        refine qreg_end [(0, Value.pointer r), (1, Value.int .i64 x), (24, Value.bool true)] (by kernel_rfl) (by kernel_rfl) (fun w5 hw => ?_)
        replace h := h w5 hw
        clear hw
        exact ⟨[(0, Value.pointer r), (1, Value.int .i64 x), (24, Value.bool true)], Sub.mk (by kernel_rfl), true, rfl, h⟩
      · replace h := h.2 hb
        refine qreg_run [] 4 [(0, [], Value.pointer r), (1, [], Value.int .i64 x), (7, [], Value.bool false), (8, [], Value.pointer r)] (by kernel_rfl) (by kernel_rfl) ?_
        refine qreg_run [] 4 [(0, [], Value.pointer r), (1, [], Value.int .i64 x), (7, [], Value.bool false), (8, [], Value.pointer r)] (by kernel_rfl) (by kernel_rfl) ?_
        obtain ⟨hp_13, h⟩ := h
        refine qreg_conv [(0, [], Value.pointer r), (1, [], Value.int .i64 x), (7, [], Value.bool false), (8, [], Value.pointer (some ⟨(pblk r), (poff r), none⟩))] (congrArg (fun pp => ([(0, [], Value.pointer r), (1, [], Value.int .i64 x), (7, [], Value.bool false), (8, [], Value.pointer pp)] : GEnv)) hp_13) ?_
        refine qreg_run [.sure] 5 [(0, [], Value.pointer r), (1, [], Value.int .i64 x), (7, [], Value.bool false), (8, [], Value.pointer (some ⟨(pblk r), (poff r), none⟩)), (9, [], Value.pointer (some ⟨(pblk r), (poff r), none⟩))] (by kernel_rfl) (by kernel_rfl) ?_
        refine qreg_run [.sure] 6 [(0, [], Value.pointer r), (1, [], Value.int .i64 x), (7, [], Value.bool false), (10, [], Value.pointer (some ⟨(pblk r), (poff r) + 2, none⟩))] (by kernel_rfl) (by kernel_rfl) ?_
        obtain ⟨v11, hc, h⟩ := h
        refine qreg_load1 (t := 4) (a := (Go.Operand.tmp 10)) (b := (pblk r)) (o := ((poff r) + 2)) (ty := 4) (dst := some 11) (by kernel_rfl) (by kernel_rfl) (by kernel_rfl) hc ?_
        refine qreg_run [.plain, .plain, .plain] 10 [(0, [], Value.pointer r), (1, [], Value.int .i64 x), (13, [], Value.bool v11), (14, [(13, false)], Value.pointer r)] (by kernel_rfl) (by kernel_rfl) ?_
        refine qreg_split 13 v11 (by kernel_rfl) (fun hb => ?_) (fun hb => ?_)
        · replace h := h.1 hb
          refine qreg_run [] 10 [(0, [], Value.pointer r), (1, [], Value.int .i64 x), (13, [], Value.bool true), (14, [], undef)] (by kernel_rfl) (by kernel_rfl) ?_
          refine qreg_run [.skip, .skip, .skip, .skip, .skip, .skip, .skip, .skip, .skip, .plain] 20 [(0, [], Value.pointer r), (1, [], Value.int .i64 x), (24, [], Value.bool true)] (by kernel_rfl) (by kernel_rfl) ?_
          refine qreg_end [(0, Value.pointer r), (1, Value.int .i64 x), (24, Value.bool true)] (by kernel_rfl) (by kernel_rfl) (fun w6 hw => ?_)
          replace h := h w6 hw
          clear hw
          exact ⟨[(0, Value.pointer r), (1, Value.int .i64 x), (24, Value.bool true)], Sub.mk (by kernel_rfl), true, rfl, h⟩
        · replace h := h.2 hb
          refine qreg_run [] 10 [(0, [], Value.pointer r), (1, [], Value.int .i64 x), (13, [], Value.bool false), (14, [], Value.pointer r)] (by kernel_rfl) (by kernel_rfl) ?_
          refine qreg_run [] 10 [(0, [], Value.pointer r), (1, [], Value.int .i64 x), (13, [], Value.bool false), (14, [], Value.pointer r)] (by kernel_rfl) (by kernel_rfl) ?_
          obtain ⟨hp_14, h⟩ := h
          refine qreg_conv [(0, [], Value.pointer r), (1, [], Value.int .i64 x), (13, [], Value.bool false), (14, [], Value.pointer (some ⟨(pblk r), (poff r), none⟩))] (congrArg (fun pp => ([(0, [], Value.pointer r), (1, [], Value.int .i64 x), (13, [], Value.bool false), (14, [], Value.pointer pp)] : GEnv)) hp_14) ?_
          refine qreg_run [.sure] 11 [(0, [], Value.pointer r), (1, [], Value.int .i64 x), (13, [], Value.bool false), (14, [], Value.pointer (some ⟨(pblk r), (poff r), none⟩)), (15, [], Value.pointer (some ⟨(pblk r), (poff r), none⟩))] (by kernel_rfl) (by kernel_rfl) ?_
          refine qreg_run [.sure] 12 [(0, [], Value.pointer r), (1, [], Value.int .i64 x), (13, [], Value.bool false), (16, [], Value.pointer (some ⟨(pblk r), (poff r), none⟩))] (by kernel_rfl) (by kernel_rfl) ?_
          obtain ⟨v17, hc, h⟩ := h
          refine qreg_load1 (t := 49) (a := (Go.Operand.tmp 16)) (b := (pblk r)) (o := (poff r)) (ty := 49) (dst := some 17) (by kernel_rfl) (by kernel_rfl) (by kernel_rfl) hc ?_
          refine qreg_run [.sure, .sure] 15 [(0, [], Value.pointer r), (1, [], Value.int .i64 x), (13, [], Value.bool false), (18, [], Value.int .i64 ((v17.len : Nat) : Int)), (19, [], Value.pointer r)] (by kernel_rfl) (by kernel_rfl) ?_
          obtain ⟨hp_15, h⟩ := h
          refine qreg_conv [(0, [], Value.pointer r), (1, [], Value.int .i64 x), (13, [], Value.bool false), (18, [], Value.int .i64 ((v17.len : Nat) : Int)), (19, [], Value.pointer (some ⟨(pblk r), (poff r), none⟩))] (congrArg (fun pp => ([(0, [], Value.pointer r), (1, [], Value.int .i64 x), (13, [], Value.bool false), (18, [], Value.int .i64 ((v17.len : Nat) : Int)), (19, [], Value.pointer pp)] : GEnv)) hp_15) ?_
          refine qreg_run [.sure] 16 [(0, [], Value.pointer r), (1, [], Value.int .i64 x), (13, [], Value.bool false), (18, [], Value.int .i64 ((v17.len : Nat) : Int)), (19, [], Value.pointer (some ⟨(pblk r), (poff r), none⟩)), (20, [], Value.pointer (some ⟨(pblk r), (poff r), none⟩))] (by kernel_rfl) (by kernel_rfl) ?_
          refine qreg_run [.sure] 17 [(0, [], Value.pointer r), (1, [], Value.int .i64 x), (13, [], Value.bool false), (18, [], Value.int .i64 ((v17.len : Nat) : Int)), (21, [], Value.pointer (some ⟨(pblk r), (poff r) + 1, none⟩))] (by kernel_rfl) (by kernel_rfl) ?_
          obtain ⟨v22, hc, h⟩ := h
          refine qreg_load1 (t := 3) (a := (Go.Operand.tmp 21)) (b := (pblk r)) (o := ((poff r) + 1)) (ty := 3) (dst := some 22) (by kernel_rfl) (by kernel_rfl) (by kernel_rfl) hc ?_
          refine qreg_run [.sure, .plain] 20 [(0, [], Value.pointer r), (1, [], Value.int .i64 x), (24, [], Value.bool (decide (((v17.len : Nat) : Int) ≥ v22)))] (by kernel_rfl) (by kernel_rfl) ?_
          refine qreg_end [(0, Value.pointer r), (1, Value.int .i64 x), (24, Value.bool (decide (((v17.len : Nat) : Int) ≥ v22)))] (by kernel_rfl) (by kernel_rfl) (fun w7 hw => ?_)
          replace h := h w7 hw
          clear hw
          exact ⟨[(0, Value.pointer r), (1, Value.int .i64 x), (24, Value.bool (decide (((v17.len : Nat) : Int) ≥ v22)))], Sub.mk (by kernel_rfl), (decide (((v17.len : Nat) : Int) ≥ v22)), rfl, h⟩
    · rintro _ w1 ⟨t24, rfl, h⟩
      unfold F_towpathref10_Ring_Put_k0 at h
      refine wpE_cond (o := (Operand.tmp 24)) (b := t24) (x := c_towpathref10_Ring_Put_8) (y := c_towpathref10_Ring_Put_12) (by kernel_rfl) (by kernel_rfl) (fun hb => ?_) (fun hb => ?_)
      · replace h := h.1 hb
        refine wpE_seq (x := c_towpathref10_Ring_Put_9) (y := c_towpathref10_Ring_Put_11) (by kernel_rfl) ?_
        refine wpE_region (id := 2) (ops := r_towpathref10_Ring_Put_9) (by kernel_rfl) ?_
        refine reg_run [.plain] 1 [(4, [], Value.bool false)] (by kernel_rfl) (by kernel_rfl) ?_
        refine reg_end [(4, Value.bool false)] (by kernel_rfl) (by kernel_rfl) ?_
        change WpE _ _ c_towpathref10_Ring_Put_11 _ _ _
        refine wpE_ret (by kernel_rfl) ?_
        repeat (first | refine seqQ_ret ?_ | refine blockQ_ret ?_ | refine loopQ_ret ?_ | refine cutQ_ret ?_)
        exact retS (rs := [(Go.ResultVar.tmp 4)]) (v := Value.bool false) (by kernel_rfl) (⟨by kernel_rfl, trivial⟩) ⟨false, rfl, h⟩
      · replace h := h.2 hb
        refine wpE_skip (by kernel_rfl) ?_
        change WpE _ _ c_towpathref10_Ring_Put_13 _ _ _
        refine wpE_seq (x := c_towpathref10_Ring_Put_14) (y := c_towpathref10_Ring_Put_16) (by kernel_rfl) ?_
        refine wpE_region (id := 3) (ops := r_towpathref10_Ring_Put_14) (by kernel_rfl) ?_
        refine reg_run [.plain, .plain] 2 [(1, [], Value.int .i64 x), (25, [], Value.pointer r), (26, [], Value.pointer r)] (by kernel_rfl) (by kernel_rfl) ?_
        obtain ⟨hp_11, h⟩ := h
        refine reg_conv [(1, [], Value.int .i64 x), (25, [], Value.pointer r), (26, [], Value.pointer (some ⟨(pblk r), (poff r), none⟩))] (congrArg (fun pp => ([(1, [], Value.int .i64 x), (25, [], Value.pointer r), (26, [], Value.pointer pp)] : GEnv)) hp_11) ?_
        refine reg_run [.plain] 3 [(1, [], Value.int .i64 x), (25, [], Value.pointer r), (26, [], Value.pointer (some ⟨(pblk r), (poff r), none⟩)), (27, [], Value.pointer (some ⟨(pblk r), (poff r), none⟩))] (by kernel_rfl) (by kernel_rfl) ?_
        refine reg_run [.plain] 4 [(1, [], Value.int .i64 x), (25, [], Value.pointer r), (28, [], Value.pointer (some ⟨(pblk r), (poff r), none⟩))] (by kernel_rfl) (by kernel_rfl) ?_
        obtain ⟨v29, hc, h⟩ := h
        refine reg_load1 (t := 49) (a := (Go.Operand.tmp 28)) (b := (pblk r)) (o := (poff r)) (ty := 49) (dst := some 29) (by kernel_rfl) (by kernel_rfl) (by kernel_rfl) hc ?_
        refine reg_run [.plain] 6 [(25, [], Value.pointer r), (29, [], Value.slice v29.ptr v29.len v29.cap), (30, [], Value.int .i64 x)] (by kernel_rfl) (by kernel_rfl) ?_
        refine reg_new (op := (Go.Op.buildSlice 49 1 #[(0, (Go.Operand.tmp 30))])) (ty := 49) (dst := some 31) (fun bb => Value.slice (some ⟨bb, 0, none⟩) 1 1) (Obj.cells ([Value.int .i64 x]).toArray ty_int (0, 0)) (by kernel_rfl) (by kernel_rfl) (fun b_ w2 hb hw => ?_)
        replace h := h b_ w2 hb hw
        clear hb hw
        refine reg_run [] 7 [(25, [], Value.pointer r), (29, [], Value.slice v29.ptr v29.len v29.cap), (31, [], Value.slice (some ⟨b_, 0, none⟩) 1 1)] (by kernel_rfl) (by kernel_rfl) ?_
        obtain ⟨src, hs, h⟩ := h
        refine reg_append (t := 49) (tx := 49) (e := 3) (a := (Go.Operand.tmp 29)) (xo := (Go.Operand.tmp 31)) (s := v29) (x := (Slc.mk (some ⟨b_, 0, none⟩) 1 1)) (sz := 1) (by_ := 8) (zs := [Value.int .i64 0]) (ty := 49) (dst := some 32)  src (by kernel_rfl) (by kernel_rfl) (by kernel_rfl) (by kernel_rfl) (by kernel_rfl) (by kernel_rfl) (by kernel_rfl) (by kernel_rfl) (by kernel_rfl) hs (AppendW.mono h (fun v32 w3 h => ?_))
        refine reg_run [] 8 [(25, [], Value.pointer r), (32, [], Value.slice v32.ptr v32.len v32.cap)] (by kernel_rfl) (by kernel_rfl) ?_
        obtain ⟨hp_12, h⟩ := h
        refine reg_conv [(25, [], Value.pointer (some ⟨(pblk r), (poff r), none⟩)), (32, [], Value.slice v32.ptr v32.len v32.cap)] (congrArg (fun pp => ([(25, [], Value.pointer pp), (32, [], Value.slice v32.ptr v32.len v32.cap)] : GEnv)) hp_12) ?_
        refine reg_run [.plain] 9 [(25, [], Value.pointer (some ⟨(pblk r), (poff r), none⟩)), (32, [], Value.slice v32.ptr v32.len v32.cap), (33, [], Value.pointer (some ⟨(pblk r), (poff r), none⟩))] (by kernel_rfl) (by kernel_rfl) ?_
        refine reg_run [.plain] 10 [(32, [], Value.slice v32.ptr v32.len v32.cap), (34, [], Value.pointer (some ⟨(pblk r), (poff r), none⟩))] (by kernel_rfl) (by kernel_rfl) ?_
        obtain ⟨hc, h⟩ := h
        refine reg_store (t := 49) (a := (Go.Operand.tmp 34)) (x := (Go.Operand.tmp 32)) (b := (pblk r)) (o := (poff r)) (ty := 0) (dst := none) [Value.slice v32.ptr v32.len v32.cap] (by kernel_rfl) (by kernel_rfl) (by kernel_rfl) (k := 1) (by kernel_rfl) (by kernel_rfl) (by kernel_rfl) hc (fun w4 hw => ?_)
        replace h := h w4 hw
        clear hw
        refine reg_end [] (by kernel_rfl) (by kernel_rfl) ?_
        change WpE _ _ c_towpathref10_Ring_Put_16 _ _ _
        refine wpE_seq (x := c_towpathref10_Ring_Put_17) (y := c_towpathref10_Ring_Put_19) (by kernel_rfl) ?_
        refine wpE_region (id := 4) (ops := r_towpathref10_Ring_Put_17) (by kernel_rfl) ?_
        refine reg_run [.plain] 1 [(4, [], Value.bool true)] (by kernel_rfl) (by kernel_rfl) ?_
        refine reg_end [(4, Value.bool true)] (by kernel_rfl) (by kernel_rfl) ?_
        change WpE _ _ c_towpathref10_Ring_Put_19 _ _ _
        refine wpE_ret (by kernel_rfl) ?_
        repeat (first | refine seqQ_ret ?_ | refine blockQ_ret ?_ | refine loopQ_ret ?_ | refine cutQ_ret ?_)
        exact retS (rs := [(Go.ResultVar.tmp 4)]) (v := Value.bool true) (by kernel_rfl) (⟨by kernel_rfl, trivial⟩) ⟨true, rfl, h⟩
  · rintro e w' ⟨v, rfl, r0, rfl, h⟩; exact ⟨r0, rfl, h⟩

/-! ### (*towpath/towpathref10.Ring).Take (function 52) -/
noncomputable def c_towpathref10_Ring_Take_0 : Code := (Try.f52.body).getD Code.skip
noncomputable def c_towpathref10_Ring_Take_1 : Code := Code.l c_towpathref10_Ring_Take_0
noncomputable def r_towpathref10_Ring_Take_1 : Array Oper := Code.ops c_towpathref10_Ring_Take_1
noncomputable def c_towpathref10_Ring_Take_3 : Code := Code.r c_towpathref10_Ring_Take_0
noncomputable def c_towpathref10_Ring_Take_4 : Code := Code.l c_towpathref10_Ring_Take_3
noncomputable def r_towpathref10_Ring_Take_4 : Array Oper := Code.ops c_towpathref10_Ring_Take_4
noncomputable def c_towpathref10_Ring_Take_6 : Code := Code.r c_towpathref10_Ring_Take_3
noncomputable def c_towpathref10_Ring_Take_7 : Code := Code.l c_towpathref10_Ring_Take_6
noncomputable def c_towpathref10_Ring_Take_8 : Code := Code.l c_towpathref10_Ring_Take_7
noncomputable def r_towpathref10_Ring_Take_8 : Array Oper := Code.ops c_towpathref10_Ring_Take_8
noncomputable def c_towpathref10_Ring_Take_10 : Code := Code.r c_towpathref10_Ring_Take_7
noncomputable def c_towpathref10_Ring_Take_11 : Code := Code.l c_towpathref10_Ring_Take_10
noncomputable def r_towpathref10_Ring_Take_11 : Array Oper := Code.ops c_towpathref10_Ring_Take_11
noncomputable def c_towpathref10_Ring_Take_13 : Code := Code.r c_towpathref10_Ring_Take_10
noncomputable def c_towpathref10_Ring_Take_14 : Code := Code.r c_towpathref10_Ring_Take_6
noncomputable def c_towpathref10_Ring_Take_15 : Code := Code.l c_towpathref10_Ring_Take_14
noncomputable def r_towpathref10_Ring_Take_15 : Array Oper := Code.ops c_towpathref10_Ring_Take_15
noncomputable def c_towpathref10_Ring_Take_17 : Code := Code.r c_towpathref10_Ring_Take_14

set_option maxRecDepth 100000 in
set_option maxHeartbeats 4000000 in
theorem S_towpathref10_Ring_Take {r : Option Addr} {w : World} {R : Int → Bool → World → Prop} (h : F_towpathref10_Ring_Take r R w) : C_towpathref10_Ring_Take r w R := by
  unfold F_towpathref10_Ring_Take at h
  unfold C_towpathref10_Ring_Take
  refine Calls.mono (calls_of_wpE (args := [Value.pointer r]) (R := fun v w' => ∃ (r0 : Int) (r1 : Bool), v = Value.tuple #[Value.int .i64 r0, Value.bool r1] ∧ R r0 r1 w') Try.func52 (c := c_towpathref10_Ring_Take_0) (by kernel_rfl) 22 (by kernel_rfl) (by kernel_rfl) [(0, Value.pointer r)] (by kernel_rfl) ?_) ?_
  · refine wpE_seq (x := c_towpathref10_Ring_Take_1) (y := c_towpathref10_Ring_Take_3) (by kernel_rfl) ?_
    refine wpE_region (id := 0) (ops := r_towpathref10_Ring_Take_1) (by kernel_rfl) ?_
    refine reg_run [.plain, .plain] 2 [(0, [], Value.pointer r)] (by kernel_rfl) (by kernel_rfl) ?_
    refine reg_end [(0, Value.pointer r)] (by kernel_rfl) (by kernel_rfl) ?_
    change WpE _ _ c_towpathref10_Ring_Take_3 _ _ _
    refine wpE_seq (x := c_towpathref10_Ring_Take_4) (y := c_towpathref10_Ring_Take_6) (by kernel_rfl) ?_
    refine wpE_region (id := 1) (ops := r_towpathref10_Ring_Take_4) (by kernel_rfl) ?_
    refine reg_run [.plain] 1 [(0, [], Value.pointer r), (7, [], Value.pointer r)] (by kernel_rfl) (by kernel_rfl) ?_
    refine reg_enter (op := (Go.Op.call (Go.Call.mk (Go.Callee.value (Go.Operand.func 55)) #[(Go.Operand.tmp 7)] #[60]))) (ty := 40) (dst := some 8) 55 #[Value.pointer r] (by kernel_rfl) (fun ww => by kernel_rfl) (Calls.mono h ?_)
    rintro _ w1 ⟨x, ok, rfl, h⟩
    refine ⟨_, rfl, ?_⟩
    refine reg_run [.plain, .plain, .plain, .plain, .plain] 7 [(0, [], Value.pointer r), (4, [], Value.int .i64 x), (5, [], Value.bool ok)] (by kernel_rfl) (by kernel_rfl) ?_
    refine reg_end [(0, Value.pointer r), (4, Value.int .i64 x), (5, Value.bool ok)] (by kernel_rfl) (by kernel_rfl) ?_
    change WpE _ _ c_towpathref10_Ring_Take_6 _ _ _
    refine wpE_seq_cut (x := c_towpathref10_Ring_Take_7) (y := c_towpathref10_Ring_Take_14) (by kernel_rfl) (fun l w => l = [(4, Value.int .i64 x), (5, Value.bool ok)] ∧ F_towpathref10_Ring_Take_k0 R x ok w) ?_ ?_
    · refine wpE_seq (x := c_towpathref10_Ring_Take_8) (y := c_towpathref10_Ring_Take_10) (by kernel_rfl) ?_
      refine wpE_region (id := 2) (ops := r_towpathref10_Ring_Take_8) (by kernel_rfl) ?_
      refine reg_run [.plain] 1 [(0, [], Value.pointer r), (4, [], Value.int .i64 x), (5, [], Value.bool ok), (11, [], Value.bool ok)] (by kernel_rfl) (by kernel_rfl) ?_
      refine reg_end [(0, Value.pointer r), (4, Value.int .i64 x), (5, Value.bool ok), (11, Value.bool ok)] (by kernel_rfl) (by kernel_rfl) ?_
      change WpE _ _ c_towpathref10_Ring_Take_10 _ _ _
      refine wpE_cond (o := (Operand.tmp 11)) (b := ok) (x := c_towpathref10_Ring_Take_11) (y := c_towpathref10_Ring_Take_13) (by kernel_rfl) (by kernel_rfl) (fun hb => ?_) (fun hb => ?_)
      · replace h := h.1 hb
        refine wpE_region (id := 3) (ops := r_towpathref10_Ring_Take_11) (by kernel_rfl) ?_
        refine reg_run [.plain, .plain] 2 [(4, [], Value.int .i64 x), (5, [], Value.bool ok), (12, [], Value.pointer r), (13, [], Value.pointer r)] (by kernel_rfl) (by kernel_rfl) ?_
        obtain ⟨hp_2, h⟩ := h
        refine reg_conv [(4, [], Value.int .i64 x), (5, [], Value.bool ok), (12, [], Value.pointer r), (13, [], Value.pointer (some ⟨(pblk r), (poff r), none⟩))] (congrArg (fun pp => ([(4, [], Value.int .i64 x), (5, [], Value.bool ok), (12, [], Value.pointer r), (13, [], Value.pointer pp)] : GEnv)) hp_2) ?_
        refine reg_run [.plain] 3 [(4, [], Value.int .i64 x), (5, [], Value.bool ok), (12, [], Value.pointer r), (13, [], Value.pointer (some ⟨(pblk r), (poff r), none⟩)), (14, [], Value.pointer (some ⟨(pblk r), (poff r), none⟩))] (by kernel_rfl) (by kernel_rfl) ?_
        refine reg_run [.plain] 4 [(4, [], Value.int .i64 x), (5, [], Value.bool ok), (12, [], Value.pointer r), (15, [], Value.pointer (some ⟨(pblk r), (poff r), none⟩))] (by kernel_rfl) (by kernel_rfl) ?_
        obtain ⟨v16, hc, h⟩ := h
        refine reg_load1 (t := 49) (a := (Go.Operand.tmp 15)) (b := (pblk r)) (o := (poff r)) (ty := 49) (dst := some 16) (by kernel_rfl) (by kernel_rfl) (by kernel_rfl) hc ?_
        refine reg_run [] 5 [(4, [], Value.int .i64 x), (5, [], Value.bool ok), (12, [], Value.pointer r), (16, [], Value.slice v16.ptr v16.len v16.cap)] (by kernel_rfl) (by kernel_rfl) ?_
        obtain ⟨hc, h⟩ := h
        refine reg_slice (t := 49) (e := 3) (x := (Go.Operand.tmp 16)) (lo := (Go.Operand.const (Go.Value.int Go.IntKind.i64 1))) (s := v16) (sz := 1) (k := .i64) (a := 1) (ty := 49) (dst := some 17) (by kernel_rfl) (by kernel_rfl) (by kernel_rfl) (by kernel_rfl) (by kernel_rfl) hc (fun s hs => ?_)
        replace h := h s hs
        clear hs
        refine reg_run [] 6 [(4, [], Value.int .i64 x), (5, [], Value.bool ok), (12, [], Value.pointer r), (17, [], Value.slice s.ptr s.len s.cap)] (by kernel_rfl) (by kernel_rfl) ?_
        obtain ⟨hp_3, h⟩ := h
        refine reg_conv [(4, [], Value.int .i64 x), (5, [], Value.bool ok), (12, [], Value.pointer (some ⟨(pblk r), (poff r), none⟩)), (17, [], Value.slice s.ptr s.len s.cap)] (congrArg (fun pp => ([(4, [], Value.int .i64 x), (5, [], Value.bool ok), (12, [], Value.pointer pp), (17, [], Value.slice s.ptr s.len s.cap)] : GEnv)) hp_3) ?_
        refine reg_run [.plain] 7 [(4, [], Value.int .i64 x), (5, [], Value.bool ok), (12, [], Value.pointer (some ⟨(pblk r), (poff r), none⟩)), (17, [], Value.slice s.ptr s.len s.cap), (18, [], Value.pointer (some ⟨(pblk r), (poff r), none⟩))] (by kernel_rfl) (by kernel_rfl) ?_
        refine reg_run [.plain] 8 [(4, [], Value.int .i64 x), (5, [], Value.bool ok), (17, [], Value.slice s.ptr s.len s.cap), (19, [], Value.pointer (some ⟨(pblk r), (poff r), none⟩))] (by kernel_rfl) (by kernel_rfl) ?_
        obtain ⟨hc, h⟩ := h
        refine reg_store (t := 49) (a := (Go.Operand.tmp 19)) (x := (Go.Operand.tmp 17)) (b := (pblk r)) (o := (poff r)) (ty := 0) (dst := none) [Value.slice s.ptr s.len s.cap] (by kernel_rfl) (by kernel_rfl) (by kernel_rfl) (k := 1) (by kernel_rfl) (by kernel_rfl) (by kernel_rfl) hc (fun w3 hw => ?_)
        replace h := h w3 hw
        clear hw
        refine reg_end [(4, Value.int .i64 x), (5, Value.bool ok)] (by kernel_rfl) (by kernel_rfl) ?_
        exact ⟨[(4, Value.int .i64 x), (5, Value.bool ok)], Sub.mk (by kernel_rfl), rfl, h⟩
      · replace h := h.2 hb
        refine wpE_skip (by kernel_rfl) ?_
        exact ⟨[(4, Value.int .i64 x), (5, Value.bool ok)], Sub.mk (by kernel_rfl), rfl, h⟩
    · rintro _ w2 ⟨rfl, h⟩
      unfold F_towpathref10_Ring_Take_k0 at h
      refine wpE_seq (x := c_towpathref10_Ring_Take_15) (y := c_towpathref10_Ring_Take_17) (by kernel_rfl) ?_
      refine wpE_region (id := 4) (ops := r_towpathref10_Ring_Take_15) (by kernel_rfl) ?_
      refine reg_run [.plain, .plain, .plain, .plain] 4 [(2, [], Value.int .i64 x), (3, [], Value.bool ok)] (by kernel_rfl) (by kernel_rfl) ?_
      refine reg_end [(2, Value.int .i64 x), (3, Value.bool ok)] (by kernel_rfl) (by kernel_rfl) ?_
      change WpE _ _ c_towpathref10_Ring_Take_17 _ _ _
      refine wpE_ret (by kernel_rfl) ?_
      repeat (first | refine seqQ_ret ?_ | refine blockQ_ret ?_ | refine loopQ_ret ?_ | refine cutQ_ret ?_)
      exact retT (rs := [(Go.ResultVar.tmp 2), (Go.ResultVar.tmp 3)]) (vs := [Value.int .i64 x, Value.bool ok]) (by kernel_rfl) (⟨by kernel_rfl, ⟨by kernel_rfl, trivial⟩⟩) (by kernel_rfl) ⟨x, ok, rfl, h⟩
  · rintro e w' ⟨v, rfl, r0, r1, rfl, h⟩; exact ⟨r0, r1, rfl, h⟩

/-! ### (*towpath/towpathref10.Ring).Close (function 53) -/
noncomputable def c_towpathref10_Ring_Close_0 : Code := (Try.f53.body).getD Code.skip
noncomputable def c_towpathref10_Ring_Close_1 : Code := Code.l c_towpathref10_Ring_Close_0
noncomputable def r_towpathref10_Ring_Close_1 : Array Oper := Code.ops c_towpathref10_Ring_Close_1
noncomputable def c_towpathref10_Ring_Close_3 : Code := Code.r c_towpathref10_Ring_Close_0
noncomputable def c_towpathref10_Ring_Close_4 : Code := Code.l c_towpathref10_Ring_Close_3
noncomputable def r_towpathref10_Ring_Close_4 : Array Oper := Code.ops c_towpathref10_Ring_Close_4
noncomputable def c_towpathref10_Ring_Close_6 : Code := Code.r c_towpathref10_Ring_Close_3

set_option maxRecDepth 100000 in
set_option maxHeartbeats 4000000 in
theorem S_towpathref10_Ring_Close {r : Option Addr} {w : World} {R : World → Prop} (h : F_towpathref10_Ring_Close r R w) : C_towpathref10_Ring_Close r w R := by
  unfold F_towpathref10_Ring_Close at h
  unfold C_towpathref10_Ring_Close
  refine Calls.mono (calls_of_wpE (args := [Value.pointer r]) (R := fun v w' => v = Value.tuple #[] ∧ R w') Try.func53 (c := c_towpathref10_Ring_Close_0) (by kernel_rfl) 7 (by kernel_rfl) (by kernel_rfl) [(0, Value.pointer r)] (by kernel_rfl) ?_) ?_
  · refine wpE_seq (x := c_towpathref10_Ring_Close_1) (y := c_towpathref10_Ring_Close_3) (by kernel_rfl) ?_
    refine wpE_region (id := 0) (ops := r_towpathref10_Ring_Close_1) (by kernel_rfl) ?_
    refine reg_run [.plain] 1 [(0, [], Value.pointer r), (2, [], Value.pointer r)] (by kernel_rfl) (by kernel_rfl) ?_
    refine reg_val (op := (Go.Op.binOp Go.BinOp.neq 60 (Go.Operand.tmp 2) (Go.Operand.const (Go.Value.pointer none)) 60)) (ty := 4) (dst := some 3) (Value.bool (!r.isNone)) (by kernel_rfl) (fun ww => run_ptr_neq_R (p := r) (by kernel_rfl) (by kernel_rfl) (by kernel_rfl) ww) ?_
    refine reg_end [(0, Value.pointer r), (3, Value.bool (!r.isNone))] (by kernel_rfl) (by kernel_rfl) ?_
    change WpE _ _ c_towpathref10_Ring_Close_3 _ _ _
    refine wpE_cond (o := (Operand.tmp 3)) (b := (!r.isNone)) (x := c_towpathref10_Ring_Close_4) (y := c_towpathref10_Ring_Close_6) (by kernel_rfl) (by kernel_rfl) (fun hb => ?_) (fun hb => ?_)
    · replace h := h.1 hb
      refine wpE_region (id := 1) (ops := r_towpathref10_Ring_Close_4) (by kernel_rfl) ?_
      refine reg_run [.plain] 1 [(4, [], Value.pointer r)] (by kernel_rfl) (by kernel_rfl) ?_
      obtain ⟨hp_0, h⟩ := h
      refine reg_conv [(4, [], Value.pointer (some ⟨(pblk r), (poff r), none⟩))] (congrArg (fun pp => ([(4, [], Value.pointer pp)] : GEnv)) hp_0) ?_
      refine reg_run [.plain] 2 [(4, [], Value.pointer (some ⟨(pblk r), (poff r), none⟩)), (5, [], Value.pointer (some ⟨(pblk r), (poff r), none⟩))] (by kernel_rfl) (by kernel_rfl) ?_
      refine reg_run [.plain] 3 [(6, [], Value.pointer (some ⟨(pblk r), (poff r) + 2, none⟩))] (by kernel_rfl) (by kernel_rfl) ?_
      obtain ⟨hc, h⟩ := h
      refine reg_store (t := 4) (a := (Go.Operand.tmp 6)) (x := (Go.Operand.const (Go.Value.bool true))) (b := (pblk r)) (o := ((poff r) + 2)) (ty := 0) (dst := none) [Value.bool true] (by kernel_rfl) (by kernel_rfl) (by kernel_rfl) (k := 1) (by kernel_rfl) (by kernel_rfl) (by kernel_rfl) hc (fun w1 hw => ?_)
      replace h := h w1 hw
      clear hw
      refine reg_end [] (by kernel_rfl) (by kernel_rfl) ?_
      repeat (first | refine seqQ_exit ?_ | refine loopQ_exit ?_ | refine cutQ_exit ?_ | refine blockQ_hit ?_ | refine blockQ_miss (by kernel_rfl) ?_)
      refine retQ_normal ?_
      repeat (first | refine seqQ_ret ?_ | refine blockQ_ret ?_ | refine loopQ_ret ?_ | refine cutQ_ret ?_)
      exact retT (rs := []) (vs := []) (by kernel_rfl) (trivial) (by kernel_rfl) ⟨rfl, h⟩
    · replace h := h.2 hb
      refine wpE_skip (by kernel_rfl) ?_
      repeat (first | refine seqQ_exit ?_ | refine loopQ_exit ?_ | refine cutQ_exit ?_ | refine blockQ_hit ?_ | refine blockQ_miss (by kernel_rfl) ?_)
      refine retQ_normal ?_
      repeat (first | refine seqQ_ret ?_ | refine blockQ_ret ?_ | refine loopQ_ret ?_ | refine cutQ_ret ?_)
      exact retT (rs := []) (vs := []) (by kernel_rfl) (trivial) (by kernel_rfl) ⟨rfl, h⟩
  · rintro e w' ⟨v, rfl, rfl, h⟩; exact ⟨rfl, h⟩

/-! ### (*towpath/towpathref10.Ring).First (function 55) -/
noncomputable def c_towpathref10_Ring_First_0 : Code := (Try.f55.body).getD Code.skip
noncomputable def c_towpathref10_Ring_First_1 : Code := Code.l c_towpathref10_Ring_First_0
noncomputable def r_towpathref10_Ring_First_1 : Array Oper := Code.ops c_towpathref10_Ring_First_1
noncomputable def c_towpathref10_Ring_First_3 : Code := Code.r c_towpathref10_Ring_First_0
noncomputable def c_towpathref10_Ring_First_4 : Code := Code.l c_towpathref10_Ring_First_3
noncomputable def c_towpathref10_Ring_First_5 : Code := Code.l c_towpathref10_Ring_First_4
noncomputable def r_towpathref10_Ring_First_5 : Array Oper := Code.ops c_towpathref10_Ring_First_5
noncomputable def c_towpathref10_Ring_First_7 : Code := Code.r c_towpathref10_Ring_First_4
noncomputable def c_towpathref10_Ring_First_8 : Code := Code.l c_towpathref10_Ring_First_7
noncomputable def c_towpathref10_Ring_First_9 : Code := Code.l c_towpathref10_Ring_First_8
noncomputable def r_towpathref10_Ring_First_9 : Array Oper := Code.ops c_towpathref10_Ring_First_9
noncomputable def c_towpathref10_Ring_First_11 : Code := Code.r c_towpathref10_Ring_First_8
noncomputable def c_towpathref10_Ring_First_12 : Code := Code.r c_towpathref10_Ring_First_7
noncomputable def c_towpathref10_Ring_First_13 : Code := Code.r c_towpathref10_Ring_First_3
noncomputable def c_towpathref10_Ring_First_14 : Code := Code.l c_towpathref10_Ring_First_13
noncomputable def r_towpathref10_Ring_First_14 : Array Oper := Code.ops c_towpathref10_Ring_First_14
noncomputable def c_towpathref10_Ring_First_16 : Code := Code.r c_towpathref10_Ring_First_13

set_option maxRecDepth 100000 in
set_option maxHeartbeats 4000000 in
theorem S_towpathref10_Ring_First {r : Option Addr} {w : World} {R : Int → Bool → World → Prop} (h : F_towpathref10_Ring_First r R w) : C_towpathref10_Ring_First r w R := by
  unfold F_towpathref10_Ring_First at h
  unfold C_towpathref10_Ring_First
  refine Calls.mono (calls_of_wpE (args := [Value.pointer r]) (R := fun v w' => ∃ (r0 : Int) (r1 : Bool), v = Value.tuple #[Value.int .i64 r0, Value.bool r1] ∧ R r0 r1 w') Try.func55 (c := c_towpathref10_Ring_First_0) (by kernel_rfl) 20 (by kernel_rfl) (by kernel_rfl) [(0, Value.pointer r)] (by kernel_rfl) ?_) ?_
  · refine wpE_seq (x := c_towpathref10_Ring_First_1) (y := c_towpathref10_Ring_First_3) (by kernel_rfl) ?_
    refine wpE_region (id := 0) (ops := r_towpathref10_Ring_First_1) (by kernel_rfl) ?_
    refine reg_run [.plain, .plain] 2 [(0, [], Value.pointer r)] (by kernel_rfl) (by kernel_rfl) ?_
    refine reg_end [(0, Value.pointer r)] (by kernel_rfl) (by kernel_rfl) ?_
    change WpE _ _ c_towpathref10_Ring_First_3 _ _ _
    refine wpE_seq (x := c_towpathref10_Ring_First_4) (y := c_towpathref10_Ring_First_13) (by kernel_rfl) ?_
    refine wpE_seq_cut (x := c_towpathref10_Ring_First_5) (y := c_towpathref10_Ring_First_7) (by kernel_rfl) (fun l w => ∃ (t13 : Bool), l = [(0, Value.pointer r), (13, Value.bool t13)] ∧ F_towpathref10_Ring_First_k0 r R t13 w) ?_ ?_
    · refine wpE_region (id := 1) (ops := r_towpathref10_Ring_First_5) (by kernel_rfl) ?_
      refine reg_run [.plain] 1 [(0, [], Value.pointer r), (4, [], Value.pointer r)] (by kernel_rfl) (by kernel_rfl) ?_
      refine reg_val (op := (Go.Op.binOp Go.BinOp.eql 60 (Go.Operand.tmp 4) (Go.Operand.const (Go.Value.pointer none)) 60)) (ty := 4) (dst := some 5) (Value.bool r.isNone) (by kernel_rfl) (fun ww => run_ptr_eql_R (p := r) (by kernel_rfl) (by kernel_rfl) (by kernel_rfl) ww) ?_
      refine reg_run [.plain, .plain] 4 [(0, [], Value.pointer r), (6, [], Value.bool r.isNone), (7, [(6, false)], Value.pointer r)] (by kernel_rfl) (by kernel_rfl) ?_
      refine reg_split 6 r.isNone (by kernel_rfl) (fun hb => ?_) (fun hb => ?_)
      · replace h := h.1 hb
        refine reg_run [] 4 [(0, [], Value.pointer r), (6, [], Value.bool true), (7, [], undef)] (by kernel_rfl) (by kernel_rfl) ?_
        refine reg_run [.skip, .skip, .skip, .skip, .skip, .plain] 10 [(0, [], Value.pointer r), (13, [], Value.bool true)] (by kernel_rfl) (by kernel_rfl) ?_
        refine reg_end [(0, Value.pointer r), (13, Value.bool true)] (by kernel_rfl) (by kernel_rfl) ?_
        exact ⟨[(0, Value.pointer r), (13, Value.bool true)], Sub.mk (by kernel_rfl), true, rfl, h⟩
      · replace h := h.2 hb
        refine reg_run [] 4 [(0, [], Value.pointer r), (6, [], Value.bool false), (7, [], Value.pointer r)] (by kernel_rfl) (by kernel_rfl) ?_
        refine reg_run [] 4 [(0, [], Value.pointer r), (6, [], Value.bool false), (7, [], Value.pointer r)] (by kernel_rfl) (by kernel_rfl) ?_
        obtain ⟨hp_5, h⟩ := h
        refine reg_conv [(0, [], Value.pointer r), (6, [], Value.bool false), (7, [], Value.pointer (some ⟨(pblk r), (poff r), none⟩))] (congrArg (fun pp => ([(0, [], Value.pointer r), (6, [], Value.bool false), (7, [], Value.pointer pp)] : GEnv)) hp_5) ?_
        refine reg_run [.sure] 5 [(0, [], Value.pointer r), (6, [], Value.bool false), (7, [], Value.pointer (some ⟨(pblk r), (poff r), none⟩)), (8, [], Value.pointer (some ⟨(pblk r), (poff r), none⟩))] (by kernel_rfl) (by kernel_rfl) ?_
        refine reg_run [.sure] 6 [(0, [], Value.pointer r), (6, [], Value.bool false), (9, [], Value.pointer (some ⟨(pblk r), (poff r), none⟩))] (by kernel_rfl) (by kernel_rfl) ?_
        obtain ⟨v10, hc, h⟩ := h
        refine reg_load1 (t := 49) (a := (Go.Operand.tmp 9)) (b := (pblk r)) (o := (poff r)) (ty := 49) (dst := some 10) (by kernel_rfl) (by kernel_rfl) (by kernel_rfl) hc ?_
        refine reg_run [.sure, .sure, .plain] 10 [(0, [], Value.pointer r), (13, [], Value.bool (((v10.len : Nat) : Int) == 0))] (by kernel_rfl) (by kernel_rfl) ?_
        refine reg_end [(0, Value.pointer r), (13, Value.bool (((v10.len : Nat) : Int) == 0))] (by kernel_rfl) (by kernel_rfl) ?_
        exact ⟨[(0, Value.pointer r), (13, Value.bool (((v10.len : Nat) : Int) == 0))], Sub.mk (by kernel_rfl), (((v10.len : Nat) : Int) == 0), rfl, h⟩
    · rintro _ w1 ⟨t13, rfl, h⟩
      unfold F_towpathref10_Ring_First_k0 at h
      refine wpE_cond (o := (Operand.tmp 13)) (b := t13) (x := c_towpathref10_Ring_First_8) (y := c_towpathref10_Ring_First_12) (by kernel_rfl) (by kernel_rfl) (fun hb => ?_) (fun hb => ?_)
      · replace h := h.1 hb
        refine wpE_seq (x := c_towpathref10_Ring_First_9) (y := c_towpathref10_Ring_First_11) (by kernel_rfl) ?_
        refine wpE_region (id := 2) (ops := r_towpathref10_Ring_First_9) (by kernel_rfl) ?_
        refine reg_run [.plain, .plain] 2 [(2, [], Value.int .i64 0), (3, [], Value.bool false)] (by kernel_rfl) (by kernel_rfl) ?_
        refine reg_end [(2, Value.int .i64 0), (3, Value.bool false)] (by kernel_rfl) (by kernel_rfl) ?_
        change WpE _ _ c_towpathref10_Ring_First_11 _ _ _
        refine wpE_ret (by kernel_rfl) ?_
        repeat (first | refine seqQ_ret ?_ | refine blockQ_ret ?_ | refine loopQ_ret ?_ | refine cutQ_ret ?_)
        exact retT (rs := [(Go.ResultVar.tmp 2), (Go.ResultVar.tmp 3)]) (vs := [Value.int .i64 0, Value.bool false]) (by kernel_rfl) (⟨by kernel_rfl, ⟨by kernel_rfl, trivial⟩⟩) (by kernel_rfl) ⟨0, false, rfl, h⟩
      · replace h := h.2 hb
        refine wpE_skip (by kernel_rfl) ?_
        change WpE _ _ c_towpathref10_Ring_First_13 _ _ _
        refine wpE_seq (x := c_towpathref10_Ring_First_14) (y := c_towpathref10_Ring_First_16) (by kernel_rfl) ?_
        refine wpE_region (id := 3) (ops := r_towpathref10_Ring_First_14) (by kernel_rfl) ?_
        refine reg_run [.plain] 1 [(14, [], Value.pointer r)] (by kernel_rfl) (by kernel_rfl) ?_
        obtain ⟨hp_3, h⟩ := h
        refine reg_conv [(14, [], Value.pointer (some ⟨(pblk r), (poff r), none⟩))] (congrArg (fun pp => ([(14, [], Value.pointer pp)] : GEnv)) hp_3) ?_
        refine reg_run [.plain] 2 [(14, [], Value.pointer (some ⟨(pblk r), (poff r), none⟩)), (15, [], Value.pointer (some ⟨(pblk r), (poff r), none⟩))] (by kernel_rfl) (by kernel_rfl) ?_
        refine reg_run [.plain] 3 [(16, [], Value.pointer (some ⟨(pblk r), (poff r), none⟩))] (by kernel_rfl) (by kernel_rfl) ?_
        obtain ⟨v17, hc, h⟩ := h
        refine reg_load1 (t := 49) (a := (Go.Operand.tmp 16)) (b := (pblk r)) (o := (poff r)) (ty := 49) (dst := some 17) (by kernel_rfl) (by kernel_rfl) (by kernel_rfl) hc ?_
        refine reg_run [] 4 [(17, [], Value.slice v17.ptr v17.len v17.cap)] (by kernel_rfl) (by kernel_rfl) ?_
        obtain ⟨hp_4, h⟩ := h
        refine reg_conv [(17, [], Value.slice (some ⟨(pblk v17.ptr), (poff v17.ptr), none⟩) v17.len v17.cap)] (congrArg (fun pp => ([(17, [], Value.slice pp v17.len v17.cap)] : GEnv)) hp_4) ?_
        obtain ⟨h0, h1, h⟩ := h
        refine reg_indexS1 (t := 49) (e := 3) (x := (Go.Operand.tmp 17)) (ix := (Go.Operand.const (Go.Value.int Go.IntKind.i64 0))) (b := (pblk v17.ptr)) (o := (poff v17.ptr)) (l := v17.len) (c := v17.cap) (k := .i64) (j := 0) (ty := 0) (dst := some 18) (by kernel_rfl) (by kernel_rfl) (by kernel_rfl) (by kernel_rfl) (by kernel_rfl) h0 h1 ?_
        refine reg_run [] 5 [(18, [], Value.pointer (some ⟨(pblk v17.ptr), (poff v17.ptr), none⟩))] (by kernel_rfl) (by kernel_rfl) ?_
        obtain ⟨v19, hc, h⟩ := h
        refine reg_load1 (t := 3) (a := (Go.Operand.tmp 18)) (b := (pblk v17.ptr)) (o := (poff v17.ptr)) (ty := 3) (dst := some 19) (by kernel_rfl) (by kernel_rfl) (by kernel_rfl) hc ?_
        refine reg_run [.plain, .plain] 8 [(2, [], Value.int .i64 v19), (3, [], Value.bool true)] (by kernel_rfl) (by kernel_rfl) ?_
        refine reg_end [(2, Value.int .i64 v19), (3, Value.bool true)] (by kernel_rfl) (by kernel_rfl) ?_
        change WpE _ _ c_towpathref10_Ring_First_16 _ _ _
        refine wpE_ret (by kernel_rfl) ?_
        repeat (first | refine seqQ_ret ?_ | refine blockQ_ret ?_ | refine loopQ_ret ?_ | refine cutQ_ret ?_)
        exact retT (rs := [(Go.ResultVar.tmp 2), (Go.ResultVar.tmp 3)]) (vs := [Value.int .i64 v19, Value.bool true]) (by kernel_rfl) (⟨by kernel_rfl, ⟨by kernel_rfl, trivial⟩⟩) (by kernel_rfl) ⟨v19, true, rfl, h⟩
  · rintro e w' ⟨v, rfl, r0, r1, rfl, h⟩; exact ⟨r0, r1, rfl, h⟩

/-! ### (*towpath/towpathref10.Ring).Len (function 56) -/
noncomputable def c_towpathref10_Ring_Len_0 : Code := (Try.f56.body).getD Code.skip
noncomputable def c_towpathref10_Ring_Len_1 : Code := Code.l c_towpathref10_Ring_Len_0
noncomputable def r_towpathref10_Ring_Len_1 : Array Oper := Code.ops c_towpathref10_Ring_Len_1
noncomputable def c_towpathref10_Ring_Len_3 : Code := Code.r c_towpathref10_Ring_Len_0
noncomputable def c_towpathref10_Ring_Len_4 : Code := Code.l c_towpathref10_Ring_Len_3
noncomputable def c_towpathref10_Ring_Len_5 : Code := Code.l c_towpathref10_Ring_Len_4
noncomputable def r_towpathref10_Ring_Len_5 : Array Oper := Code.ops c_towpathref10_Ring_Len_5
noncomputable def c_towpathref10_Ring_Len_7 : Code := Code.r c_towpathref10_Ring_Len_4
noncomputable def c_towpathref10_Ring_Len_8 : Code := Code.l c_towpathref10_Ring_Len_7
noncomputable def c_towpathref10_Ring_Len_9 : Code := Code.l c_towpathref10_Ring_Len_8
noncomputable def r_towpathref10_Ring_Len_9 : Array Oper := Code.ops c_towpathref10_Ring_Len_9
noncomputable def c_towpathref10_Ring_Len_11 : Code := Code.r c_towpathref10_Ring_Len_8
noncomputable def c_towpathref10_Ring_Len_12 : Code := Code.r c_towpathref10_Ring_Len_7
noncomputable def c_towpathref10_Ring_Len_13 : Code := Code.r c_towpathref10_Ring_Len_3
noncomputable def c_towpathref10_Ring_Len_14 : Code := Code.l c_towpathref10_Ring_Len_13
noncomputable def r_towpathref10_Ring_Len_14 : Array Oper := Code.ops c_towpathref10_Ring_Len_14
noncomputable def c_towpathref10_Ring_Len_16 : Code := Code.r c_towpathref10_Ring_Len_13

set_option maxRecDepth 100000 in
set_option maxHeartbeats 4000000 in
theorem S_towpathref10_Ring_Len {r : Option Addr} {w : World} {R : Int → World → Prop} (h : F_towpathref10_Ring_Len r R w) : C_towpathref10_Ring_Len r w R := by
  unfold F_towpathref10_Ring_Len at h
  unfold C_towpathref10_Ring_Len
  refine Calls.mono (calls_of_wpE (args := [Value.pointer r]) (R := fun v w' => ∃ (r0 : Int), v = Value.int .i64 r0 ∧ R r0 w') Try.func56 (c := c_towpathref10_Ring_Len_0) (by kernel_rfl) 10 (by kernel_rfl) (by kernel_rfl) [(0, Value.pointer r)] (by kernel_rfl) ?_) ?_
  · refine wpE_seq (x := c_towpathref10_Ring_Len_1) (y := c_towpathref10_Ring_Len_3) (by kernel_rfl) ?_
    refine wpE_region (id := 0) (ops := r_towpathref10_Ring_Len_1) (by kernel_rfl) ?_
    refine reg_run [.plain] 1 [(0, [], Value.pointer r)] (by kernel_rfl) (by kernel_rfl) ?_
    refine reg_end [(0, Value.pointer r)] (by kernel_rfl) (by kernel_rfl) ?_
    change WpE _ _ c_towpathref10_Ring_Len_3 _ _ _
    refine wpE_seq (x := c_towpathref10_Ring_Len_4) (y := c_towpathref10_Ring_Len_13) (by kernel_rfl) ?_
    refine wpE_seq (x := c_towpathref10_Ring_Len_5) (y := c_towpathref10_Ring_Len_7) (by kernel_rfl) ?_
    refine wpE_region (id := 1) (ops := r_towpathref10_Ring_Len_5) (by kernel_rfl) ?_
    refine reg_run [.plain] 1 [(0, [], Value.pointer r), (3, [], Value.pointer r)] (by kernel_rfl) (by kernel_rfl) ?_
    refine reg_val (op := (Go.Op.binOp Go.BinOp.eql 60 (Go.Operand.tmp 3) (Go.Operand.const (Go.Value.pointer none)) 60)) (ty := 4) (dst := some 4) (Value.bool r.isNone) (by kernel_rfl) (fun ww => run_ptr_eql_R (p := r) (by kernel_rfl) (by kernel_rfl) (by kernel_rfl) ww) ?_
    refine reg_end [(0, Value.pointer r), (4, Value.bool r.isNone)] (by kernel_rfl) (by kernel_rfl) ?_
    change WpE _ _ c_towpathref10_Ring_Len_7 _ _ _
    refine wpE_cond (o := (Operand.tmp 4)) (b := r.isNone) (x := c_towpathref10_Ring_Len_8) (y := c_towpathref10_Ring_Len_12) (by kernel_rfl) (by kernel_rfl) (fun hb => ?_) (fun hb => ?_)
    · replace h := h.1 hb
      refine wpE_seq (x := c_towpathref10_Ring_Len_9) (y := c_towpathref10_Ring_Len_11) (by kernel_rfl) ?_
      refine wpE_region (id := 2) (ops := r_towpathref10_Ring_Len_9) (by kernel_rfl) ?_
      refine reg_run [.plain] 1 [(2, [], Value.int .i64 0)] (by kernel_rfl) (by kernel_rfl) ?_
      refine reg_end [(2, Value.int .i64 0)] (by kernel_rfl) (by kernel_rfl) ?_
      change WpE _ _ c_towpathref10_Ring_Len_11 _ _ _
      refine wpE_ret (by kernel_rfl) ?_
      repeat (first | refine seqQ_ret ?_ | refine blockQ_ret ?_ | refine loopQ_ret ?_ | refine cutQ_ret ?_)
      exact retS (rs := [(Go.ResultVar.tmp 2)]) (v := Value.int .i64 0) (by kernel_rfl) (⟨by kernel_rfl, trivial⟩) ⟨0, rfl, h⟩
    · replace h := h.2 hb
      refine wpE_skip (by kernel_rfl) ?_
      change WpE _ _ c_towpathref10_Ring_Len_13 _ _ _
      refine wpE_seq (x := c_towpathref10_Ring_Len_14) (y := c_towpathref10_Ring_Len_16) (by kernel_rfl) ?_
      refine wpE_region (id := 3) (ops := r_towpathref10_Ring_Len_14) (by kernel_rfl) ?_
      refine reg_run [.plain] 1 [(5, [], Value.pointer r)] (by kernel_rfl) (by kernel_rfl) ?_
      obtain ⟨hp_0, h⟩ := h
      refine reg_conv [(5, [], Value.pointer (some ⟨(pblk r), (poff r), none⟩))] (congrArg (fun pp => ([(5, [], Value.pointer pp)] : GEnv)) hp_0) ?_
      refine reg_run [.plain] 2 [(5, [], Value.pointer (some ⟨(pblk r), (poff r), none⟩)), (6, [], Value.pointer (some ⟨(pblk r), (poff r), none⟩))] (by kernel_rfl) (by kernel_rfl) ?_
      refine reg_run [.plain] 3 [(7, [], Value.pointer (some ⟨(pblk r), (poff r), none⟩))] (by kernel_rfl) (by kernel_rfl) ?_
      obtain ⟨v8, hc, h⟩ := h
      refine reg_load1 (t := 49) (a := (Go.Operand.tmp 7)) (b := (pblk r)) (o := (poff r)) (ty := 49) (dst := some 8) (by kernel_rfl) (by kernel_rfl) (by kernel_rfl) hc ?_
      refine reg_run [.plain, .plain] 6 [(2, [], Value.int .i64 ((v8.len : Nat) : Int))] (by kernel_rfl) (by kernel_rfl) ?_
      refine reg_end [(2, Value.int .i64 ((v8.len : Nat) : Int))] (by kernel_rfl) (by kernel_rfl) ?_
      change WpE _ _ c_towpathref10_Ring_Len_16 _ _ _
      refine wpE_ret (by kernel_rfl) ?_
      repeat (first | refine seqQ_ret ?_ | refine blockQ_ret ?_ | refine loopQ_ret ?_ | refine cutQ_ret ?_)
      exact retS (rs := [(Go.ResultVar.tmp 2)]) (v := Value.int .i64 ((v8.len : Nat) : Int)) (by kernel_rfl) (⟨by kernel_rfl, trivial⟩) ⟨((v8.len : Nat) : Int), rfl, h⟩
  · rintro e w' ⟨v, rfl, r0, rfl, h⟩; exact ⟨r0, rfl, h⟩

/-! ### (*towpath/towpathref10.Ring).Room (function 57) -/
noncomputable def c_towpathref10_Ring_Room_0 : Code := (Try.f57.body).getD Code.skip
noncomputable def c_towpathref10_Ring_Room_1 : Code := Code.l c_towpathref10_Ring_Room_0
noncomputable def r_towpathref10_Ring_Room_1 : Array Oper := Code.ops c_towpathref10_Ring_Room_1
noncomputable def c_towpathref10_Ring_Room_3 : Code := Code.r c_towpathref10_Ring_Room_0
noncomputable def c_towpathref10_Ring_Room_4 : Code := Code.l c_towpathref10_Ring_Room_3
noncomputable def c_towpathref10_Ring_Room_5 : Code := Code.l c_towpathref10_Ring_Room_4
noncomputable def r_towpathref10_Ring_Room_5 : Array Oper := Code.ops c_towpathref10_Ring_Room_5
noncomputable def c_towpathref10_Ring_Room_7 : Code := Code.r c_towpathref10_Ring_Room_4
noncomputable def c_towpathref10_Ring_Room_8 : Code := Code.l c_towpathref10_Ring_Room_7
noncomputable def c_towpathref10_Ring_Room_9 : Code := Code.l c_towpathref10_Ring_Room_8
noncomputable def r_towpathref10_Ring_Room_9 : Array Oper := Code.ops c_towpathref10_Ring_Room_9
noncomputable def c_towpathref10_Ring_Room_11 : Code := Code.r c_towpathref10_Ring_Room_8
noncomputable def c_towpathref10_Ring_Room_12 : Code := Code.r c_towpathref10_Ring_Room_7
noncomputable def c_towpathref10_Ring_Room_13 : Code := Code.r c_towpathref10_Ring_Room_3
noncomputable def c_towpathref10_Ring_Room_14 : Code := Code.l c_towpathref10_Ring_Room_13
noncomputable def r_towpathref10_Ring_Room_14 : Array Oper := Code.ops c_towpathref10_Ring_Room_14
noncomputable def c_towpathref10_Ring_Room_16 : Code := Code.r c_towpathref10_Ring_Room_13

set_option maxRecDepth 100000 in
set_option maxHeartbeats 4000000 in
theorem S_towpathref10_Ring_Room {r : Option Addr} {w : World} {R : Int → World → Prop} (h : F_towpathref10_Ring_Room r R w) : C_towpathref10_Ring_Room r w R := by
  unfold F_towpathref10_Ring_Room at h
  unfold C_towpathref10_Ring_Room
  refine Calls.mono (calls_of_wpE (args := [Value.pointer r]) (R := fun v w' => ∃ (r0 : Int), v = Value.int .i64 r0 ∧ R r0 w') Try.func57 (c := c_towpathref10_Ring_Room_0) (by kernel_rfl) 21 (by kernel_rfl) (by kernel_rfl) [(0, Value.pointer r)] (by kernel_rfl) ?_) ?_
  · refine wpE_seq (x := c_towpathref10_Ring_Room_1) (y := c_towpathref10_Ring_Room_3) (by kernel_rfl) ?_
    refine wpE_region (id := 0) (ops := r_towpathref10_Ring_Room_1) (by kernel_rfl) ?_
    refine reg_run [.plain] 1 [(0, [], Value.pointer r)] (by kernel_rfl) (by kernel_rfl) ?_
    refine reg_end [(0, Value.pointer r)] (by kernel_rfl) (by kernel_rfl) ?_
    change WpE _ _ c_towpathref10_Ring_Room_3 _ _ _
    refine wpE_seq (x := c_towpathref10_Ring_Room_4) (y := c_towpathref10_Ring_Room_13) (by kernel_rfl) ?_
    refine wpE_seq_cut (x := c_towpathref10_Ring_Room_5) (y := c_towpathref10_Ring_Room_7) (by kernel_rfl) (fun l w => ∃ (t10 : Bool), l = [(0, Value.pointer r), (10, Value.bool t10)] ∧ F_towpathref10_Ring_Room_k0 r R t10 w) ?_ ?_
    · refine wpE_region (id := 1) (ops := r_towpathref10_Ring_Room_5) (by kernel_rfl) ?_
      refine reg_run [.plain] 1 [(0, [], Value.pointer r), (3, [], Value.pointer r)] (by kernel_rfl) (by kernel_rfl) ?_
      refine reg_val (op := (Go.Op.binOp Go.BinOp.eql 60 (Go.Operand.tmp 3) (Go.Operand.const (Go.Value.pointer none)) 60)) (ty := 4) (dst := some 4) (Value.bool r.isNone) (by kernel_rfl) (fun ww => run_ptr_eql_R (p := r) (by kernel_rfl) (by kernel_rfl) (by kernel_rfl) ww) ?_
      refine reg_run [.plain, .plain] 4 [(0, [], Value.pointer r), (5, [], Value.bool r.isNone), (6, [(5, false)], Value.pointer r)] (by kernel_rfl) (by kernel_rfl) ?_
      refine reg_split 5 r.isNone (by kernel_rfl) (fun hb => ?_) (fun hb => ?_)
      · replace h := h.1 hb
        refine reg_run [] 4 [(0, [], Value.pointer r), (5, [], Value.bool true), (6, [], undef)] (by kernel_rfl) (by kernel_rfl) ?_
        refine reg_run [.skip, .skip, .skip, .plain] 8 [(0, [], Value.pointer r), (10, [], Value.bool true)] (by kernel_rfl) (by kernel_rfl) ?_
        refine reg_end [(0, Value.pointer r), (10, Value.bool true)] (by kernel_rfl) (by kernel_rfl) ?_
        exact ⟨[(0, Value.pointer r), (10, Value.bool true)], Sub.mk (by kernel_rfl), true, rfl, h⟩
      · replace h := h.2 hb
        refine reg_run [] 4 [(0, [], Value.pointer r), (5, [], Value.bool false), (6, [], Value.pointer r)] (by kernel_rfl) (by kernel_rfl) ?_
        refine reg_run [] 4 [(0, [], Value.pointer r), (5, [], Value.bool false), (6, [], Value.pointer r)] (by kernel_rfl) (by kernel_rfl) ?_
        obtain ⟨hp_5, h⟩ := h
        refine reg_conv [(0, [], Value.pointer r), (5, [], Value.bool false), (6, [], Value.pointer (some ⟨(pblk r), (poff r), none⟩))] (congrArg (fun pp => ([(0, [], Value.pointer r), (5, [], Value.bool false), (6, [], Value.pointer pp)] : GEnv)) hp_5) ?_
        refine reg_run [.sure] 5 [(0, [], Value.pointer r), (5, [], Value.bool false), (6, [], Value.pointer (some ⟨(pblk r), (poff r), none⟩)), (7, [], Value.pointer (some ⟨(pblk r), (poff r), none⟩))] (by kernel_rfl) (by kernel_rfl) ?_
        refine reg_run [.sure] 6 [(0, [], Value.pointer r), (5, [], Value.bool false), (8, [], Value.pointer (some ⟨(pblk r), (poff r) + 2, none⟩))] (by kernel_rfl) (by kernel_rfl) ?_
        obtain ⟨v9, hc, h⟩ := h
        refine reg_load1 (t := 4) (a := (Go.Operand.tmp 8)) (b := (pblk r)) (o := ((poff r) + 2)) (ty := 4) (dst := some 9) (by kernel_rfl) (by kernel_rfl) (by kernel_rfl) hc ?_
        refine reg_run [.plain] 8 [(0, [], Value.pointer r), (10, [], Value.bool v9)] (by kernel_rfl) (by kernel_rfl) ?_
        refine reg_end [(0, Value.pointer r), (10, Value.bool v9)] (by kernel_rfl) (by kernel_rfl) ?_
        exact ⟨[(0, Value.pointer r), (10, Value.bool v9)], Sub.mk (by kernel_rfl), v9, rfl, h⟩
    · rintro _ w1 ⟨t10, rfl, h⟩
      unfold F_towpathref10_Ring_Room_k0 at h
      refine wpE_cond (o := (Operand.tmp 10)) (b := t10) (x := c_towpathref10_Ring_Room_8) (y := c_towpathref10_Ring_Room_12) (by kernel_rfl) (by kernel_rfl) (fun hb => ?_) (fun hb => ?_)
      · replace h := h.1 hb
        refine wpE_seq (x := c_towpathref10_Ring_Room_9) (y := c_towpathref10_Ring_Room_11) (by kernel_rfl) ?_
        refine wpE_region (id := 2) (ops := r_towpathref10_Ring_Room_9) (by kernel_rfl) ?_
        refine reg_run [.plain] 1 [(2, [], Value.int .i64 0)] (by kernel_rfl) (by kernel_rfl) ?_
        refine reg_end [(2, Value.int .i64 0)] (by kernel_rfl) (by kernel_rfl) ?_
        change WpE _ _ c_towpathref10_Ring_Room_11 _ _ _
        refine wpE_ret (by kernel_rfl) ?_
        repeat (first | refine seqQ_ret ?_ | refine blockQ_ret ?_ | refine loopQ_ret ?_ | refine cutQ_ret ?_)
        exact retS (rs := [(Go.ResultVar.tmp 2)]) (v := Value.int .i64 0) (by kernel_rfl) (⟨by kernel_rfl, trivial⟩) ⟨0, rfl, h⟩
      · replace h := h.2 hb
        refine wpE_skip (by kernel_rfl) ?_
        change WpE _ _ c_towpathref10_Ring_Room_13 _ _ _
        refine wpE_seq (x := c_towpathref10_Ring_Room_14) (y := c_towpathref10_Ring_Room_16) (by kernel_rfl) ?_
        refine wpE_drawregion (id := 3) (ops := r_towpathref10_Ring_Room_14) (by kernel_rfl) (by kernel_rfl) (by kernel_rfl) ?_
        refine qreg_run [.plain] 1 [(0, [], Value.pointer r), (11, [], Value.pointer r)] (by kernel_rfl) (by kernel_rfl) ?_
        obtain ⟨hp_3, h⟩ := h
        refine qreg_conv [(0, [], Value.pointer r), (11, [], Value.pointer (some ⟨(pblk r), (poff r), none⟩))] (congrArg (fun pp => ([(0, [], Value.pointer r), (11, [], Value.pointer pp)] : GEnv)) hp_3) ?_
        refine qreg_run [.plain] 2 [(0, [], Value.pointer r), (11, [], Value.pointer (some ⟨(pblk r), (poff r), none⟩)), (12, [], Value.pointer (some ⟨(pblk r), (poff r), none⟩))] (by kernel_rfl) (by kernel_rfl) ?_
        refine qreg_run [.plain] 3 [(0, [], Value.pointer r), (13, [], Value.pointer (some ⟨(pblk r), (poff r) + 1, none⟩))] (by kernel_rfl) (by kernel_rfl) ?_
        obtain ⟨v14, hc, h⟩ := h
        refine qreg_load1 (t := 3) (a := (Go.Operand.tmp 13)) (b := (pblk r)) (o := ((poff r) + 1)) (ty := 3) (dst := some 14) (by kernel_rfl) (by kernel_rfl) (by kernel_rfl) hc ?_
        refine qreg_run [.plain] 5 [(14, [], Value.int .i64 v14), (15, [], Value.pointer r)] (by kernel_rfl) (by kernel_rfl) ?_
        obtain ⟨hp_4, h⟩ := h
        refine qreg_conv [(14, [], Value.int .i64 v14), (15, [], Value.pointer (some ⟨(pblk r), (poff r), none⟩))] (congrArg (fun pp => ([(14, [], Value.int .i64 v14), (15, [], Value.pointer pp)] : GEnv)) hp_4) ?_
        refine qreg_run [.plain] 6 [(14, [], Value.int .i64 v14), (15, [], Value.pointer (some ⟨(pblk r), (poff r), none⟩)), (16, [], Value.pointer (some ⟨(pblk r), (poff r), none⟩))] (by kernel_rfl) (by kernel_rfl) ?_
        refine qreg_run [.plain] 7 [(14, [], Value.int .i64 v14), (17, [], Value.pointer (some ⟨(pblk r), (poff r), none⟩))] (by kernel_rfl) (by kernel_rfl) ?_
        obtain ⟨v18, hc, h⟩ := h
        refine qreg_load1 (t := 49) (a := (Go.Operand.tmp 17)) (b := (pblk r)) (o := (poff r)) (ty := 49) (dst := some 18) (by kernel_rfl) (by kernel_rfl) (by kernel_rfl) hc ?_
        refine qreg_run [.plain, .plain, .plain] 11 [(2, [], Value.int .i64 (IntKind.i64.wrap (v14 - ((v18.len : Nat) : Int))))] (by kernel_rfl) (by kernel_rfl) ?_
        refine qreg_end [(2, Value.int .i64 (IntKind.i64.wrap (v14 - ((v18.len : Nat) : Int))))] (by kernel_rfl) (by kernel_rfl) (fun w2 hw => ?_)
        replace h := h w2 hw
        clear hw
        change WpE _ _ c_towpathref10_Ring_Room_16 _ _ _
        refine wpE_ret (by kernel_rfl) ?_
        repeat (first | refine seqQ_ret ?_ | refine blockQ_ret ?_ | refine loopQ_ret ?_ | refine cutQ_ret ?_)
        exact retS (rs := [(Go.ResultVar.tmp 2)]) (v := Value.int .i64 (IntKind.i64.wrap (v14 - ((v18.len : Nat) : Int)))) (by kernel_rfl) (⟨by kernel_rfl, trivial⟩) ⟨(IntKind.i64.wrap (v14 - ((v18.len : Nat) : Int))), rfl, h⟩
  · rintro e w' ⟨v, rfl, r0, rfl, h⟩; exact ⟨r0, rfl, h⟩

/-! ### (*towpath/towpathref10.Ring).Over (function 58) -/
noncomputable def c_towpathref10_Ring_Over_0 : Code := (Try.f58.body).getD Code.skip
noncomputable def c_towpathref10_Ring_Over_1 : Code := Code.l c_towpathref10_Ring_Over_0
noncomputable def r_towpathref10_Ring_Over_1 : Array Oper := Code.ops c_towpathref10_Ring_Over_1
noncomputable def c_towpathref10_Ring_Over_3 : Code := Code.r c_towpathref10_Ring_Over_0
noncomputable def c_towpathref10_Ring_Over_4 : Code := Code.l c_towpathref10_Ring_Over_3
noncomputable def r_towpathref10_Ring_Over_4 : Array Oper := Code.ops c_towpathref10_Ring_Over_4
noncomputable def c_towpathref10_Ring_Over_6 : Code := Code.r c_towpathref10_Ring_Over_3

set_option maxRecDepth 100000 in
set_option maxHeartbeats 4000000 in
theorem S_towpathref10_Ring_Over {r : Option Addr} {w : World} {R : Bool → World → Prop} (h : F_towpathref10_Ring_Over r R w) : C_towpathref10_Ring_Over r w R := by
  unfold F_towpathref10_Ring_Over at h
  unfold C_towpathref10_Ring_Over
  refine Calls.mono (calls_of_wpE (args := [Value.pointer r]) (R := fun v w' => ∃ (r0 : Bool), v = Value.bool r0 ∧ R r0 w') Try.func58 (c := c_towpathref10_Ring_Over_0) (by kernel_rfl) 19 (by kernel_rfl) (by kernel_rfl) [(0, Value.pointer r)] (by kernel_rfl) ?_) ?_
  · refine wpE_seq (x := c_towpathref10_Ring_Over_1) (y := c_towpathref10_Ring_Over_3) (by kernel_rfl) ?_
    refine wpE_region (id := 0) (ops := r_towpathref10_Ring_Over_1) (by kernel_rfl) ?_
    refine reg_run [.plain] 1 [(0, [], Value.pointer r)] (by kernel_rfl) (by kernel_rfl) ?_
    refine reg_end [(0, Value.pointer r)] (by kernel_rfl) (by kernel_rfl) ?_
    change WpE _ _ c_towpathref10_Ring_Over_3 _ _ _
    refine wpE_seq (x := c_towpathref10_Ring_Over_4) (y := c_towpathref10_Ring_Over_6) (by kernel_rfl) ?_
    refine wpE_region (id := 1) (ops := r_towpathref10_Ring_Over_4) (by kernel_rfl) ?_
    refine reg_run [.plain] 1 [(0, [], Value.pointer r), (3, [], Value.pointer r)] (by kernel_rfl) (by kernel_rfl) ?_
    refine reg_val (op := (Go.Op.binOp Go.BinOp.neq 60 (Go.Operand.tmp 3) (Go.Operand.const (Go.Value.pointer none)) 60)) (ty := 4) (dst := some 4) (Value.bool (!r.isNone)) (by kernel_rfl) (fun ww => run_ptr_neq_R (p := r) (by kernel_rfl) (by kernel_rfl) (by kernel_rfl) ww) ?_
    refine reg_run [.plain, .plain] 4 [(0, [], Value.pointer r), (5, [], Value.bool (!r.isNone)), (6, [(5, true)], Value.pointer r)] (by kernel_rfl) (by kernel_rfl) ?_
    refine reg_split 5 (!r.isNone) (by kernel_rfl) (fun hb => ?_) (fun hb => ?_)
    · replace h := h.1 hb
      refine reg_run [] 4 [(0, [], Value.pointer r), (5, [], Value.bool true), (6, [], Value.pointer r)] (by kernel_rfl) (by kernel_rfl) ?_
      refine reg_run [] 4 [(0, [], Value.pointer r), (5, [], Value.bool true), (6, [], Value.pointer r)] (by kernel_rfl) (by kernel_rfl) ?_
      obtain ⟨hp_0, h⟩ := h
      refine reg_conv [(0, [], Value.pointer r), (5, [], Value.bool true), (6, [], Value.pointer (some ⟨(pblk r), (poff r), none⟩))] (congrArg (fun pp => ([(0, [], Value.pointer r), (5, [], Value.bool true), (6, [], Value.pointer pp)] : GEnv)) hp_0) ?_
      refine reg_run [.sure] 5 [(0, [], Value.pointer r), (5, [], Value.bool true), (6, [], Value.pointer (some ⟨(pblk r), (poff r), none⟩)), (7, [], Value.pointer (some ⟨(pblk r), (poff r), none⟩))] (by kernel_rfl) (by kernel_rfl) ?_
      refine reg_run [.sure] 6 [(0, [], Value.pointer r), (5, [], Value.bool true), (8, [], Value.pointer (some ⟨(pblk r), (poff r) + 2, none⟩))] (by kernel_rfl) (by kernel_rfl) ?_
      obtain ⟨v9, hc, h⟩ := h
      refine reg_load1 (t := 4) (a := (Go.Operand.tmp 8)) (b := (pblk r)) (o := ((poff r) + 2)) (ty := 4) (dst := some 9) (by kernel_rfl) (by kernel_rfl) (by kernel_rfl) hc ?_
      refine reg_run [.plain, .plain, .plain] 10 [(11, [], Value.bool v9), (12, [(11, true)], Value.pointer r)] (by kernel_rfl) (by kernel_rfl) ?_
      refine reg_split 11 v9 (by kernel_rfl) (fun hb => ?_) (fun hb => ?_)
      · replace h := h.1 hb
        refine reg_run [] 10 [(11, [], Value.bool true), (12, [], Value.pointer r)] (by kernel_rfl) (by kernel_rfl) ?_
        refine reg_run [] 10 [(11, [], Value.bool true), (12, [], Value.pointer r)] (by kernel_rfl) (by kernel_rfl) ?_
        obtain ⟨hp_1, h⟩ := h
        refine reg_conv [(11, [], Value.bool true), (12, [], Value.pointer (some ⟨(pblk r), (poff r), none⟩))] (congrArg (fun pp => ([(11, [], Value.bool true), (12, [], Value.pointer pp)] : GEnv)) hp_1) ?_
        refine reg_run [.sure] 11 [(11, [], Value.bool true), (12, [], Value.pointer (some ⟨(pblk r), (poff r), none⟩)), (13, [], Value.pointer (some ⟨(pblk r), (poff r), none⟩))] (by kernel_rfl) (by kernel_rfl) ?_
        refine reg_run [.sure] 12 [(11, [], Value.bool true), (14, [], Value.pointer (some ⟨(pblk r), (poff r), none⟩))] (by kernel_rfl) (by kernel_rfl) ?_
        obtain ⟨v15, hc, h⟩ := h
        refine reg_load1 (t := 49) (a := (Go.Operand.tmp 14)) (b := (pblk r)) (o := (poff r)) (ty := 49) (dst := some 15) (by kernel_rfl) (by kernel_rfl) (by kernel_rfl) hc ?_
        refine reg_run [.sure, .sure, .plain, .plain] 17 [(2, [], Value.bool (((v15.len : Nat) : Int) == 0))] (by kernel_rfl) (by kernel_rfl) ?_
        refine reg_end [(2, Value.bool (((v15.len : Nat) : Int) == 0))] (by kernel_rfl) (by kernel_rfl) ?_
        change WpE _ _ c_towpathref10_Ring_Over_6 _ _ _
        refine wpE_ret (by kernel_rfl) ?_
        repeat (first | refine seqQ_ret ?_ | refine blockQ_ret ?_ | refine loopQ_ret ?_ | refine cutQ_ret ?_)
        exact retS (rs := [(Go.ResultVar.tmp 2)]) (v := Value.bool (((v15.len : Nat) : Int) == 0)) (by kernel_rfl) (⟨by kernel_rfl, trivial⟩) ⟨(((v15.len : Nat) : Int) == 0), rfl, h⟩
      · replace h := h.2 hb
        refine reg_run [] 10 [(11, [], Value.bool false), (12, [], undef)] (by kernel_rfl) (by kernel_rfl) ?_
        refine reg_run [.skip, .skip, .skip, .skip, .skip, .plain, .plain] 17 [(2, [], Value.bool false)] (by kernel_rfl) (by kernel_rfl) ?_
        refine reg_end [(2, Value.bool false)] (by kernel_rfl) (by kernel_rfl) ?_
        change WpE _ _ c_towpathref10_Ring_Over_6 _ _ _
        refine wpE_ret (by kernel_rfl) ?_
        repeat (first | refine seqQ_ret ?_ | refine blockQ_ret ?_ | refine loopQ_ret ?_ | refine cutQ_ret ?_)
        exact retS (rs := [(Go.ResultVar.tmp 2)]) (v := Value.bool false) (by kernel_rfl) (⟨by kernel_rfl, trivial⟩) ⟨false, rfl, h⟩
    · replace h := h.2 hb
      refine reg_run [] 4 [(0, [], Value.pointer r), (5, [], Value.bool false), (6, [], undef)] (by kernel_rfl) (by kernel_rfl) ?_
      refine reg_run [.skip, .skip, .skip, .plain, .plain, .skip, .skip, .skip, .skip, .skip, .skip, .plain, .plain] 17 [(2, [], Value.bool false)] (by kernel_rfl) (by kernel_rfl) ?_
      refine reg_end [(2, Value.bool false)] (by kernel_rfl) (by kernel_rfl) ?_
      change WpE _ _ c_towpathref10_Ring_Over_6 _ _ _
      refine wpE_ret (by kernel_rfl) ?_
      repeat (first | refine seqQ_ret ?_ | refine blockQ_ret ?_ | refine loopQ_ret ?_ | refine cutQ_ret ?_)
      exact retS (rs := [(Go.ResultVar.tmp 2)]) (v := Value.bool false) (by kernel_rfl) (⟨by kernel_rfl, trivial⟩) ⟨false, rfl, h⟩
  · rintro e w' ⟨v, rfl, r0, rfl, h⟩; exact ⟨r0, rfl, h⟩
end Go.Proofs.Ytchcljkflklddaa
