/- WRITTEN BY PROGRAM (dec.py): for each Go function the clean formula F, the call's contract C, and the proof S that F gives C. -/
import Derived.Test.YtfmkemmgakdddaaRows
import Derived.Test.YtfmkemmgakdddaaGF
namespace Go.Proofs.Ytfmkemmgakdddaa
open Go
set_option linter.unusedVariables false

/-! ### towpath/codec.NewReader (function 38) -/
noncomputable def c_codec_NewReader_0 : Code := (Try.f38.body).getD Code.skip
noncomputable def c_codec_NewReader_1 : Code := Code.l c_codec_NewReader_0
noncomputable def r_codec_NewReader_1 : Array Oper := Code.ops c_codec_NewReader_1
noncomputable def c_codec_NewReader_3 : Code := Code.r c_codec_NewReader_0
noncomputable def c_codec_NewReader_4 : Code := Code.l c_codec_NewReader_3
noncomputable def r_codec_NewReader_4 : Array Oper := Code.ops c_codec_NewReader_4
noncomputable def c_codec_NewReader_6 : Code := Code.r c_codec_NewReader_3

set_option maxRecDepth 100000 in
set_option maxHeartbeats 4000000 in
theorem S_codec_NewReader {b_ : Slc} {w : World} {R : Option Addr → World → Prop} (h : F_codec_NewReader b_ R w) : C_codec_NewReader b_ w R := by
  unfold F_codec_NewReader at h
  unfold C_codec_NewReader
  refine Calls.mono (calls_of_wpE (args := [Value.slice b_.ptr b_.len b_.cap]) (R := fun v w' => ∃ (r0 : Option Addr), v = Value.pointer r0 ∧ R r0 w') Try.func38 (c := c_codec_NewReader_0) (by kernel_rfl) 7 (by kernel_rfl) (by kernel_rfl) [(0, Value.slice b_.ptr b_.len b_.cap)] (by kernel_rfl) ?_) ?_
  · refine wpE_seq (x := c_codec_NewReader_1) (y := c_codec_NewReader_3) (by kernel_rfl) ?_
    refine wpE_region (id := 0) (ops := r_codec_NewReader_1) (by kernel_rfl) ?_
    refine reg_run [.plain] 1 [(0, [], Value.slice b_.ptr b_.len b_.cap)] (by kernel_rfl) (by kernel_rfl) ?_
    refine reg_end [(0, Value.slice b_.ptr b_.len b_.cap)] (by kernel_rfl) (by kernel_rfl) ?_
    change WpE _ _ c_codec_NewReader_3 _ _ _
    refine wpE_seq (x := c_codec_NewReader_4) (y := c_codec_NewReader_6) (by kernel_rfl) ?_
    refine wpE_region (id := 1) (ops := r_codec_NewReader_4) (by kernel_rfl) ?_
    refine reg_run [.plain] 1 [(3, [], Value.slice b_.ptr b_.len b_.cap)] (by kernel_rfl) (by kernel_rfl) ?_
    refine reg_enter (op := (Go.Op.call (Go.Call.mk (Go.Callee.value (Go.Operand.func 72)) #[(Go.Operand.tmp 3)] #[22]))) (ty := 22) (dst := some 4) 72 #[Value.slice b_.ptr b_.len b_.cap] (by kernel_rfl) (fun ww => by kernel_rfl) (Calls.mono h ?_)
    rintro _ w1 ⟨v4, rfl, h⟩
    refine ⟨_, rfl, ?_⟩
    refine reg_run [.plain] 3 [(5, [], Value.agg #[Value.bool true, Value.slice v4.ptr v4.len v4.cap, Value.int .i64 0])] (by kernel_rfl) (by kernel_rfl) ?_
    refine reg_new (op := (Go.Op.box 123 (Go.Operand.tmp 5))) (ty := 81) (dst := some 6) (fun bb => Value.pointer (some ⟨bb, 0, none⟩)) (Obj.cells ([Value.bool true, Value.slice v4.ptr v4.len v4.cap, Value.int .i64 0]).toArray ty_codec_Reader (0, 0)) (by kernel_rfl) (by kernel_rfl) (fun b_1 w2 hb hw => ?_)
    replace h := h b_1 w2 hb hw
    clear hb hw
    refine reg_run [.plain] 5 [(2, [], Value.pointer (some ⟨b_1, 0, none⟩))] (by kernel_rfl) (by kernel_rfl) ?_
    refine reg_end [(2, Value.pointer (some ⟨b_1, 0, none⟩))] (by kernel_rfl) (by kernel_rfl) ?_
    change WpE _ _ c_codec_NewReader_6 _ _ _
    refine wpE_ret (by kernel_rfl) ?_
    repeat (first | refine seqQ_ret ?_ | refine blockQ_ret ?_ | refine loopQ_ret ?_ | refine cutQ_ret ?_)
    exact retS (rs := [(Go.ResultVar.tmp 2)]) (v := Value.pointer (some ⟨b_1, 0, none⟩)) (by kernel_rfl) (⟨by kernel_rfl, trivial⟩) ⟨(some ⟨b_1, 0, none⟩), rfl, h⟩
  · rintro e w' ⟨v, rfl, r0, rfl, h⟩; exact ⟨r0, rfl, h⟩

/-! ### (*towpath/codec.Reader).Left (function 40) -/
noncomputable def c_codec_Reader_Left_0 : Code := (Try.f40.body).getD Code.skip
noncomputable def c_codec_Reader_Left_1 : Code := Code.l c_codec_Reader_Left_0
noncomputable def r_codec_Reader_Left_1 : Array Oper := Code.ops c_codec_Reader_Left_1
noncomputable def c_codec_Reader_Left_3 : Code := Code.r c_codec_Reader_Left_0
noncomputable def c_codec_Reader_Left_4 : Code := Code.l c_codec_Reader_Left_3
noncomputable def c_codec_Reader_Left_5 : Code := Code.l c_codec_Reader_Left_4
noncomputable def r_codec_Reader_Left_5 : Array Oper := Code.ops c_codec_Reader_Left_5
noncomputable def c_codec_Reader_Left_7 : Code := Code.r c_codec_Reader_Left_4
noncomputable def c_codec_Reader_Left_8 : Code := Code.l c_codec_Reader_Left_7
noncomputable def c_codec_Reader_Left_9 : Code := Code.l c_codec_Reader_Left_8
noncomputable def r_codec_Reader_Left_9 : Array Oper := Code.ops c_codec_Reader_Left_9
noncomputable def c_codec_Reader_Left_11 : Code := Code.r c_codec_Reader_Left_8
noncomputable def c_codec_Reader_Left_12 : Code := Code.r c_codec_Reader_Left_7
noncomputable def c_codec_Reader_Left_13 : Code := Code.r c_codec_Reader_Left_3
noncomputable def c_codec_Reader_Left_14 : Code := Code.l c_codec_Reader_Left_13
noncomputable def r_codec_Reader_Left_14 : Array Oper := Code.ops c_codec_Reader_Left_14
noncomputable def c_codec_Reader_Left_16 : Code := Code.r c_codec_Reader_Left_13

set_option maxRecDepth 100000 in
set_option maxHeartbeats 4000000 in
theorem S_codec_Reader_Left {r : Option Addr} {w : World} {R : Int → World → Prop} (h : F_codec_Reader_Left r R w) : C_codec_Reader_Left r w R := by
  unfold F_codec_Reader_Left at h
  unfold C_codec_Reader_Left
  refine Calls.mono (calls_of_wpE (args := [Value.pointer r]) (R := fun v w' => ∃ (r0 : Int), v = Value.int .i64 r0 ∧ R r0 w') Try.func40 (c := c_codec_Reader_Left_0) (by kernel_rfl) 10 (by kernel_rfl) (by kernel_rfl) [(0, Value.pointer r)] (by kernel_rfl) ?_) ?_
  · refine wpE_seq (x := c_codec_Reader_Left_1) (y := c_codec_Reader_Left_3) (by kernel_rfl) ?_
    refine wpE_region (id := 0) (ops := r_codec_Reader_Left_1) (by kernel_rfl) ?_
    refine reg_run [.plain] 1 [(0, [], Value.pointer r)] (by kernel_rfl) (by kernel_rfl) ?_
    refine reg_end [(0, Value.pointer r)] (by kernel_rfl) (by kernel_rfl) ?_
    change WpE _ _ c_codec_Reader_Left_3 _ _ _
    refine wpE_seq (x := c_codec_Reader_Left_4) (y := c_codec_Reader_Left_13) (by kernel_rfl) ?_
    refine wpE_seq (x := c_codec_Reader_Left_5) (y := c_codec_Reader_Left_7) (by kernel_rfl) ?_
    refine wpE_region (id := 1) (ops := r_codec_Reader_Left_5) (by kernel_rfl) ?_
    refine reg_run [.plain] 1 [(0, [], Value.pointer r), (3, [], Value.pointer r)] (by kernel_rfl) (by kernel_rfl) ?_
    refine reg_val (op := (Go.Op.binOp Go.BinOp.eql 81 (Go.Operand.tmp 3) (Go.Operand.const (Go.Value.pointer none)) 81)) (ty := 4) (dst := some 4) (Value.bool r.isNone) (by kernel_rfl) (fun ww => run_ptr_eql_R (p := r) (by kernel_rfl) (by kernel_rfl) (by kernel_rfl) ww) ?_
    refine reg_end [(0, Value.pointer r), (4, Value.bool r.isNone)] (by kernel_rfl) (by kernel_rfl) ?_
    change WpE _ _ c_codec_Reader_Left_7 _ _ _
    refine wpE_cond (o := (Operand.tmp 4)) (b := r.isNone) (x := c_codec_Reader_Left_8) (y := c_codec_Reader_Left_12) (by kernel_rfl) (by kernel_rfl) (fun hb => ?_) (fun hb => ?_)
    · replace h := h.1 hb
      refine wpE_seq (x := c_codec_Reader_Left_9) (y := c_codec_Reader_Left_11) (by kernel_rfl) ?_
      refine wpE_region (id := 2) (ops := r_codec_Reader_Left_9) (by kernel_rfl) ?_
      refine reg_run [.plain] 1 [(2, [], Value.int .i64 0)] (by kernel_rfl) (by kernel_rfl) ?_
      refine reg_end [(2, Value.int .i64 0)] (by kernel_rfl) (by kernel_rfl) ?_
      change WpE _ _ c_codec_Reader_Left_11 _ _ _
      refine wpE_ret (by kernel_rfl) ?_
      repeat (first | refine seqQ_ret ?_ | refine blockQ_ret ?_ | refine loopQ_ret ?_ | refine cutQ_ret ?_)
      exact retS (rs := [(Go.ResultVar.tmp 2)]) (v := Value.int .i64 0) (by kernel_rfl) (⟨by kernel_rfl, trivial⟩) ⟨0, rfl, h⟩
    · replace h := h.2 hb
      refine wpE_skip (by kernel_rfl) ?_
      change WpE _ _ c_codec_Reader_Left_13 _ _ _
      refine wpE_seq (x := c_codec_Reader_Left_14) (y := c_codec_Reader_Left_16) (by kernel_rfl) ?_
      refine wpE_region (id := 3) (ops := r_codec_Reader_Left_14) (by kernel_rfl) ?_
      refine reg_run [.plain] 1 [(5, [], Value.pointer r)] (by kernel_rfl) (by kernel_rfl) ?_
      obtain ⟨hp_0, h⟩ := h
      refine reg_conv [(5, [], Value.pointer (some ⟨(pblk r), (poff r), none⟩))] (congrArg (fun pp => ([(5, [], Value.pointer pp)] : GEnv)) hp_0) ?_
      refine reg_run [.plain] 2 [(5, [], Value.pointer (some ⟨(pblk r), (poff r), none⟩)), (6, [], Value.pointer (some ⟨(pblk r), (poff r), none⟩))] (by kernel_rfl) (by kernel_rfl) ?_
      refine reg_run [.plain] 3 [(7, [], Value.pointer (some ⟨(pblk r), (poff r) + 1, none⟩))] (by kernel_rfl) (by kernel_rfl) ?_
      obtain ⟨v8, hc, h⟩ := h
      refine reg_load1 (t := 22) (a := (Go.Operand.tmp 7)) (b := (pblk r)) (o := ((poff r) + 1)) (ty := 22) (dst := some 8) (by kernel_rfl) (by kernel_rfl) (by kernel_rfl) hc ?_
      refine reg_run [.plain, .plain] 6 [(2, [], Value.int .i64 ((v8.len : Nat) : Int))] (by kernel_rfl) (by kernel_rfl) ?_
      refine reg_end [(2, Value.int .i64 ((v8.len : Nat) : Int))] (by kernel_rfl) (by kernel_rfl) ?_
      change WpE _ _ c_codec_Reader_Left_16 _ _ _
      refine wpE_ret (by kernel_rfl) ?_
      repeat (first | refine seqQ_ret ?_ | refine blockQ_ret ?_ | refine loopQ_ret ?_ | refine cutQ_ret ?_)
      exact retS (rs := [(Go.ResultVar.tmp 2)]) (v := Value.int .i64 ((v8.len : Nat) : Int)) (by kernel_rfl) (⟨by kernel_rfl, trivial⟩) ⟨((v8.len : Nat) : Int), rfl, h⟩
  · rintro e w' ⟨v, rfl, r0, rfl, h⟩; exact ⟨r0, rfl, h⟩

/-! ### (*towpath/codec.Reader).End (function 41) -/
noncomputable def c_codec_Reader_End_0 : Code := (Try.f41.body).getD Code.skip
noncomputable def c_codec_Reader_End_1 : Code := Code.l c_codec_Reader_End_0
noncomputable def r_codec_Reader_End_1 : Array Oper := Code.ops c_codec_Reader_End_1
noncomputable def c_codec_Reader_End_3 : Code := Code.r c_codec_Reader_End_0
noncomputable def c_codec_Reader_End_4 : Code := Code.l c_codec_Reader_End_3
noncomputable def c_codec_Reader_End_5 : Code := Code.l c_codec_Reader_End_4
noncomputable def c_codec_Reader_End_6 : Code := Code.l c_codec_Reader_End_5
noncomputable def r_codec_Reader_End_6 : Array Oper := Code.ops c_codec_Reader_End_6
noncomputable def c_codec_Reader_End_8 : Code := Code.r c_codec_Reader_End_5
noncomputable def c_codec_Reader_End_9 : Code := Code.l c_codec_Reader_End_8
noncomputable def c_codec_Reader_End_10 : Code := Code.l c_codec_Reader_End_9
noncomputable def r_codec_Reader_End_10 : Array Oper := Code.ops c_codec_Reader_End_10
noncomputable def c_codec_Reader_End_12 : Code := Code.r c_codec_Reader_End_9
noncomputable def c_codec_Reader_End_13 : Code := Code.r c_codec_Reader_End_8
noncomputable def c_codec_Reader_End_14 : Code := Code.l c_codec_Reader_End_13
noncomputable def r_codec_Reader_End_14 : Array Oper := Code.ops c_codec_Reader_End_14
noncomputable def c_codec_Reader_End_16 : Code := Code.r c_codec_Reader_End_13
noncomputable def c_codec_Reader_End_17 : Code := Code.l c_codec_Reader_End_16
noncomputable def c_codec_Reader_End_18 : Code := Code.l c_codec_Reader_End_17
noncomputable def r_codec_Reader_End_18 : Array Oper := Code.ops c_codec_Reader_End_18
noncomputable def c_codec_Reader_End_20 : Code := Code.r c_codec_Reader_End_17
noncomputable def c_codec_Reader_End_21 : Code := Code.r c_codec_Reader_End_16
noncomputable def c_codec_Reader_End_22 : Code := Code.r c_codec_Reader_End_3
noncomputable def c_codec_Reader_End_23 : Code := Code.l c_codec_Reader_End_22
noncomputable def r_codec_Reader_End_23 : Array Oper := Code.ops c_codec_Reader_End_23
noncomputable def c_codec_Reader_End_25 : Code := Code.r c_codec_Reader_End_22

set_option maxRecDepth 100000 in
set_option maxHeartbeats 4000000 in
theorem S_codec_Reader_End {r : Option Addr} {w : World} {R : Int → World → Prop} (h : F_codec_Reader_End r R w) : C_codec_Reader_End r w R := by
  unfold F_codec_Reader_End at h
  unfold C_codec_Reader_End
  refine Calls.mono (calls_of_wpE (args := [Value.pointer r]) (R := fun v w' => ∃ (r0 : Int), v = Value.int .i64 r0 ∧ R r0 w') Try.func41 (c := c_codec_Reader_End_0) (by kernel_rfl) 31 (by kernel_rfl) (by kernel_rfl) [(0, Value.pointer r)] (by kernel_rfl) ?_) ?_
  · refine wpE_seq (x := c_codec_Reader_End_1) (y := c_codec_Reader_End_3) (by kernel_rfl) ?_
    refine wpE_region (id := 0) (ops := r_codec_Reader_End_1) (by kernel_rfl) ?_
    refine reg_run [.plain] 1 [(0, [], Value.pointer r)] (by kernel_rfl) (by kernel_rfl) ?_
    refine reg_end [(0, Value.pointer r)] (by kernel_rfl) (by kernel_rfl) ?_
    change WpE _ _ c_codec_Reader_End_3 _ _ _
    refine wpE_seq (x := c_codec_Reader_End_4) (y := c_codec_Reader_End_22) (by kernel_rfl) ?_
    refine wpE_block (id := 0) (x := c_codec_Reader_End_5) (by kernel_rfl) ?_
    refine wpE_seq_cut (x := c_codec_Reader_End_6) (y := c_codec_Reader_End_8) (by kernel_rfl) (fun l w => ∃ (t3 : Bool), l = [(0, Value.pointer r), (3, Value.bool t3)] ∧ F_codec_Reader_End_k0 r R t3 w) ?_ ?_
    · refine wpE_region (id := 1) (ops := r_codec_Reader_End_6) (by kernel_rfl) ?_
      refine reg_run [.plain] 1 [(0, [], Value.pointer r), (4, [], Value.pointer r)] (by kernel_rfl) (by kernel_rfl) ?_
      refine reg_val (op := (Go.Op.binOp Go.BinOp.eql 81 (Go.Operand.tmp 4) (Go.Operand.const (Go.Value.pointer none)) 81)) (ty := 4) (dst := some 5) (Value.bool r.isNone) (by kernel_rfl) (fun ww => run_ptr_eql_R (p := r) (by kernel_rfl) (by kernel_rfl) (by kernel_rfl) ww) ?_
      refine reg_run [.plain, .plain] 4 [(0, [], Value.pointer r), (6, [], Value.bool r.isNone), (7, [(6, false)], Value.pointer r)] (by kernel_rfl) (by kernel_rfl) ?_
      refine reg_split 6 r.isNone (by kernel_rfl) (fun hb => ?_) (fun hb => ?_)
      · replace h := h.1 hb
        refine reg_run [] 4 [(0, [], Value.pointer r), (6, [], Value.bool true), (7, [], undef)] (by kernel_rfl) (by kernel_rfl) ?_
        refine reg_run [.skip, .skip, .skip, .skip, .plain, .plain] 10 [(0, [], Value.pointer r), (3, [], Value.bool true)] (by kernel_rfl) (by kernel_rfl) ?_
        refine reg_end [(0, Value.pointer r), (3, Value.bool true)] (by kernel_rfl) (by kernel_rfl) ?_
        exact ⟨[(0, Value.pointer r), (3, Value.bool true)], Sub.mk (by kernel_rfl), true, rfl, h⟩
      · replace h := h.2 hb
        refine reg_run [] 4 [(0, [], Value.pointer r), (6, [], Value.bool false), (7, [], Value.pointer r)] (by kernel_rfl) (by kernel_rfl) ?_
        refine reg_run [] 4 [(0, [], Value.pointer r), (6, [], Value.bool false), (7, [], Value.pointer r)] (by kernel_rfl) (by kernel_rfl) ?_
        obtain ⟨hp_12, h⟩ := h
        refine reg_conv [(0, [], Value.pointer r), (6, [], Value.bool false), (7, [], Value.pointer (some ⟨(pblk r), (poff r), none⟩))] (congrArg (fun pp => ([(0, [], Value.pointer r), (6, [], Value.bool false), (7, [], Value.pointer pp)] : GEnv)) hp_12) ?_
        refine reg_run [.sure] 5 [(0, [], Value.pointer r), (6, [], Value.bool false), (7, [], Value.pointer (some ⟨(pblk r), (poff r), none⟩)), (8, [], Value.pointer (some ⟨(pblk r), (poff r), none⟩))] (by kernel_rfl) (by kernel_rfl) ?_
        refine reg_run [.sure] 6 [(0, [], Value.pointer r), (6, [], Value.bool false), (9, [], Value.pointer (some ⟨(pblk r), (poff r), none⟩))] (by kernel_rfl) (by kernel_rfl) ?_
        obtain ⟨v10, hc, h⟩ := h
        refine reg_load1 (t := 4) (a := (Go.Operand.tmp 9)) (b := (pblk r)) (o := (poff r)) (ty := 4) (dst := some 10) (by kernel_rfl) (by kernel_rfl) (by kernel_rfl) hc ?_
        refine reg_run [.sure, .plain, .plain] 10 [(0, [], Value.pointer r), (3, [], Value.bool (!v10))] (by kernel_rfl) (by kernel_rfl) ?_
        refine reg_end [(0, Value.pointer r), (3, Value.bool (!v10))] (by kernel_rfl) (by kernel_rfl) ?_
        exact ⟨[(0, Value.pointer r), (3, Value.bool (!v10))], Sub.mk (by kernel_rfl), (!v10), rfl, h⟩
    · rintro _ w1 ⟨t3, rfl, h⟩
      unfold F_codec_Reader_End_k0 at h
      refine wpE_cond (o := (Operand.tmp 3)) (b := t3) (x := c_codec_Reader_End_9) (y := c_codec_Reader_End_13) (by kernel_rfl) (by kernel_rfl) (fun hb => ?_) (fun hb => ?_)
      · replace h := h.1 hb
        refine wpE_seq (x := c_codec_Reader_End_10) (y := c_codec_Reader_End_12) (by kernel_rfl) ?_
        refine wpE_region (id := 2) (ops := r_codec_Reader_End_10) (by kernel_rfl) ?_
        refine reg_run [.plain] 1 [(2, [], Value.int .i64 2)] (by kernel_rfl) (by kernel_rfl) ?_
        refine reg_end [(2, Value.int .i64 2)] (by kernel_rfl) (by kernel_rfl) ?_
        change WpE _ _ c_codec_Reader_End_12 _ _ _
        refine wpE_ret (by kernel_rfl) ?_
        repeat (first | refine seqQ_ret ?_ | refine blockQ_ret ?_ | refine loopQ_ret ?_ | refine cutQ_ret ?_)
        exact retS (rs := [(Go.ResultVar.tmp 2)]) (v := Value.int .i64 2) (by kernel_rfl) (⟨by kernel_rfl, trivial⟩) ⟨2, rfl, h⟩
      · replace h := h.2 hb
        refine wpE_seq_cut (x := c_codec_Reader_End_14) (y := c_codec_Reader_End_16) (by kernel_rfl) (fun l w => ∃ (t13 : Bool), l = [(0, Value.pointer r), (13, Value.bool t13)] ∧ F_codec_Reader_End_k1 r R t13 w) ?_ ?_
        · refine wpE_region (id := 3) (ops := r_codec_Reader_End_14) (by kernel_rfl) ?_
          refine reg_run [.plain] 1 [(0, [], Value.pointer r), (14, [], Value.pointer r)] (by kernel_rfl) (by kernel_rfl) ?_
          obtain ⟨hp_10, h⟩ := h
          refine reg_conv [(0, [], Value.pointer r), (14, [], Value.pointer (some ⟨(pblk r), (poff r), none⟩))] (congrArg (fun pp => ([(0, [], Value.pointer r), (14, [], Value.pointer pp)] : GEnv)) hp_10) ?_
          refine reg_run [.plain] 2 [(0, [], Value.pointer r), (14, [], Value.pointer (some ⟨(pblk r), (poff r), none⟩)), (15, [], Value.pointer (some ⟨(pblk r), (poff r), none⟩))] (by kernel_rfl) (by kernel_rfl) ?_
          refine reg_run [.plain] 3 [(0, [], Value.pointer r), (16, [], Value.pointer (some ⟨(pblk r), (poff r) + 2, none⟩))] (by kernel_rfl) (by kernel_rfl) ?_
          obtain ⟨v17, hc, h⟩ := h
          refine reg_load1 (t := 28) (a := (Go.Operand.tmp 16)) (b := (pblk r)) (o := ((poff r) + 2)) (ty := 28) (dst := some 17) (by kernel_rfl) (by kernel_rfl) (by kernel_rfl) hc ?_
          refine reg_run [.plain, .plain, .plain] 7 [(0, [], Value.pointer r), (19, [], Value.bool (v17 == 0)), (20, [(19, true)], Value.pointer r)] (by kernel_rfl) (by kernel_rfl) ?_
          refine reg_split 19 (v17 == 0) (by kernel_rfl) (fun hb => ?_) (fun hb => ?_)
          · replace h := h.1 hb
            refine reg_run [] 7 [(0, [], Value.pointer r), (19, [], Value.bool true), (20, [], Value.pointer r)] (by kernel_rfl) (by kernel_rfl) ?_
            refine reg_run [] 7 [(0, [], Value.pointer r), (19, [], Value.bool true), (20, [], Value.pointer r)] (by kernel_rfl) (by kernel_rfl) ?_
            obtain ⟨hp_11, h⟩ := h
            refine reg_conv [(0, [], Value.pointer r), (19, [], Value.bool true), (20, [], Value.pointer (some ⟨(pblk r), (poff r), none⟩))] (congrArg (fun pp => ([(0, [], Value.pointer r), (19, [], Value.bool true), (20, [], Value.pointer pp)] : GEnv)) hp_11) ?_
            refine reg_run [.sure] 8 [(0, [], Value.pointer r), (19, [], Value.bool true), (20, [], Value.pointer (some ⟨(pblk r), (poff r), none⟩)), (21, [], Value.pointer (some ⟨(pblk r), (poff r), none⟩))] (by kernel_rfl) (by kernel_rfl) ?_
            refine reg_run [.sure] 9 [(0, [], Value.pointer r), (19, [], Value.bool true), (22, [], Value.pointer (some ⟨(pblk r), (poff r) + 1, none⟩))] (by kernel_rfl) (by kernel_rfl) ?_
            obtain ⟨v23, hc, h⟩ := h
            refine reg_load1 (t := 22) (a := (Go.Operand.tmp 22)) (b := (pblk r)) (o := ((poff r) + 1)) (ty := 22) (dst := some 23) (by kernel_rfl) (by kernel_rfl) (by kernel_rfl) hc ?_
            refine reg_run [.sure, .sure, .plain, .plain] 14 [(0, [], Value.pointer r), (13, [], Value.bool (decide (((v23.len : Nat) : Int) > 0)))] (by kernel_rfl) (by kernel_rfl) ?_
            refine reg_end [(0, Value.pointer r), (13, Value.bool (decide (((v23.len : Nat) : Int) > 0)))] (by kernel_rfl) (by kernel_rfl) ?_
            exact ⟨[(0, Value.pointer r), (13, Value.bool (decide (((v23.len : Nat) : Int) > 0)))], Sub.mk (by kernel_rfl), (decide (((v23.len : Nat) : Int) > 0)), rfl, h⟩
          · replace h := h.2 hb
            refine reg_run [] 7 [(0, [], Value.pointer r), (19, [], Value.bool false), (20, [], undef)] (by kernel_rfl) (by kernel_rfl) ?_
            refine reg_run [.skip, .skip, .skip, .skip, .skip, .plain, .plain] 14 [(0, [], Value.pointer r), (13, [], Value.bool false)] (by kernel_rfl) (by kernel_rfl) ?_
            refine reg_end [(0, Value.pointer r), (13, Value.bool false)] (by kernel_rfl) (by kernel_rfl) ?_
            exact ⟨[(0, Value.pointer r), (13, Value.bool false)], Sub.mk (by kernel_rfl), false, rfl, h⟩
        · rintro _ w2 ⟨t13, rfl, h⟩
          unfold F_codec_Reader_End_k1 at h
          refine wpE_cond (o := (Operand.tmp 13)) (b := t13) (x := c_codec_Reader_End_17) (y := c_codec_Reader_End_21) (by kernel_rfl) (by kernel_rfl) (fun hb => ?_) (fun hb => ?_)
          · replace h := h.1 hb
            refine wpE_seq (x := c_codec_Reader_End_18) (y := c_codec_Reader_End_20) (by kernel_rfl) ?_
            refine wpE_region (id := 4) (ops := r_codec_Reader_End_18) (by kernel_rfl) ?_
            refine reg_run [.plain] 1 [(2, [], Value.int .i64 4)] (by kernel_rfl) (by kernel_rfl) ?_
            refine reg_end [(2, Value.int .i64 4)] (by kernel_rfl) (by kernel_rfl) ?_
            change WpE _ _ c_codec_Reader_End_20 _ _ _
            refine wpE_ret (by kernel_rfl) ?_
            repeat (first | refine seqQ_ret ?_ | refine blockQ_ret ?_ | refine loopQ_ret ?_ | refine cutQ_ret ?_)
            exact retS (rs := [(Go.ResultVar.tmp 2)]) (v := Value.int .i64 4) (by kernel_rfl) (⟨by kernel_rfl, trivial⟩) ⟨4, rfl, h⟩
          · replace h := h.2 hb
            refine wpE_skip (by kernel_rfl) ?_
            change WpE _ _ c_codec_Reader_End_22 _ _ _
            refine wpE_seq (x := c_codec_Reader_End_23) (y := c_codec_Reader_End_25) (by kernel_rfl) ?_
            refine wpE_region (id := 5) (ops := r_codec_Reader_End_23) (by kernel_rfl) ?_
            refine reg_run [.plain] 1 [(27, [], Value.pointer r)] (by kernel_rfl) (by kernel_rfl) ?_
            obtain ⟨hp_9, h⟩ := h
            refine reg_conv [(27, [], Value.pointer (some ⟨(pblk r), (poff r), none⟩))] (congrArg (fun pp => ([(27, [], Value.pointer pp)] : GEnv)) hp_9) ?_
            refine reg_run [.plain] 2 [(27, [], Value.pointer (some ⟨(pblk r), (poff r), none⟩)), (28, [], Value.pointer (some ⟨(pblk r), (poff r), none⟩))] (by kernel_rfl) (by kernel_rfl) ?_
            refine reg_run [.plain] 3 [(29, [], Value.pointer (some ⟨(pblk r), (poff r) + 2, none⟩))] (by kernel_rfl) (by kernel_rfl) ?_
            obtain ⟨v30, hc, h⟩ := h
            refine reg_load1 (t := 28) (a := (Go.Operand.tmp 29)) (b := (pblk r)) (o := ((poff r) + 2)) (ty := 28) (dst := some 30) (by kernel_rfl) (by kernel_rfl) (by kernel_rfl) hc ?_
            refine reg_run [.plain] 5 [(2, [], Value.int .i64 v30)] (by kernel_rfl) (by kernel_rfl) ?_
            refine reg_end [(2, Value.int .i64 v30)] (by kernel_rfl) (by kernel_rfl) ?_
            change WpE _ _ c_codec_Reader_End_25 _ _ _
            refine wpE_ret (by kernel_rfl) ?_
            repeat (first | refine seqQ_ret ?_ | refine blockQ_ret ?_ | refine loopQ_ret ?_ | refine cutQ_ret ?_)
            exact retS (rs := [(Go.ResultVar.tmp 2)]) (v := Value.int .i64 v30) (by kernel_rfl) (⟨by kernel_rfl, trivial⟩) ⟨v30, rfl, h⟩
  · rintro e w' ⟨v, rfl, r0, rfl, h⟩; exact ⟨r0, rfl, h⟩

/-! ### (*towpath/codec.Reader).Var (function 42) -/
noncomputable def c_codec_Reader_Var_0 : Code := (Try.f42.body).getD Code.skip
noncomputable def c_codec_Reader_Var_1 : Code := Code.l c_codec_Reader_Var_0
noncomputable def r_codec_Reader_Var_1 : Array Oper := Code.ops c_codec_Reader_Var_1
noncomputable def c_codec_Reader_Var_3 : Code := Code.r c_codec_Reader_Var_0
noncomputable def c_codec_Reader_Var_4 : Code := Code.l c_codec_Reader_Var_3
noncomputable def r_codec_Reader_Var_4 : Array Oper := Code.ops c_codec_Reader_Var_4
noncomputable def c_codec_Reader_Var_6 : Code := Code.r c_codec_Reader_Var_3
noncomputable def c_codec_Reader_Var_7 : Code := Code.l c_codec_Reader_Var_6
noncomputable def r_codec_Reader_Var_7 : Array Oper := Code.ops c_codec_Reader_Var_7
noncomputable def c_codec_Reader_Var_9 : Code := Code.r c_codec_Reader_Var_6

set_option maxRecDepth 100000 in
set_option maxHeartbeats 4000000 in
theorem S_codec_Reader_Var {r : Option Addr} {w : World} {R : Int → World → Prop} (h : F_codec_Reader_Var r R w) : C_codec_Reader_Var r w R := by
  unfold F_codec_Reader_Var at h
  unfold C_codec_Reader_Var
  refine Calls.mono (calls_of_wpE (args := [Value.pointer r]) (R := fun v w' => ∃ (r0 : Int), v = Value.int .u64 r0 ∧ R r0 w') Try.func42 (c := c_codec_Reader_Var_0) (by kernel_rfl) 7 (by kernel_rfl) (by kernel_rfl) [(0, Value.pointer r)] (by kernel_rfl) ?_) ?_
  · refine wpE_seq (x := c_codec_Reader_Var_1) (y := c_codec_Reader_Var_3) (by kernel_rfl) ?_
    refine wpE_region (id := 0) (ops := r_codec_Reader_Var_1) (by kernel_rfl) ?_
    refine reg_run [] 0 [(0, [], Value.pointer r)] (by kernel_rfl) (by kernel_rfl) ?_
    refine reg_new (op := (Go.Op.alloc 84)) (ty := 0) (dst := some 2) (fun bb => Value.pointer (some ⟨bb, 0, none⟩)) (Obj.cells ([Value.int .u64 0]).toArray ty_uint64 (0, 0)) (by kernel_rfl) (by kernel_rfl) (fun b_ w1 hb hw => ?_)
    replace h := h b_ w1 hb hw
    clear hb hw
    refine reg_end [(0, Value.pointer r), (2, Value.pointer (some ⟨b_, 0, none⟩))] (by kernel_rfl) (by kernel_rfl) ?_
    change WpE _ _ c_codec_Reader_Var_3 _ _ _
    refine wpE_seq (x := c_codec_Reader_Var_4) (y := c_codec_Reader_Var_6) (by kernel_rfl) ?_
    refine wpE_region (id := 1) (ops := r_codec_Reader_Var_4) (by kernel_rfl) ?_
    refine reg_run [.plain, .plain] 2 [(2, [], Value.pointer (some ⟨b_, 0, none⟩)), (3, [], Value.pointer r), (4, [], Value.func (.func 74) #[] #[Value.pointer (some ⟨b_, 0, none⟩)])] (by kernel_rfl) (by kernel_rfl) ?_
    refine reg_enter (op := (Go.Op.call (Go.Call.mk (Go.Callee.value (Go.Operand.func 73)) #[(Go.Operand.tmp 3), (Go.Operand.tmp 4)] #[81, 127]))) (ty := 4) (dst := some 5) 73 #[Value.pointer r, Value.func (.func 74) #[] #[Value.pointer (some ⟨b_, 0, none⟩)]] (by kernel_rfl) (fun ww => by kernel_rfl) (Calls.mono h ?_)
    rintro _ w2 ⟨v5, rfl, h⟩
    refine ⟨_, rfl, ?_⟩
    refine reg_end [(2, Value.pointer (some ⟨b_, 0, none⟩))] (by kernel_rfl) (by kernel_rfl) ?_
    change WpE _ _ c_codec_Reader_Var_6 _ _ _
    refine wpE_seq (x := c_codec_Reader_Var_7) (y := c_codec_Reader_Var_9) (by kernel_rfl) ?_
    refine wpE_region (id := 2) (ops := r_codec_Reader_Var_7) (by kernel_rfl) ?_
    refine reg_run [] 0 [(2, [], Value.pointer (some ⟨b_, 0, none⟩))] (by kernel_rfl) (by kernel_rfl) ?_
    obtain ⟨v6, hc, h⟩ := h
    refine reg_load1 (t := 84) (a := (Go.Operand.tmp 2)) (b := b_) (o := 0) (ty := 84) (dst := some 6) (by kernel_rfl) (by kernel_rfl) (by kernel_rfl) hc ?_
    refine reg_run [] 1 [(2, [], Value.pointer (some ⟨b_, 0, none⟩)), (6, [], Value.int .u64 v6)] (by kernel_rfl) (by kernel_rfl) ?_
    obtain ⟨hc, h⟩ := h
    refine reg_store (t := 84) (a := (Go.Operand.tmp 2)) (x := (Go.Operand.tmp 6)) (b := b_) (o := 0) (ty := 0) (dst := none) [Value.int .u64 v6] (by kernel_rfl) (by kernel_rfl) (by kernel_rfl) (k := 1) (by kernel_rfl) (by kernel_rfl) (by kernel_rfl) hc (fun w3 hw => ?_)
    replace h := h w3 hw
    clear hw
    refine reg_end [(2, Value.pointer (some ⟨b_, 0, none⟩))] (by kernel_rfl) (by kernel_rfl) ?_
    change WpE _ _ c_codec_Reader_Var_9 _ _ _
    refine wpE_ret (by kernel_rfl) ?_
    obtain ⟨res, hc_res, h⟩ := h
    repeat (first | refine seqQ_ret ?_ | refine blockQ_ret ?_ | refine loopQ_ret ?_ | refine cutQ_ret ?_)
    exact retS (rs := [(Go.ResultVar.cell 2 84)]) (v := Value.int .u64 res) (by kernel_rfl) (⟨b_, 0, [Value.int .u64 res], by kernel_rfl, hc_res, (sizeP_of (k := 1) (by kernel_rfl) (by kernel_rfl)), .inr ⟨by kernel_rfl, rfl⟩, trivial⟩) ⟨res, rfl, h⟩
  · rintro e w' ⟨v, rfl, r0, rfl, h⟩; exact ⟨r0, rfl, h⟩

/-! ### (*towpath/codec.Reader).Text (function 43) -/
noncomputable def c_codec_Reader_Text_0 : Code := (Try.f43.body).getD Code.skip
noncomputable def c_codec_Reader_Text_1 : Code := Code.l c_codec_Reader_Text_0
noncomputable def r_codec_Reader_Text_1 : Array Oper := Code.ops c_codec_Reader_Text_1
noncomputable def c_codec_Reader_Text_3 : Code := Code.r c_codec_Reader_Text_0
noncomputable def c_codec_Reader_Text_4 : Code := Code.l c_codec_Reader_Text_3
noncomputable def r_codec_Reader_Text_4 : Array Oper := Code.ops c_codec_Reader_Text_4
noncomputable def c_codec_Reader_Text_6 : Code := Code.r c_codec_Reader_Text_3
noncomputable def c_codec_Reader_Text_7 : Code := Code.l c_codec_Reader_Text_6
noncomputable def r_codec_Reader_Text_7 : Array Oper := Code.ops c_codec_Reader_Text_7
noncomputable def c_codec_Reader_Text_9 : Code := Code.r c_codec_Reader_Text_6

set_option maxRecDepth 100000 in
set_option maxHeartbeats 4000000 in
theorem S_codec_Reader_Text {r : Option Addr} {most : Int} {w : World} {R : ByteArray → World → Prop} (h : F_codec_Reader_Text r most R w) : C_codec_Reader_Text r most w R := by
  unfold F_codec_Reader_Text at h
  unfold C_codec_Reader_Text
  refine Calls.mono (calls_of_wpE (args := [Value.pointer r, Value.int .i64 most]) (R := fun v w' => ∃ (r0 : ByteArray), v = Value.string r0 ∧ R r0 w') Try.func43 (c := c_codec_Reader_Text_0) (by kernel_rfl) 9 (by kernel_rfl) (by kernel_rfl) [(0, Value.pointer r), (1, Value.int .i64 most)] (by kernel_rfl) ?_) ?_
  · refine wpE_seq (x := c_codec_Reader_Text_1) (y := c_codec_Reader_Text_3) (by kernel_rfl) ?_
    refine wpE_region (id := 0) (ops := r_codec_Reader_Text_1) (by kernel_rfl) ?_
    refine reg_run [] 0 [(0, [], Value.pointer r), (1, [], Value.int .i64 most)] (by kernel_rfl) (by kernel_rfl) ?_
    refine reg_new (op := (Go.Op.box 3 (Go.Operand.tmp 1))) (ty := 0) (dst := some 3) (fun bb => Value.pointer (some ⟨bb, 0, none⟩)) (Obj.cells ([Value.int .i64 most]).toArray ty_int (0, 0)) (by kernel_rfl) (by kernel_rfl) (fun b_ w1 hb hw => ?_)
    replace h := h b_ w1 hb hw
    clear hb hw
    refine reg_run [] 1 [(0, [], Value.pointer r), (3, [], Value.pointer (some ⟨b_, 0, none⟩))] (by kernel_rfl) (by kernel_rfl) ?_
    refine reg_new (op := (Go.Op.alloc 9)) (ty := 0) (dst := some 4) (fun bb => Value.pointer (some ⟨bb, 0, none⟩)) (Obj.cells ([Value.string ByteArray.empty]).toArray ty_string (0, 0)) (by kernel_rfl) (by kernel_rfl) (fun b_1 w2 hb hw => ?_)
    replace h := h b_1 w2 hb hw
    clear hb hw
    refine reg_end [(0, Value.pointer r), (3, Value.pointer (some ⟨b_, 0, none⟩)), (4, Value.pointer (some ⟨b_1, 0, none⟩))] (by kernel_rfl) (by kernel_rfl) ?_
    change WpE _ _ c_codec_Reader_Text_3 _ _ _
    refine wpE_seq (x := c_codec_Reader_Text_4) (y := c_codec_Reader_Text_6) (by kernel_rfl) ?_
    refine wpE_region (id := 1) (ops := r_codec_Reader_Text_4) (by kernel_rfl) ?_
    refine reg_run [.plain, .plain] 2 [(4, [], Value.pointer (some ⟨b_1, 0, none⟩)), (5, [], Value.pointer r), (6, [], Value.func (.func 76) #[] #[Value.pointer (some ⟨b_, 0, none⟩), Value.pointer (some ⟨b_1, 0, none⟩)])] (by kernel_rfl) (by kernel_rfl) ?_
    refine reg_enter (op := (Go.Op.call (Go.Call.mk (Go.Callee.value (Go.Operand.func 73)) #[(Go.Operand.tmp 5), (Go.Operand.tmp 6)] #[81, 127]))) (ty := 4) (dst := some 7) 73 #[Value.pointer r, Value.func (.func 76) #[] #[Value.pointer (some ⟨b_, 0, none⟩), Value.pointer (some ⟨b_1, 0, none⟩)]] (by kernel_rfl) (fun ww => by kernel_rfl) (Calls.mono h ?_)
    rintro _ w3 ⟨v7, rfl, h⟩
    refine ⟨_, rfl, ?_⟩
    refine reg_end [(4, Value.pointer (some ⟨b_1, 0, none⟩))] (by kernel_rfl) (by kernel_rfl) ?_
    change WpE _ _ c_codec_Reader_Text_6 _ _ _
    refine wpE_seq (x := c_codec_Reader_Text_7) (y := c_codec_Reader_Text_9) (by kernel_rfl) ?_
    refine wpE_region (id := 2) (ops := r_codec_Reader_Text_7) (by kernel_rfl) ?_
    refine reg_run [] 0 [(4, [], Value.pointer (some ⟨b_1, 0, none⟩))] (by kernel_rfl) (by kernel_rfl) ?_
    obtain ⟨v8, hc, h⟩ := h
    refine reg_load1 (t := 9) (a := (Go.Operand.tmp 4)) (b := b_1) (o := 0) (ty := 9) (dst := some 8) (by kernel_rfl) (by kernel_rfl) (by kernel_rfl) hc ?_
    refine reg_run [] 1 [(4, [], Value.pointer (some ⟨b_1, 0, none⟩)), (8, [], Value.string v8)] (by kernel_rfl) (by kernel_rfl) ?_
    obtain ⟨hc, h⟩ := h
    refine reg_store (t := 9) (a := (Go.Operand.tmp 4)) (x := (Go.Operand.tmp 8)) (b := b_1) (o := 0) (ty := 0) (dst := none) [Value.string v8] (by kernel_rfl) (by kernel_rfl) (by kernel_rfl) (k := 1) (by kernel_rfl) (by kernel_rfl) (by kernel_rfl) hc (fun w4 hw => ?_)
    replace h := h w4 hw
    clear hw
    refine reg_end [(4, Value.pointer (some ⟨b_1, 0, none⟩))] (by kernel_rfl) (by kernel_rfl) ?_
    change WpE _ _ c_codec_Reader_Text_9 _ _ _
    refine wpE_ret (by kernel_rfl) ?_
    obtain ⟨res, hc_res, h⟩ := h
    repeat (first | refine seqQ_ret ?_ | refine blockQ_ret ?_ | refine loopQ_ret ?_ | refine cutQ_ret ?_)
    exact retS (rs := [(Go.ResultVar.cell 4 9)]) (v := Value.string res) (by kernel_rfl) (⟨b_1, 0, [Value.string res], by kernel_rfl, hc_res, (sizeP_of (k := 1) (by kernel_rfl) (by kernel_rfl)), .inr ⟨by kernel_rfl, rfl⟩, trivial⟩) ⟨res, rfl, h⟩
  · rintro e w' ⟨v, rfl, r0, rfl, h⟩; exact ⟨r0, rfl, h⟩

/-! ### (*towpath/codec.Reader).Fixed (function 44) -/
noncomputable def c_codec_Reader_Fixed_0 : Code := (Try.f44.body).getD Code.skip
noncomputable def c_codec_Reader_Fixed_1 : Code := Code.l c_codec_Reader_Fixed_0
noncomputable def r_codec_Reader_Fixed_1 : Array Oper := Code.ops c_codec_Reader_Fixed_1
noncomputable def c_codec_Reader_Fixed_3 : Code := Code.r c_codec_Reader_Fixed_0
noncomputable def c_codec_Reader_Fixed_4 : Code := Code.l c_codec_Reader_Fixed_3
noncomputable def r_codec_Reader_Fixed_4 : Array Oper := Code.ops c_codec_Reader_Fixed_4
noncomputable def c_codec_Reader_Fixed_6 : Code := Code.r c_codec_Reader_Fixed_3
noncomputable def c_codec_Reader_Fixed_7 : Code := Code.l c_codec_Reader_Fixed_6
noncomputable def r_codec_Reader_Fixed_7 : Array Oper := Code.ops c_codec_Reader_Fixed_7
noncomputable def c_codec_Reader_Fixed_9 : Code := Code.r c_codec_Reader_Fixed_6

set_option maxRecDepth 100000 in
set_option maxHeartbeats 4000000 in
theorem S_codec_Reader_Fixed {r : Option Addr} {width : Int} {w : World} {R : Int → World → Prop} (h : F_codec_Reader_Fixed r width R w) : C_codec_Reader_Fixed r width w R := by
  unfold F_codec_Reader_Fixed at h
  unfold C_codec_Reader_Fixed
  refine Calls.mono (calls_of_wpE (args := [Value.pointer r, Value.int .i64 width]) (R := fun v w' => ∃ (r0 : Int), v = Value.int .u64 r0 ∧ R r0 w') Try.func44 (c := c_codec_Reader_Fixed_0) (by kernel_rfl) 9 (by kernel_rfl) (by kernel_rfl) [(0, Value.pointer r), (1, Value.int .i64 width)] (by kernel_rfl) ?_) ?_
  · refine wpE_seq (x := c_codec_Reader_Fixed_1) (y := c_codec_Reader_Fixed_3) (by kernel_rfl) ?_
    refine wpE_region (id := 0) (ops := r_codec_Reader_Fixed_1) (by kernel_rfl) ?_
    refine reg_run [] 0 [(0, [], Value.pointer r), (1, [], Value.int .i64 width)] (by kernel_rfl) (by kernel_rfl) ?_
    refine reg_new (op := (Go.Op.box 3 (Go.Operand.tmp 1))) (ty := 0) (dst := some 3) (fun bb => Value.pointer (some ⟨bb, 0, none⟩)) (Obj.cells ([Value.int .i64 width]).toArray ty_int (0, 0)) (by kernel_rfl) (by kernel_rfl) (fun b_ w1 hb hw => ?_)
    replace h := h b_ w1 hb hw
    clear hb hw
    refine reg_run [] 1 [(0, [], Value.pointer r), (3, [], Value.pointer (some ⟨b_, 0, none⟩))] (by kernel_rfl) (by kernel_rfl) ?_
    refine reg_new (op := (Go.Op.alloc 84)) (ty := 0) (dst := some 4) (fun bb => Value.pointer (some ⟨bb, 0, none⟩)) (Obj.cells ([Value.int .u64 0]).toArray ty_uint64 (0, 0)) (by kernel_rfl) (by kernel_rfl) (fun b_1 w2 hb hw => ?_)
    replace h := h b_1 w2 hb hw
    clear hb hw
    refine reg_end [(0, Value.pointer r), (3, Value.pointer (some ⟨b_, 0, none⟩)), (4, Value.pointer (some ⟨b_1, 0, none⟩))] (by kernel_rfl) (by kernel_rfl) ?_
    change WpE _ _ c_codec_Reader_Fixed_3 _ _ _
    refine wpE_seq (x := c_codec_Reader_Fixed_4) (y := c_codec_Reader_Fixed_6) (by kernel_rfl) ?_
    refine wpE_region (id := 1) (ops := r_codec_Reader_Fixed_4) (by kernel_rfl) ?_
    refine reg_run [.plain, .plain] 2 [(4, [], Value.pointer (some ⟨b_1, 0, none⟩)), (5, [], Value.pointer r), (6, [], Value.func (.func 77) #[] #[Value.pointer (some ⟨b_, 0, none⟩), Value.pointer (some ⟨b_1, 0, none⟩)])] (by kernel_rfl) (by kernel_rfl) ?_
    refine reg_enter (op := (Go.Op.call (Go.Call.mk (Go.Callee.value (Go.Operand.func 73)) #[(Go.Operand.tmp 5), (Go.Operand.tmp 6)] #[81, 127]))) (ty := 4) (dst := some 7) 73 #[Value.pointer r, Value.func (.func 77) #[] #[Value.pointer (some ⟨b_, 0, none⟩), Value.pointer (some ⟨b_1, 0, none⟩)]] (by kernel_rfl) (fun ww => by kernel_rfl) (Calls.mono h ?_)
    rintro _ w3 ⟨v7, rfl, h⟩
    refine ⟨_, rfl, ?_⟩
    refine reg_end [(4, Value.pointer (some ⟨b_1, 0, none⟩))] (by kernel_rfl) (by kernel_rfl) ?_
    change WpE _ _ c_codec_Reader_Fixed_6 _ _ _
    refine wpE_seq (x := c_codec_Reader_Fixed_7) (y := c_codec_Reader_Fixed_9) (by kernel_rfl) ?_
    refine wpE_region (id := 2) (ops := r_codec_Reader_Fixed_7) (by kernel_rfl) ?_
    refine reg_run [] 0 [(4, [], Value.pointer (some ⟨b_1, 0, none⟩))] (by kernel_rfl) (by kernel_rfl) ?_
    obtain ⟨v8, hc, h⟩ := h
    refine reg_load1 (t := 84) (a := (Go.Operand.tmp 4)) (b := b_1) (o := 0) (ty := 84) (dst := some 8) (by kernel_rfl) (by kernel_rfl) (by kernel_rfl) hc ?_
    refine reg_run [] 1 [(4, [], Value.pointer (some ⟨b_1, 0, none⟩)), (8, [], Value.int .u64 v8)] (by kernel_rfl) (by kernel_rfl) ?_
    obtain ⟨hc, h⟩ := h
    refine reg_store (t := 84) (a := (Go.Operand.tmp 4)) (x := (Go.Operand.tmp 8)) (b := b_1) (o := 0) (ty := 0) (dst := none) [Value.int .u64 v8] (by kernel_rfl) (by kernel_rfl) (by kernel_rfl) (k := 1) (by kernel_rfl) (by kernel_rfl) (by kernel_rfl) hc (fun w4 hw => ?_)
    replace h := h w4 hw
    clear hw
    refine reg_end [(4, Value.pointer (some ⟨b_1, 0, none⟩))] (by kernel_rfl) (by kernel_rfl) ?_
    change WpE _ _ c_codec_Reader_Fixed_9 _ _ _
    refine wpE_ret (by kernel_rfl) ?_
    obtain ⟨res, hc_res, h⟩ := h
    repeat (first | refine seqQ_ret ?_ | refine blockQ_ret ?_ | refine loopQ_ret ?_ | refine cutQ_ret ?_)
    exact retS (rs := [(Go.ResultVar.cell 4 84)]) (v := Value.int .u64 res) (by kernel_rfl) (⟨b_1, 0, [Value.int .u64 res], by kernel_rfl, hc_res, (sizeP_of (k := 1) (by kernel_rfl) (by kernel_rfl)), .inr ⟨by kernel_rfl, rfl⟩, trivial⟩) ⟨res, rfl, h⟩
  · rintro e w' ⟨v, rfl, r0, rfl, h⟩; exact ⟨r0, rfl, h⟩

/-! ### towpath/codec.NewWriter (function 67) -/
noncomputable def c_codec_NewWriter_0 : Code := (Try.f67.body).getD Code.skip
noncomputable def c_codec_NewWriter_1 : Code := Code.l c_codec_NewWriter_0
noncomputable def r_codec_NewWriter_1 : Array Oper := Code.ops c_codec_NewWriter_1
noncomputable def c_codec_NewWriter_3 : Code := Code.r c_codec_NewWriter_0
noncomputable def c_codec_NewWriter_4 : Code := Code.l c_codec_NewWriter_3
noncomputable def r_codec_NewWriter_4 : Array Oper := Code.ops c_codec_NewWriter_4
noncomputable def c_codec_NewWriter_6 : Code := Code.r c_codec_NewWriter_3

set_option maxRecDepth 100000 in
set_option maxHeartbeats 4000000 in
theorem S_codec_NewWriter {w : World} {R : Option Addr → World → Prop} (h : F_codec_NewWriter R w) : C_codec_NewWriter w R := by
  unfold F_codec_NewWriter at h
  unfold C_codec_NewWriter
  refine Calls.mono (calls_of_wpE (args := []) (R := fun v w' => ∃ (r0 : Option Addr), v = Value.pointer r0 ∧ R r0 w') Try.func67 (c := c_codec_NewWriter_0) (by kernel_rfl) 3 (by kernel_rfl) (by kernel_rfl) [] (by kernel_rfl) ?_) ?_
  · refine wpE_seq (x := c_codec_NewWriter_1) (y := c_codec_NewWriter_3) (by kernel_rfl) ?_
    refine wpE_region (id := 0) (ops := r_codec_NewWriter_1) (by kernel_rfl) ?_
    refine reg_run [.plain] 1 [] (by kernel_rfl) (by kernel_rfl) ?_
    refine reg_end [] (by kernel_rfl) (by kernel_rfl) ?_
    change WpE _ _ c_codec_NewWriter_3 _ _ _
    refine wpE_seq (x := c_codec_NewWriter_4) (y := c_codec_NewWriter_6) (by kernel_rfl) ?_
    refine wpE_region (id := 1) (ops := r_codec_NewWriter_4) (by kernel_rfl) ?_
    refine reg_run [.plain] 1 [(1, [], Value.agg #[Value.bool true, Value.slice none 0 0])] (by kernel_rfl) (by kernel_rfl) ?_
    refine reg_new (op := (Go.Op.box 137 (Go.Operand.tmp 1))) (ty := 116) (dst := some 2) (fun bb => Value.pointer (some ⟨bb, 0, none⟩)) (Obj.cells ([Value.bool true, Value.slice none 0 0]).toArray ty_codec_Writer (0, 0)) (by kernel_rfl) (by kernel_rfl) (fun b_ w1 hb hw => ?_)
    replace h := h b_ w1 hb hw
    clear hb hw
    refine reg_run [.plain] 3 [(0, [], Value.pointer (some ⟨b_, 0, none⟩))] (by kernel_rfl) (by kernel_rfl) ?_
    refine reg_end [(0, Value.pointer (some ⟨b_, 0, none⟩))] (by kernel_rfl) (by kernel_rfl) ?_
    change WpE _ _ c_codec_NewWriter_6 _ _ _
    refine wpE_ret (by kernel_rfl) ?_
    repeat (first | refine seqQ_ret ?_ | refine blockQ_ret ?_ | refine loopQ_ret ?_ | refine cutQ_ret ?_)
    exact retS (rs := [(Go.ResultVar.tmp 0)]) (v := Value.pointer (some ⟨b_, 0, none⟩)) (by kernel_rfl) (⟨by kernel_rfl, trivial⟩) ⟨(some ⟨b_, 0, none⟩), rfl, h⟩
  · rintro e w' ⟨v, rfl, r0, rfl, h⟩; exact ⟨r0, rfl, h⟩

/-! ### (*towpath/codec.Writer).Var (function 68) -/
noncomputable def c_codec_Writer_Var_0 : Code := (Try.f68.body).getD Code.skip
noncomputable def c_codec_Writer_Var_1 : Code := Code.l c_codec_Writer_Var_0
noncomputable def c_codec_Writer_Var_2 : Code := Code.l c_codec_Writer_Var_1
noncomputable def r_codec_Writer_Var_2 : Array Oper := Code.ops c_codec_Writer_Var_2
noncomputable def c_codec_Writer_Var_4 : Code := Code.r c_codec_Writer_Var_1
noncomputable def c_codec_Writer_Var_5 : Code := Code.l c_codec_Writer_Var_4
noncomputable def c_codec_Writer_Var_6 : Code := Code.r c_codec_Writer_Var_4
noncomputable def c_codec_Writer_Var_7 : Code := Code.r c_codec_Writer_Var_0
noncomputable def c_codec_Writer_Var_8 : Code := Code.l c_codec_Writer_Var_7
noncomputable def c_codec_Writer_Var_9 : Code := Code.l c_codec_Writer_Var_8
noncomputable def c_codec_Writer_Var_10 : Code := Code.l c_codec_Writer_Var_9
noncomputable def c_codec_Writer_Var_11 : Code := Code.l c_codec_Writer_Var_10
noncomputable def c_codec_Writer_Var_12 : Code := Code.l c_codec_Writer_Var_11
noncomputable def r_codec_Writer_Var_12 : Array Oper := Code.ops c_codec_Writer_Var_12
noncomputable def c_codec_Writer_Var_14 : Code := Code.r c_codec_Writer_Var_11
noncomputable def c_codec_Writer_Var_15 : Code := Code.l c_codec_Writer_Var_14
noncomputable def c_codec_Writer_Var_16 : Code := Code.r c_codec_Writer_Var_14
noncomputable def c_codec_Writer_Var_17 : Code := Code.r c_codec_Writer_Var_10
noncomputable def c_codec_Writer_Var_18 : Code := Code.l c_codec_Writer_Var_17
noncomputable def c_codec_Writer_Var_19 : Code := Code.l c_codec_Writer_Var_18
noncomputable def r_codec_Writer_Var_19 : Array Oper := Code.ops c_codec_Writer_Var_19
noncomputable def c_codec_Writer_Var_21 : Code := Code.r c_codec_Writer_Var_17
noncomputable def r_codec_Writer_Var_21 : Array Oper := Code.ops c_codec_Writer_Var_21
noncomputable def c_codec_Writer_Var_23 : Code := Code.r c_codec_Writer_Var_7
noncomputable def r_codec_Writer_Var_23 : Array Oper := Code.ops c_codec_Writer_Var_23

set_option maxRecDepth 100000 in
set_option maxHeartbeats 4000000 in
theorem S_codec_Writer_Var {w_ : Option Addr} {n_ : Int} {w : World} {R : World → Prop} (h : F_codec_Writer_Var w_ n_ R w) : C_codec_Writer_Var w_ n_ w R := by
  unfold F_codec_Writer_Var at h
  unfold C_codec_Writer_Var
  refine Calls.mono (calls_of_wpE (args := [Value.pointer w_, Value.int .u64 n_]) (R := fun v w' => v = Value.tuple #[] ∧ R w') Try.func68 (c := c_codec_Writer_Var_0) (by kernel_rfl) 33 (by kernel_rfl) (by kernel_rfl) [(0, Value.pointer w_), (1, Value.int .u64 n_)] (by kernel_rfl) ?_) ?_
  · refine wpE_seq (x := c_codec_Writer_Var_1) (y := c_codec_Writer_Var_7) (by kernel_rfl) ?_
    refine wpE_seq (x := c_codec_Writer_Var_2) (y := c_codec_Writer_Var_4) (by kernel_rfl) ?_
    refine wpE_region (id := 0) (ops := r_codec_Writer_Var_2) (by kernel_rfl) ?_
    refine reg_run [.plain] 1 [(0, [], Value.pointer w_), (1, [], Value.int .u64 n_), (4, [], Value.pointer w_)] (by kernel_rfl) (by kernel_rfl) ?_
    refine reg_enter (op := (Go.Op.call (Go.Call.mk (Go.Callee.value (Go.Operand.func 90)) #[(Go.Operand.tmp 4)] #[116]))) (ty := 4) (dst := some 5) 90 #[Value.pointer w_] (by kernel_rfl) (fun ww => by kernel_rfl) (Calls.mono h ?_)
    rintro _ w1 ⟨v5, rfl, h⟩
    refine ⟨_, rfl, ?_⟩
    refine reg_end [(0, Value.pointer w_), (1, Value.int .u64 n_), (5, Value.bool v5)] (by kernel_rfl) (by kernel_rfl) ?_
    change WpE _ _ c_codec_Writer_Var_4 _ _ _
    refine wpE_cond (o := (Operand.tmp 5)) (b := v5) (x := c_codec_Writer_Var_5) (y := c_codec_Writer_Var_6) (by kernel_rfl) (by kernel_rfl) (fun hb => ?_) (fun hb => ?_)
    · replace h := h.1 hb
      refine wpE_ret (by kernel_rfl) ?_
      repeat (first | refine seqQ_ret ?_ | refine blockQ_ret ?_ | refine loopQ_ret ?_ | refine cutQ_ret ?_)
      exact retT (rs := []) (vs := []) (by kernel_rfl) (trivial) (by kernel_rfl) ⟨rfl, h⟩
    · replace h := h.2 hb
      refine wpE_skip (by kernel_rfl) ?_
      change WpE _ _ c_codec_Writer_Var_7 _ _ _
      refine wpE_seq (x := c_codec_Writer_Var_8) (y := c_codec_Writer_Var_23) (by kernel_rfl) ?_
      refine wpE_block (id := 0) (x := c_codec_Writer_Var_9) (by kernel_rfl) ?_
      obtain ⟨I, μ, h0, hr⟩ := h
      refine wpE_loop (x := c_codec_Writer_Var_10) (by kernel_rfl) (fun m l w => ∃ (n_1 : Int), l = [(0, Value.pointer w_), (1, Value.int .u64 n_1)] ∧ I n_1 w ∧ μ n_1 w = m) (l' := [(0, Value.pointer w_), (1, Value.int .u64 n_)]) (Sub.mk (by kernel_rfl)) ⟨n_, rfl, h0, rfl⟩ ?_
      rintro _ _ w2 ⟨n_1, rfl, hI, rfl⟩
      obtain ⟨again_, again__h, h⟩ : ∃ again_ : Int → World → Prop, (∀ n_1' w', again_ n_1' w' → I n_1' w' ∧ μ n_1' w' < μ n_1 w2) ∧ F_codec_Writer_Var_L0 w_ R again_ n_1 w2 := ⟨_, fun _ _ h => h, hr n_1 w2 hI⟩
      clear h0 hI
      unfold F_codec_Writer_Var_L0 at h
      refine wpE_seq (x := c_codec_Writer_Var_11) (y := c_codec_Writer_Var_17) (by kernel_rfl) ?_
      refine wpE_seq (x := c_codec_Writer_Var_12) (y := c_codec_Writer_Var_14) (by kernel_rfl) ?_
      refine wpE_region (id := 1) (ops := r_codec_Writer_Var_12) (by kernel_rfl) ?_
      refine reg_run [.plain, .plain] 2 [(0, [], Value.pointer w_), (1, [], Value.int .u64 n_1), (7, [], Value.bool (decide (n_1 ≥ 128)))] (by kernel_rfl) (by kernel_rfl) ?_
      refine reg_end [(0, Value.pointer w_), (1, Value.int .u64 n_1), (7, Value.bool (decide (n_1 ≥ 128)))] (by kernel_rfl) (by kernel_rfl) ?_
      change WpE _ _ c_codec_Writer_Var_14 _ _ _
      refine wpE_cond (o := (Operand.tmp 7)) (b := (decide (n_1 ≥ 128))) (x := c_codec_Writer_Var_15) (y := c_codec_Writer_Var_16) (by kernel_rfl) (by kernel_rfl) (fun hb => ?_) (fun hb => ?_)
      · replace h := h.1 hb
        refine wpE_skip (by kernel_rfl) ?_
        change WpE _ _ c_codec_Writer_Var_17 _ _ _
        refine wpE_seq (x := c_codec_Writer_Var_18) (y := c_codec_Writer_Var_21) (by kernel_rfl) ?_
        refine wpE_block (id := 1) (x := c_codec_Writer_Var_19) (by kernel_rfl) ?_
        refine wpE_region (id := 3) (ops := r_codec_Writer_Var_19) (by kernel_rfl) ?_
        refine reg_run [.plain, .plain] 2 [(0, [], Value.pointer w_), (1, [], Value.int .u64 n_1), (10, [], Value.pointer w_), (11, [], Value.pointer w_)] (by kernel_rfl) (by kernel_rfl) ?_
        obtain ⟨hp_6, h⟩ := h
        refine reg_conv [(0, [], Value.pointer w_), (1, [], Value.int .u64 n_1), (10, [], Value.pointer w_), (11, [], Value.pointer (some ⟨(pblk w_), (poff w_), none⟩))] (congrArg (fun pp => ([(0, [], Value.pointer w_), (1, [], Value.int .u64 n_1), (10, [], Value.pointer w_), (11, [], Value.pointer pp)] : GEnv)) hp_6) ?_
        refine reg_run [.plain] 3 [(0, [], Value.pointer w_), (1, [], Value.int .u64 n_1), (10, [], Value.pointer w_), (11, [], Value.pointer (some ⟨(pblk w_), (poff w_), none⟩)), (12, [], Value.pointer (some ⟨(pblk w_), (poff w_), none⟩))] (by kernel_rfl) (by kernel_rfl) ?_
        refine reg_run [.plain] 4 [(0, [], Value.pointer w_), (1, [], Value.int .u64 n_1), (10, [], Value.pointer w_), (13, [], Value.pointer (some ⟨(pblk w_), (poff w_) + 1, none⟩))] (by kernel_rfl) (by kernel_rfl) ?_
        obtain ⟨v14, hc, h⟩ := h
        refine reg_load1 (t := 22) (a := (Go.Operand.tmp 13)) (b := (pblk w_)) (o := ((poff w_) + 1)) (ty := 22) (dst := some 14) (by kernel_rfl) (by kernel_rfl) (by kernel_rfl) hc ?_
        refine reg_run [.plain, .plain, .plain] 8 [(0, [], Value.pointer w_), (1, [], Value.int .u64 n_1), (10, [], Value.pointer w_), (14, [], Value.slice v14.ptr v14.len v14.cap), (17, [], Value.int .u8 (bor .u8 (IntKind.u8.wrap n_1) 128))] (by kernel_rfl) (by kernel_rfl) ?_
        refine reg_new (op := (Go.Op.buildSlice 22 1 #[(0, (Go.Operand.tmp 17))])) (ty := 22) (dst := some 18) (fun bb => Value.slice (some ⟨bb, 0, none⟩) 1 1) (Obj.cells ([Value.int .u8 (bor .u8 (IntKind.u8.wrap n_1) 128)]).toArray ty_uint8 (0, 0)) (by kernel_rfl) (by kernel_rfl) (fun b_ w3 hb hw => ?_)
        replace h := h b_ w3 hb hw
        clear hb hw
        refine reg_run [] 9 [(0, [], Value.pointer w_), (1, [], Value.int .u64 n_1), (10, [], Value.pointer w_), (14, [], Value.slice v14.ptr v14.len v14.cap), (18, [], Value.slice (some ⟨b_, 0, none⟩) 1 1)] (by kernel_rfl) (by kernel_rfl) ?_
        obtain ⟨src, hs, h⟩ := h
        refine reg_append (t := 22) (tx := 22) (e := 5) (a := (Go.Operand.tmp 14)) (xo := (Go.Operand.tmp 18)) (s := v14) (x := (Slc.mk (some ⟨b_, 0, none⟩) 1 1)) (sz := 1) (by_ := 1) (zs := [Value.int .u8 0]) (ty := 22) (dst := some 19)  src (by kernel_rfl) (by kernel_rfl) (by kernel_rfl) (by kernel_rfl) (by kernel_rfl) (by kernel_rfl) (by kernel_rfl) (by kernel_rfl) (by kernel_rfl) hs (AppendW.mono h (fun v19 w4 h => ?_))
        refine reg_run [] 10 [(0, [], Value.pointer w_), (1, [], Value.int .u64 n_1), (10, [], Value.pointer w_), (19, [], Value.slice v19.ptr v19.len v19.cap)] (by kernel_rfl) (by kernel_rfl) ?_
        obtain ⟨hp_7, h⟩ := h
        refine reg_conv [(0, [], Value.pointer w_), (1, [], Value.int .u64 n_1), (10, [], Value.pointer (some ⟨(pblk w_), (poff w_), none⟩)), (19, [], Value.slice v19.ptr v19.len v19.cap)] (congrArg (fun pp => ([(0, [], Value.pointer w_), (1, [], Value.int .u64 n_1), (10, [], Value.pointer pp), (19, [], Value.slice v19.ptr v19.len v19.cap)] : GEnv)) hp_7) ?_
        refine reg_run [.plain] 11 [(0, [], Value.pointer w_), (1, [], Value.int .u64 n_1), (10, [], Value.pointer (some ⟨(pblk w_), (poff w_), none⟩)), (19, [], Value.slice v19.ptr v19.len v19.cap), (20, [], Value.pointer (some ⟨(pblk w_), (poff w_), none⟩))] (by kernel_rfl) (by kernel_rfl) ?_
        refine reg_run [.plain] 12 [(0, [], Value.pointer w_), (1, [], Value.int .u64 n_1), (19, [], Value.slice v19.ptr v19.len v19.cap), (21, [], Value.pointer (some ⟨(pblk w_), (poff w_) + 1, none⟩))] (by kernel_rfl) (by kernel_rfl) ?_
        obtain ⟨hc, h⟩ := h
        refine reg_store (t := 22) (a := (Go.Operand.tmp 21)) (x := (Go.Operand.tmp 19)) (b := (pblk w_)) (o := ((poff w_) + 1)) (ty := 0) (dst := none) [Value.slice v19.ptr v19.len v19.cap] (by kernel_rfl) (by kernel_rfl) (by kernel_rfl) (k := 1) (by kernel_rfl) (by kernel_rfl) (by kernel_rfl) hc (fun w5 hw => ?_)
        replace h := h w5 hw
        clear hw
        refine reg_end [(0, Value.pointer w_), (1, Value.int .u64 n_1)] (by kernel_rfl) (by kernel_rfl) ?_
        change WpE _ _ c_codec_Writer_Var_21 _ _ _
        refine wpE_region (id := 2) (ops := r_codec_Writer_Var_21) (by kernel_rfl) ?_
        refine reg_run [.plain, .plain, .plain] 3 [(0, [], Value.pointer w_), (1, [], Value.int .u64 (Int.fdiv n_1 (2 ^ 7)))] (by kernel_rfl) (by kernel_rfl) ?_
        refine reg_end [(0, Value.pointer w_), (1, Value.int .u64 (Int.fdiv n_1 (2 ^ 7)))] (by kernel_rfl) (by kernel_rfl) ?_
        have hb_ := again__h _ _ h
        exact ⟨_, hb_.2, [(0, Value.pointer w_), (1, Value.int .u64 (Int.fdiv n_1 (2 ^ 7)))], Sub.mk (by kernel_rfl), (Int.fdiv n_1 (2 ^ 7)), rfl, hb_.1, rfl⟩
      · replace h := h.2 hb
        refine wpE_exit (id := 0) (by kernel_rfl) ?_
        change WpE _ _ c_codec_Writer_Var_23 _ _ _
        refine wpE_region (id := 4) (ops := r_codec_Writer_Var_23) (by kernel_rfl) ?_
        refine reg_run [.plain, .plain] 2 [(1, [], Value.int .u64 n_1), (22, [], Value.pointer w_), (23, [], Value.pointer w_)] (by kernel_rfl) (by kernel_rfl) ?_
        obtain ⟨hp_8, h⟩ := h
        refine reg_conv [(1, [], Value.int .u64 n_1), (22, [], Value.pointer w_), (23, [], Value.pointer (some ⟨(pblk w_), (poff w_), none⟩))] (congrArg (fun pp => ([(1, [], Value.int .u64 n_1), (22, [], Value.pointer w_), (23, [], Value.pointer pp)] : GEnv)) hp_8) ?_
        refine reg_run [.plain] 3 [(1, [], Value.int .u64 n_1), (22, [], Value.pointer w_), (23, [], Value.pointer (some ⟨(pblk w_), (poff w_), none⟩)), (24, [], Value.pointer (some ⟨(pblk w_), (poff w_), none⟩))] (by kernel_rfl) (by kernel_rfl) ?_
        refine reg_run [.plain] 4 [(1, [], Value.int .u64 n_1), (22, [], Value.pointer w_), (25, [], Value.pointer (some ⟨(pblk w_), (poff w_) + 1, none⟩))] (by kernel_rfl) (by kernel_rfl) ?_
        obtain ⟨v26, hc, h⟩ := h
        refine reg_load1 (t := 22) (a := (Go.Operand.tmp 25)) (b := (pblk w_)) (o := ((poff w_) + 1)) (ty := 22) (dst := some 26) (by kernel_rfl) (by kernel_rfl) (by kernel_rfl) hc ?_
        refine reg_run [.plain, .plain] 7 [(22, [], Value.pointer w_), (26, [], Value.slice v26.ptr v26.len v26.cap), (28, [], Value.int .u8 (IntKind.u8.wrap n_1))] (by kernel_rfl) (by kernel_rfl) ?_
        refine reg_new (op := (Go.Op.buildSlice 22 1 #[(0, (Go.Operand.tmp 28))])) (ty := 22) (dst := some 29) (fun bb => Value.slice (some ⟨bb, 0, none⟩) 1 1) (Obj.cells ([Value.int .u8 (IntKind.u8.wrap n_1)]).toArray ty_uint8 (0, 0)) (by kernel_rfl) (by kernel_rfl) (fun b_1 w6 hb hw => ?_)
        replace h := h b_1 w6 hb hw
        clear hb hw
        refine reg_run [] 8 [(22, [], Value.pointer w_), (26, [], Value.slice v26.ptr v26.len v26.cap), (29, [], Value.slice (some ⟨b_1, 0, none⟩) 1 1)] (by kernel_rfl) (by kernel_rfl) ?_
        obtain ⟨src, hs, h⟩ := h
        refine reg_append (t := 22) (tx := 22) (e := 5) (a := (Go.Operand.tmp 26)) (xo := (Go.Operand.tmp 29)) (s := v26) (x := (Slc.mk (some ⟨b_1, 0, none⟩) 1 1)) (sz := 1) (by_ := 1) (zs := [Value.int .u8 0]) (ty := 22) (dst := some 30)  src (by kernel_rfl) (by kernel_rfl) (by kernel_rfl) (by kernel_rfl) (by kernel_rfl) (by kernel_rfl) (by kernel_rfl) (by kernel_rfl) (by kernel_rfl) hs (AppendW.mono h (fun v30 w7 h => ?_))
        refine reg_run [] 9 [(22, [], Value.pointer w_), (30, [], Value.slice v30.ptr v30.len v30.cap)] (by kernel_rfl) (by kernel_rfl) ?_
        obtain ⟨hp_9, h⟩ := h
        refine reg_conv [(22, [], Value.pointer (some ⟨(pblk w_), (poff w_), none⟩)), (30, [], Value.slice v30.ptr v30.len v30.cap)] (congrArg (fun pp => ([(22, [], Value.pointer pp), (30, [], Value.slice v30.ptr v30.len v30.cap)] : GEnv)) hp_9) ?_
        refine reg_run [.plain] 10 [(22, [], Value.pointer (some ⟨(pblk w_), (poff w_), none⟩)), (30, [], Value.slice v30.ptr v30.len v30.cap), (31, [], Value.pointer (some ⟨(pblk w_), (poff w_), none⟩))] (by kernel_rfl) (by kernel_rfl) ?_
        refine reg_run [.plain] 11 [(30, [], Value.slice v30.ptr v30.len v30.cap), (32, [], Value.pointer (some ⟨(pblk w_), (poff w_) + 1, none⟩))] (by kernel_rfl) (by kernel_rfl) ?_
        obtain ⟨hc, h⟩ := h
        refine reg_store (t := 22) (a := (Go.Operand.tmp 32)) (x := (Go.Operand.tmp 30)) (b := (pblk w_)) (o := ((poff w_) + 1)) (ty := 0) (dst := none) [Value.slice v30.ptr v30.len v30.cap] (by kernel_rfl) (by kernel_rfl) (by kernel_rfl) (k := 1) (by kernel_rfl) (by kernel_rfl) (by kernel_rfl) hc (fun w8 hw => ?_)
        replace h := h w8 hw
        clear hw
        refine reg_end [] (by kernel_rfl) (by kernel_rfl) ?_
        refine retQ_normal ?_
        repeat (first | refine seqQ_ret ?_ | refine blockQ_ret ?_ | refine loopQ_ret ?_ | refine cutQ_ret ?_)
        exact retT (rs := []) (vs := []) (by kernel_rfl) (trivial) (by kernel_rfl) ⟨rfl, h⟩
  · rintro e w' ⟨v, rfl, rfl, h⟩; exact ⟨rfl, h⟩

/-! ### (*towpath/codec.Writer).Text (function 69) -/
noncomputable def c_codec_Writer_Text_0 : Code := (Try.f69.body).getD Code.skip
noncomputable def c_codec_Writer_Text_1 : Code := Code.l c_codec_Writer_Text_0
noncomputable def c_codec_Writer_Text_2 : Code := Code.l c_codec_Writer_Text_1
noncomputable def r_codec_Writer_Text_2 : Array Oper := Code.ops c_codec_Writer_Text_2
noncomputable def c_codec_Writer_Text_4 : Code := Code.r c_codec_Writer_Text_1
noncomputable def c_codec_Writer_Text_5 : Code := Code.l c_codec_Writer_Text_4
noncomputable def c_codec_Writer_Text_6 : Code := Code.r c_codec_Writer_Text_4
noncomputable def c_codec_Writer_Text_7 : Code := Code.r c_codec_Writer_Text_0
noncomputable def c_codec_Writer_Text_8 : Code := Code.l c_codec_Writer_Text_7
noncomputable def r_codec_Writer_Text_8 : Array Oper := Code.ops c_codec_Writer_Text_8
noncomputable def c_codec_Writer_Text_10 : Code := Code.r c_codec_Writer_Text_7
noncomputable def r_codec_Writer_Text_10 : Array Oper := Code.ops c_codec_Writer_Text_10

set_option maxRecDepth 100000 in
set_option maxHeartbeats 4000000 in
theorem S_codec_Writer_Text {w_ : Option Addr} {s : ByteArray} {w : World} {R : World → Prop} (h : F_codec_Writer_Text w_ s R w) : C_codec_Writer_Text w_ s w R := by
  unfold F_codec_Writer_Text at h
  unfold C_codec_Writer_Text
  refine Calls.mono (calls_of_wpE (args := [Value.pointer w_, Value.string s]) (R := fun v w' => v = Value.tuple #[] ∧ R w') Try.func69 (c := c_codec_Writer_Text_0) (by kernel_rfl) 20 (by kernel_rfl) (by kernel_rfl) [(0, Value.pointer w_), (1, Value.string s)] (by kernel_rfl) ?_) ?_
  · refine wpE_seq (x := c_codec_Writer_Text_1) (y := c_codec_Writer_Text_7) (by kernel_rfl) ?_
    refine wpE_seq (x := c_codec_Writer_Text_2) (y := c_codec_Writer_Text_4) (by kernel_rfl) ?_
    refine wpE_region (id := 0) (ops := r_codec_Writer_Text_2) (by kernel_rfl) ?_
    refine reg_run [.plain] 1 [(0, [], Value.pointer w_), (1, [], Value.string s), (4, [], Value.pointer w_)] (by kernel_rfl) (by kernel_rfl) ?_
    refine reg_enter (op := (Go.Op.call (Go.Call.mk (Go.Callee.value (Go.Operand.func 90)) #[(Go.Operand.tmp 4)] #[116]))) (ty := 4) (dst := some 5) 90 #[Value.pointer w_] (by kernel_rfl) (fun ww => by kernel_rfl) (Calls.mono h ?_)
    rintro _ w1 ⟨v5, rfl, h⟩
    refine ⟨_, rfl, ?_⟩
    refine reg_end [(0, Value.pointer w_), (1, Value.string s), (5, Value.bool v5)] (by kernel_rfl) (by kernel_rfl) ?_
    change WpE _ _ c_codec_Writer_Text_4 _ _ _
    refine wpE_cond (o := (Operand.tmp 5)) (b := v5) (x := c_codec_Writer_Text_5) (y := c_codec_Writer_Text_6) (by kernel_rfl) (by kernel_rfl) (fun hb => ?_) (fun hb => ?_)
    · replace h := h.1 hb
      refine wpE_ret (by kernel_rfl) ?_
      repeat (first | refine seqQ_ret ?_ | refine blockQ_ret ?_ | refine loopQ_ret ?_ | refine cutQ_ret ?_)
      exact retT (rs := []) (vs := []) (by kernel_rfl) (trivial) (by kernel_rfl) ⟨rfl, h⟩
    · replace h := h.2 hb
      refine wpE_skip (by kernel_rfl) ?_
      change WpE _ _ c_codec_Writer_Text_7 _ _ _
      refine wpE_seq (x := c_codec_Writer_Text_8) (y := c_codec_Writer_Text_10) (by kernel_rfl) ?_
      refine wpE_region (id := 1) (ops := r_codec_Writer_Text_8) (by kernel_rfl) ?_
      refine reg_run [.plain, .plain, .plain, .plain] 4 [(0, [], Value.pointer w_), (1, [], Value.string s), (6, [], Value.pointer w_), (9, [], Value.int .u64 (IntKind.u64.wrap ((s.size : Nat) : Int)))] (by kernel_rfl) (by kernel_rfl) ?_
      refine reg_enter (op := (Go.Op.call (Go.Call.mk (Go.Callee.value (Go.Operand.func 68)) #[(Go.Operand.tmp 6), (Go.Operand.tmp 9)] #[116, 84]))) (ty := 0) (dst := some 10) 68 #[Value.pointer w_, Value.int .u64 (IntKind.u64.wrap ((s.size : Nat) : Int))] (by kernel_rfl) (fun ww => by kernel_rfl) (Calls.mono h ?_)
      rintro _ w2 ⟨rfl, h⟩
      refine ⟨_, rfl, ?_⟩
      refine reg_end [(0, Value.pointer w_), (1, Value.string s)] (by kernel_rfl) (by kernel_rfl) ?_
      change WpE _ _ c_codec_Writer_Text_10 _ _ _
      refine wpE_region (id := 2) (ops := r_codec_Writer_Text_10) (by kernel_rfl) ?_
      refine reg_run [.plain, .plain] 2 [(1, [], Value.string s), (11, [], Value.pointer w_), (12, [], Value.pointer w_)] (by kernel_rfl) (by kernel_rfl) ?_
      obtain ⟨hp_0, h⟩ := h
      refine reg_conv [(1, [], Value.string s), (11, [], Value.pointer w_), (12, [], Value.pointer (some ⟨(pblk w_), (poff w_), none⟩))] (congrArg (fun pp => ([(1, [], Value.string s), (11, [], Value.pointer w_), (12, [], Value.pointer pp)] : GEnv)) hp_0) ?_
      refine reg_run [.plain] 3 [(1, [], Value.string s), (11, [], Value.pointer w_), (12, [], Value.pointer (some ⟨(pblk w_), (poff w_), none⟩)), (13, [], Value.pointer (some ⟨(pblk w_), (poff w_), none⟩))] (by kernel_rfl) (by kernel_rfl) ?_
      refine reg_run [.plain] 4 [(1, [], Value.string s), (11, [], Value.pointer w_), (14, [], Value.pointer (some ⟨(pblk w_), (poff w_) + 1, none⟩))] (by kernel_rfl) (by kernel_rfl) ?_
      obtain ⟨v15, hc, h⟩ := h
      refine reg_load1 (t := 22) (a := (Go.Operand.tmp 14)) (b := (pblk w_)) (o := ((poff w_) + 1)) (ty := 22) (dst := some 15) (by kernel_rfl) (by kernel_rfl) (by kernel_rfl) hc ?_
      refine reg_run [.plain] 6 [(11, [], Value.pointer w_), (15, [], Value.slice v15.ptr v15.len v15.cap), (16, [], Value.string s)] (by kernel_rfl) (by kernel_rfl) ?_
      refine reg_appendStr (t := 22) (tx := 9) (e := 5) (a := (Go.Operand.tmp 15)) (xo := (Go.Operand.tmp 16)) (s := v15) (str := s) (by_ := 1) (zs := [Value.int .u8 0]) (ty := 22) (dst := some 17)  (by kernel_rfl) (by kernel_rfl) (by kernel_rfl) (by kernel_rfl) (by kernel_rfl) (by kernel_rfl) (by kernel_rfl) (by kernel_rfl) (by kernel_rfl) (AppendW.mono h (fun v17 w3 h => ?_))
      refine reg_run [] 7 [(11, [], Value.pointer w_), (17, [], Value.slice v17.ptr v17.len v17.cap)] (by kernel_rfl) (by kernel_rfl) ?_
      obtain ⟨hp_1, h⟩ := h
      refine reg_conv [(11, [], Value.pointer (some ⟨(pblk w_), (poff w_), none⟩)), (17, [], Value.slice v17.ptr v17.len v17.cap)] (congrArg (fun pp => ([(11, [], Value.pointer pp), (17, [], Value.slice v17.ptr v17.len v17.cap)] : GEnv)) hp_1) ?_
      refine reg_run [.plain] 8 [(11, [], Value.pointer (some ⟨(pblk w_), (poff w_), none⟩)), (17, [], Value.slice v17.ptr v17.len v17.cap), (18, [], Value.pointer (some ⟨(pblk w_), (poff w_), none⟩))] (by kernel_rfl) (by kernel_rfl) ?_
      refine reg_run [.plain] 9 [(17, [], Value.slice v17.ptr v17.len v17.cap), (19, [], Value.pointer (some ⟨(pblk w_), (poff w_) + 1, none⟩))] (by kernel_rfl) (by kernel_rfl) ?_
      obtain ⟨hc, h⟩ := h
      refine reg_store (t := 22) (a := (Go.Operand.tmp 19)) (x := (Go.Operand.tmp 17)) (b := (pblk w_)) (o := ((poff w_) + 1)) (ty := 0) (dst := none) [Value.slice v17.ptr v17.len v17.cap] (by kernel_rfl) (by kernel_rfl) (by kernel_rfl) (k := 1) (by kernel_rfl) (by kernel_rfl) (by kernel_rfl) hc (fun w4 hw => ?_)
      replace h := h w4 hw
      clear hw
      refine reg_end [] (by kernel_rfl) (by kernel_rfl) ?_
      refine retQ_normal ?_
      repeat (first | refine seqQ_ret ?_ | refine blockQ_ret ?_ | refine loopQ_ret ?_ | refine cutQ_ret ?_)
      exact retT (rs := []) (vs := []) (by kernel_rfl) (trivial) (by kernel_rfl) ⟨rfl, h⟩
  · rintro e w' ⟨v, rfl, rfl, h⟩; exact ⟨rfl, h⟩

/-! ### (*towpath/codec.Writer).Fixed (function 70) -/
noncomputable def c_codec_Writer_Fixed_0 : Code := (Try.f70.body).getD Code.skip
noncomputable def c_codec_Writer_Fixed_1 : Code := Code.l c_codec_Writer_Fixed_0
noncomputable def r_codec_Writer_Fixed_1 : Array Oper := Code.ops c_codec_Writer_Fixed_1
noncomputable def c_codec_Writer_Fixed_3 : Code := Code.r c_codec_Writer_Fixed_0
noncomputable def c_codec_Writer_Fixed_4 : Code := Code.l c_codec_Writer_Fixed_3
noncomputable def c_codec_Writer_Fixed_5 : Code := Code.l c_codec_Writer_Fixed_4
noncomputable def c_codec_Writer_Fixed_6 : Code := Code.l c_codec_Writer_Fixed_5
noncomputable def r_codec_Writer_Fixed_6 : Array Oper := Code.ops c_codec_Writer_Fixed_6
noncomputable def c_codec_Writer_Fixed_8 : Code := Code.r c_codec_Writer_Fixed_5
noncomputable def c_codec_Writer_Fixed_9 : Code := Code.l c_codec_Writer_Fixed_8
noncomputable def c_codec_Writer_Fixed_10 : Code := Code.l c_codec_Writer_Fixed_9
noncomputable def r_codec_Writer_Fixed_10 : Array Oper := Code.ops c_codec_Writer_Fixed_10
noncomputable def c_codec_Writer_Fixed_12 : Code := Code.r c_codec_Writer_Fixed_9
noncomputable def c_codec_Writer_Fixed_13 : Code := Code.r c_codec_Writer_Fixed_8
noncomputable def c_codec_Writer_Fixed_14 : Code := Code.l c_codec_Writer_Fixed_13
noncomputable def r_codec_Writer_Fixed_14 : Array Oper := Code.ops c_codec_Writer_Fixed_14
noncomputable def c_codec_Writer_Fixed_16 : Code := Code.r c_codec_Writer_Fixed_13
noncomputable def c_codec_Writer_Fixed_17 : Code := Code.l c_codec_Writer_Fixed_16
noncomputable def c_codec_Writer_Fixed_18 : Code := Code.l c_codec_Writer_Fixed_17
noncomputable def r_codec_Writer_Fixed_18 : Array Oper := Code.ops c_codec_Writer_Fixed_18
noncomputable def c_codec_Writer_Fixed_20 : Code := Code.r c_codec_Writer_Fixed_17
noncomputable def c_codec_Writer_Fixed_21 : Code := Code.r c_codec_Writer_Fixed_16
noncomputable def c_codec_Writer_Fixed_22 : Code := Code.l c_codec_Writer_Fixed_21
noncomputable def r_codec_Writer_Fixed_22 : Array Oper := Code.ops c_codec_Writer_Fixed_22
noncomputable def c_codec_Writer_Fixed_24 : Code := Code.r c_codec_Writer_Fixed_21
noncomputable def c_codec_Writer_Fixed_25 : Code := Code.l c_codec_Writer_Fixed_24
noncomputable def c_codec_Writer_Fixed_26 : Code := Code.l c_codec_Writer_Fixed_25
noncomputable def r_codec_Writer_Fixed_26 : Array Oper := Code.ops c_codec_Writer_Fixed_26
noncomputable def c_codec_Writer_Fixed_28 : Code := Code.r c_codec_Writer_Fixed_25
noncomputable def c_codec_Writer_Fixed_29 : Code := Code.r c_codec_Writer_Fixed_24
noncomputable def c_codec_Writer_Fixed_30 : Code := Code.r c_codec_Writer_Fixed_3
noncomputable def c_codec_Writer_Fixed_31 : Code := Code.l c_codec_Writer_Fixed_30
noncomputable def c_codec_Writer_Fixed_32 : Code := Code.l c_codec_Writer_Fixed_31
noncomputable def r_codec_Writer_Fixed_32 : Array Oper := Code.ops c_codec_Writer_Fixed_32
noncomputable def c_codec_Writer_Fixed_34 : Code := Code.r c_codec_Writer_Fixed_31
noncomputable def c_codec_Writer_Fixed_35 : Code := Code.l c_codec_Writer_Fixed_34
noncomputable def c_codec_Writer_Fixed_36 : Code := Code.l c_codec_Writer_Fixed_35
noncomputable def c_codec_Writer_Fixed_37 : Code := Code.l c_codec_Writer_Fixed_36
noncomputable def r_codec_Writer_Fixed_37 : Array Oper := Code.ops c_codec_Writer_Fixed_37
noncomputable def c_codec_Writer_Fixed_39 : Code := Code.r c_codec_Writer_Fixed_36
noncomputable def c_codec_Writer_Fixed_40 : Code := Code.l c_codec_Writer_Fixed_39
noncomputable def c_codec_Writer_Fixed_41 : Code := Code.l c_codec_Writer_Fixed_40
noncomputable def c_codec_Writer_Fixed_42 : Code := Code.r c_codec_Writer_Fixed_40
noncomputable def c_codec_Writer_Fixed_43 : Code := Code.r c_codec_Writer_Fixed_39
noncomputable def c_codec_Writer_Fixed_44 : Code := Code.l c_codec_Writer_Fixed_43
noncomputable def c_codec_Writer_Fixed_45 : Code := Code.l c_codec_Writer_Fixed_44
noncomputable def c_codec_Writer_Fixed_46 : Code := Code.l c_codec_Writer_Fixed_45
noncomputable def r_codec_Writer_Fixed_46 : Array Oper := Code.ops c_codec_Writer_Fixed_46
noncomputable def c_codec_Writer_Fixed_48 : Code := Code.r c_codec_Writer_Fixed_45
noncomputable def r_codec_Writer_Fixed_48 : Array Oper := Code.ops c_codec_Writer_Fixed_48
noncomputable def c_codec_Writer_Fixed_50 : Code := Code.r c_codec_Writer_Fixed_43
noncomputable def r_codec_Writer_Fixed_50 : Array Oper := Code.ops c_codec_Writer_Fixed_50
noncomputable def c_codec_Writer_Fixed_52 : Code := Code.r c_codec_Writer_Fixed_30
noncomputable def c_codec_Writer_Fixed_53 : Code := Code.l c_codec_Writer_Fixed_52
noncomputable def r_codec_Writer_Fixed_53 : Array Oper := Code.ops c_codec_Writer_Fixed_53
noncomputable def c_codec_Writer_Fixed_55 : Code := Code.r c_codec_Writer_Fixed_52

set_option maxRecDepth 100000 in
set_option maxHeartbeats 4000000 in
theorem S_codec_Writer_Fixed {w_ : Option Addr} {n_ : Int} {width : Int} {w : World} {R : Int → World → Prop} (h : F_codec_Writer_Fixed w_ n_ width R w) : C_codec_Writer_Fixed w_ n_ width w R := by
  unfold F_codec_Writer_Fixed at h
  unfold C_codec_Writer_Fixed
  refine Calls.mono (calls_of_wpE (args := [Value.pointer w_, Value.int .u64 n_, Value.int .i64 width]) (R := fun v w' => ∃ (r0 : Int), v = Value.int .i64 r0 ∧ R r0 w') Try.func70 (c := c_codec_Writer_Fixed_0) (by kernel_rfl) 40 (by kernel_rfl) (by kernel_rfl) [(0, Value.pointer w_), (1, Value.int .u64 n_), (2, Value.int .i64 width)] (by kernel_rfl) ?_) ?_
  · refine wpE_seq (x := c_codec_Writer_Fixed_1) (y := c_codec_Writer_Fixed_3) (by kernel_rfl) ?_
    refine wpE_region (id := 0) (ops := r_codec_Writer_Fixed_1) (by kernel_rfl) ?_
    refine reg_run [.plain] 1 [(0, [], Value.pointer w_), (1, [], Value.int .u64 n_), (2, [], Value.int .i64 width)] (by kernel_rfl) (by kernel_rfl) ?_
    refine reg_end [(0, Value.pointer w_), (1, Value.int .u64 n_), (2, Value.int .i64 width)] (by kernel_rfl) (by kernel_rfl) ?_
    change WpE _ _ c_codec_Writer_Fixed_3 _ _ _
    refine wpE_seq (x := c_codec_Writer_Fixed_4) (y := c_codec_Writer_Fixed_30) (by kernel_rfl) ?_
    refine wpE_block (id := 0) (x := c_codec_Writer_Fixed_5) (by kernel_rfl) ?_
    refine wpE_seq (x := c_codec_Writer_Fixed_6) (y := c_codec_Writer_Fixed_8) (by kernel_rfl) ?_
    refine wpE_region (id := 1) (ops := r_codec_Writer_Fixed_6) (by kernel_rfl) ?_
    refine reg_run [.plain] 1 [(0, [], Value.pointer w_), (1, [], Value.int .u64 n_), (2, [], Value.int .i64 width), (8, [], Value.pointer w_)] (by kernel_rfl) (by kernel_rfl) ?_
    refine reg_enter (op := (Go.Op.call (Go.Call.mk (Go.Callee.value (Go.Operand.func 90)) #[(Go.Operand.tmp 8)] #[116]))) (ty := 4) (dst := some 9) 90 #[Value.pointer w_] (by kernel_rfl) (fun ww => by kernel_rfl) (Calls.mono h ?_)
    rintro _ w1 ⟨v9, rfl, h⟩
    refine ⟨_, rfl, ?_⟩
    refine reg_run [.plain] 3 [(0, [], Value.pointer w_), (1, [], Value.int .u64 n_), (2, [], Value.int .i64 width), (7, [], Value.bool v9)] (by kernel_rfl) (by kernel_rfl) ?_
    refine reg_end [(0, Value.pointer w_), (1, Value.int .u64 n_), (2, Value.int .i64 width), (7, Value.bool v9)] (by kernel_rfl) (by kernel_rfl) ?_
    change WpE _ _ c_codec_Writer_Fixed_8 _ _ _
    refine wpE_cond (o := (Operand.tmp 7)) (b := v9) (x := c_codec_Writer_Fixed_9) (y := c_codec_Writer_Fixed_13) (by kernel_rfl) (by kernel_rfl) (fun hb => ?_) (fun hb => ?_)
    · replace h := h.1 hb
      refine wpE_seq (x := c_codec_Writer_Fixed_10) (y := c_codec_Writer_Fixed_12) (by kernel_rfl) ?_
      refine wpE_region (id := 2) (ops := r_codec_Writer_Fixed_10) (by kernel_rfl) ?_
      refine reg_run [.plain] 1 [(6, [], Value.int .i64 2)] (by kernel_rfl) (by kernel_rfl) ?_
      refine reg_end [(6, Value.int .i64 2)] (by kernel_rfl) (by kernel_rfl) ?_
      change WpE _ _ c_codec_Writer_Fixed_12 _ _ _
      refine wpE_ret (by kernel_rfl) ?_
      repeat (first | refine seqQ_ret ?_ | refine blockQ_ret ?_ | refine loopQ_ret ?_ | refine cutQ_ret ?_)
      exact retS (rs := [(Go.ResultVar.tmp 6)]) (v := Value.int .i64 2) (by kernel_rfl) (⟨by kernel_rfl, trivial⟩) ⟨2, rfl, h⟩
    · replace h := h.2 hb
      refine wpE_seq (x := c_codec_Writer_Fixed_14) (y := c_codec_Writer_Fixed_16) (by kernel_rfl) ?_
      refine wpE_region (id := 3) (ops := r_codec_Writer_Fixed_14) (by kernel_rfl) ?_
      refine reg_run [.plain, .plain, .plain, .plain, .plain, .pick, .plain] 7 [(0, [], Value.pointer w_), (1, [], Value.int .u64 n_), (2, [], Value.int .i64 width), (10, [], Value.bool ((decide (width < 1)) || (decide (width > 8))))] (by kernel_rfl) (by kernel_rfl) ?_
      refine reg_end [(0, Value.pointer w_), (1, Value.int .u64 n_), (2, Value.int .i64 width), (10, Value.bool ((decide (width < 1)) || (decide (width > 8))))] (by kernel_rfl) (by kernel_rfl) ?_
      change WpE _ _ c_codec_Writer_Fixed_16 _ _ _
      refine wpE_cond (o := (Operand.tmp 10)) (b := ((decide (width < 1)) || (decide (width > 8)))) (x := c_codec_Writer_Fixed_17) (y := c_codec_Writer_Fixed_21) (by kernel_rfl) (by kernel_rfl) (fun hb => ?_) (fun hb => ?_)
      · replace h := h.1 hb
        refine wpE_seq (x := c_codec_Writer_Fixed_18) (y := c_codec_Writer_Fixed_20) (by kernel_rfl) ?_
        refine wpE_region (id := 4) (ops := r_codec_Writer_Fixed_18) (by kernel_rfl) ?_
        refine reg_run [.plain] 1 [(6, [], Value.int .i64 1)] (by kernel_rfl) (by kernel_rfl) ?_
        refine reg_end [(6, Value.int .i64 1)] (by kernel_rfl) (by kernel_rfl) ?_
        change WpE _ _ c_codec_Writer_Fixed_20 _ _ _
        refine wpE_ret (by kernel_rfl) ?_
        repeat (first | refine seqQ_ret ?_ | refine blockQ_ret ?_ | refine loopQ_ret ?_ | refine cutQ_ret ?_)
        exact retS (rs := [(Go.ResultVar.tmp 6)]) (v := Value.int .i64 1) (by kernel_rfl) (⟨by kernel_rfl, trivial⟩) ⟨1, rfl, h⟩
      · replace h := h.2 hb
        refine wpE_seq (x := c_codec_Writer_Fixed_22) (y := c_codec_Writer_Fixed_24) (by kernel_rfl) ?_
        refine wpE_region (id := 5) (ops := r_codec_Writer_Fixed_22) (by kernel_rfl) ?_
        refine reg_run [.plain, .plain, .plain] 3 [(0, [], Value.pointer w_), (1, [], Value.int .u64 n_), (2, [], Value.int .i64 width), (18, [], Value.int .u64 n_), (20, [], Value.int .i64 (IntKind.i64.wrap (8 * width)))] (by kernel_rfl) (by kernel_rfl) ?_
        obtain ⟨h0, h⟩ := h
        refine reg_val (op := (Go.Op.binOp Go.BinOp.shr 84 (Go.Operand.tmp 18) (Go.Operand.tmp 20) 3)) (ty := 84) (dst := some 21) (Value.int .u64 (Int.fdiv n_ (2 ^ (min (IntKind.i64.wrap (8 * width)).toNat 64)))) (by kernel_rfl) (fun ww => run_shr (k' := .i64) (by kernel_rfl) (by kernel_rfl) (by kernel_rfl) h0 ww) ?_
        refine reg_run [.plain, .plain] 6 [(0, [], Value.pointer w_), (1, [], Value.int .u64 n_), (2, [], Value.int .i64 width), (17, [], Value.bool ((Int.fdiv n_ (2 ^ (min (IntKind.i64.wrap (8 * width)).toNat 64))) != 0))] (by kernel_rfl) (by kernel_rfl) ?_
        refine reg_end [(0, Value.pointer w_), (1, Value.int .u64 n_), (2, Value.int .i64 width), (17, Value.bool ((Int.fdiv n_ (2 ^ (min (IntKind.i64.wrap (8 * width)).toNat 64))) != 0))] (by kernel_rfl) (by kernel_rfl) ?_
        change WpE _ _ c_codec_Writer_Fixed_24 _ _ _
        refine wpE_cond (o := (Operand.tmp 17)) (b := ((Int.fdiv n_ (2 ^ (min (IntKind.i64.wrap (8 * width)).toNat 64))) != 0)) (x := c_codec_Writer_Fixed_25) (y := c_codec_Writer_Fixed_29) (by kernel_rfl) (by kernel_rfl) (fun hb => ?_) (fun hb => ?_)
        · replace h := h.1 hb
          refine wpE_seq (x := c_codec_Writer_Fixed_26) (y := c_codec_Writer_Fixed_28) (by kernel_rfl) ?_
          refine wpE_region (id := 6) (ops := r_codec_Writer_Fixed_26) (by kernel_rfl) ?_
          refine reg_run [.plain] 1 [(6, [], Value.int .i64 3)] (by kernel_rfl) (by kernel_rfl) ?_
          refine reg_end [(6, Value.int .i64 3)] (by kernel_rfl) (by kernel_rfl) ?_
          change WpE _ _ c_codec_Writer_Fixed_28 _ _ _
          refine wpE_ret (by kernel_rfl) ?_
          repeat (first | refine seqQ_ret ?_ | refine blockQ_ret ?_ | refine loopQ_ret ?_ | refine cutQ_ret ?_)
          exact retS (rs := [(Go.ResultVar.tmp 6)]) (v := Value.int .i64 3) (by kernel_rfl) (⟨by kernel_rfl, trivial⟩) ⟨3, rfl, h⟩
        · replace h := h.2 hb
          refine wpE_skip (by kernel_rfl) ?_
          change WpE _ _ c_codec_Writer_Fixed_30 _ _ _
          refine wpE_seq (x := c_codec_Writer_Fixed_31) (y := c_codec_Writer_Fixed_52) (by kernel_rfl) ?_
          refine wpE_seq (x := c_codec_Writer_Fixed_32) (y := c_codec_Writer_Fixed_34) (by kernel_rfl) ?_
          refine wpE_region (id := 7) (ops := r_codec_Writer_Fixed_32) (by kernel_rfl) ?_
          refine reg_run [.plain, .plain] 2 [(0, [], Value.pointer w_), (1, [], Value.int .u64 n_), (23, [], Value.int .i64 width), (24, [], Value.int .i64 0)] (by kernel_rfl) (by kernel_rfl) ?_
          refine reg_end [(0, Value.pointer w_), (1, Value.int .u64 n_), (23, Value.int .i64 width), (24, Value.int .i64 0)] (by kernel_rfl) (by kernel_rfl) ?_
          change WpE _ _ c_codec_Writer_Fixed_34 _ _ _
          refine wpE_block (id := 1) (x := c_codec_Writer_Fixed_35) (by kernel_rfl) ?_
          obtain ⟨I, μ, h0, hr⟩ := h
          refine wpE_loop (x := c_codec_Writer_Fixed_36) (by kernel_rfl) (fun m l w => ∃ (n_1 : Int) (t24 : Int), l = [(0, Value.pointer w_), (1, Value.int .u64 n_1), (23, Value.int .i64 width), (24, Value.int .i64 t24)] ∧ I n_1 t24 w ∧ μ n_1 t24 w = m) (l' := [(0, Value.pointer w_), (1, Value.int .u64 n_), (23, Value.int .i64 width), (24, Value.int .i64 0)]) (Sub.mk (by kernel_rfl)) ⟨n_, 0, rfl, h0, rfl⟩ ?_
          rintro _ _ w2 ⟨n_1, t24, rfl, hI, rfl⟩
          obtain ⟨again_, again__h, h⟩ : ∃ again_ : Int → Int → World → Prop, (∀ n_1' t24' w', again_ n_1' t24' w' → I n_1' t24' w' ∧ μ n_1' t24' w' < μ n_1 t24 w2) ∧ F_codec_Writer_Fixed_L0 w_ width R again_ n_1 t24 w2 := ⟨_, fun _ _ _ h => h, hr n_1 t24 w2 hI⟩
          clear h0 hI
          unfold F_codec_Writer_Fixed_L0 at h
          refine wpE_seq (x := c_codec_Writer_Fixed_37) (y := c_codec_Writer_Fixed_39) (by kernel_rfl) ?_
          refine wpE_region (id := 8) (ops := r_codec_Writer_Fixed_37) (by kernel_rfl) ?_
          refine reg_run [.plain] 1 [(0, [], Value.pointer w_), (1, [], Value.int .u64 n_1), (23, [], Value.int .i64 width), (24, [], Value.int .i64 t24), (25, [], Value.bool (decide (t24 < width)))] (by kernel_rfl) (by kernel_rfl) ?_
          refine reg_end [(0, Value.pointer w_), (1, Value.int .u64 n_1), (23, Value.int .i64 width), (24, Value.int .i64 t24), (25, Value.bool (decide (t24 < width)))] (by kernel_rfl) (by kernel_rfl) ?_
          change WpE _ _ c_codec_Writer_Fixed_39 _ _ _
          refine wpE_seq (x := c_codec_Writer_Fixed_40) (y := c_codec_Writer_Fixed_43) (by kernel_rfl) ?_
          refine wpE_cond (o := (Operand.tmp 25)) (b := (decide (t24 < width))) (x := c_codec_Writer_Fixed_41) (y := c_codec_Writer_Fixed_42) (by kernel_rfl) (by kernel_rfl) (fun hb => ?_) (fun hb => ?_)
          · replace h := h.1 hb
            refine wpE_skip (by kernel_rfl) ?_
            change WpE _ _ c_codec_Writer_Fixed_43 _ _ _
            refine wpE_seq (x := c_codec_Writer_Fixed_44) (y := c_codec_Writer_Fixed_50) (by kernel_rfl) ?_
            refine wpE_block (id := 2) (x := c_codec_Writer_Fixed_45) (by kernel_rfl) ?_
            refine wpE_seq (x := c_codec_Writer_Fixed_46) (y := c_codec_Writer_Fixed_48) (by kernel_rfl) ?_
            refine wpE_region (id := 9) (ops := r_codec_Writer_Fixed_46) (by kernel_rfl) ?_
            refine reg_run [.plain, .plain] 2 [(0, [], Value.pointer w_), (1, [], Value.int .u64 n_1), (23, [], Value.int .i64 width), (24, [], Value.int .i64 t24), (26, [], Value.pointer w_), (27, [], Value.pointer w_)] (by kernel_rfl) (by kernel_rfl) ?_
            obtain ⟨hp_14, h⟩ := h
            refine reg_conv [(0, [], Value.pointer w_), (1, [], Value.int .u64 n_1), (23, [], Value.int .i64 width), (24, [], Value.int .i64 t24), (26, [], Value.pointer w_), (27, [], Value.pointer (some ⟨(pblk w_), (poff w_), none⟩))] (congrArg (fun pp => ([(0, [], Value.pointer w_), (1, [], Value.int .u64 n_1), (23, [], Value.int .i64 width), (24, [], Value.int .i64 t24), (26, [], Value.pointer w_), (27, [], Value.pointer pp)] : GEnv)) hp_14) ?_
            refine reg_run [.plain] 3 [(0, [], Value.pointer w_), (1, [], Value.int .u64 n_1), (23, [], Value.int .i64 width), (24, [], Value.int .i64 t24), (26, [], Value.pointer w_), (27, [], Value.pointer (some ⟨(pblk w_), (poff w_), none⟩)), (28, [], Value.pointer (some ⟨(pblk w_), (poff w_), none⟩))] (by kernel_rfl) (by kernel_rfl) ?_
            refine reg_run [.plain] 4 [(0, [], Value.pointer w_), (1, [], Value.int .u64 n_1), (23, [], Value.int .i64 width), (24, [], Value.int .i64 t24), (26, [], Value.pointer w_), (29, [], Value.pointer (some ⟨(pblk w_), (poff w_) + 1, none⟩))] (by kernel_rfl) (by kernel_rfl) ?_
            obtain ⟨v30, hc, h⟩ := h
            refine reg_load1 (t := 22) (a := (Go.Operand.tmp 29)) (b := (pblk w_)) (o := ((poff w_) + 1)) (ty := 22) (dst := some 30) (by kernel_rfl) (by kernel_rfl) (by kernel_rfl) hc ?_
            refine reg_run [.plain, .plain] 7 [(0, [], Value.pointer w_), (1, [], Value.int .u64 n_1), (23, [], Value.int .i64 width), (24, [], Value.int .i64 t24), (26, [], Value.pointer w_), (30, [], Value.slice v30.ptr v30.len v30.cap), (32, [], Value.int .u8 (IntKind.u8.wrap n_1))] (by kernel_rfl) (by kernel_rfl) ?_
            refine reg_new (op := (Go.Op.buildSlice 22 1 #[(0, (Go.Operand.tmp 32))])) (ty := 22) (dst := some 33) (fun bb => Value.slice (some ⟨bb, 0, none⟩) 1 1) (Obj.cells ([Value.int .u8 (IntKind.u8.wrap n_1)]).toArray ty_uint8 (0, 0)) (by kernel_rfl) (by kernel_rfl) (fun b_ w3 hb hw => ?_)
            replace h := h b_ w3 hb hw
            clear hb hw
            refine reg_run [] 8 [(0, [], Value.pointer w_), (1, [], Value.int .u64 n_1), (23, [], Value.int .i64 width), (24, [], Value.int .i64 t24), (26, [], Value.pointer w_), (30, [], Value.slice v30.ptr v30.len v30.cap), (33, [], Value.slice (some ⟨b_, 0, none⟩) 1 1)] (by kernel_rfl) (by kernel_rfl) ?_
            obtain ⟨src, hs, h⟩ := h
            refine reg_append (t := 22) (tx := 22) (e := 5) (a := (Go.Operand.tmp 30)) (xo := (Go.Operand.tmp 33)) (s := v30) (x := (Slc.mk (some ⟨b_, 0, none⟩) 1 1)) (sz := 1) (by_ := 1) (zs := [Value.int .u8 0]) (ty := 22) (dst := some 34)  src (by kernel_rfl) (by kernel_rfl) (by kernel_rfl) (by kernel_rfl) (by kernel_rfl) (by kernel_rfl) (by kernel_rfl) (by kernel_rfl) (by kernel_rfl) hs (AppendW.mono h (fun v34 w4 h => ?_))
            refine reg_run [] 9 [(0, [], Value.pointer w_), (1, [], Value.int .u64 n_1), (23, [], Value.int .i64 width), (24, [], Value.int .i64 t24), (26, [], Value.pointer w_), (34, [], Value.slice v34.ptr v34.len v34.cap)] (by kernel_rfl) (by kernel_rfl) ?_
            obtain ⟨hp_15, h⟩ := h
            refine reg_conv [(0, [], Value.pointer w_), (1, [], Value.int .u64 n_1), (23, [], Value.int .i64 width), (24, [], Value.int .i64 t24), (26, [], Value.pointer (some ⟨(pblk w_), (poff w_), none⟩)), (34, [], Value.slice v34.ptr v34.len v34.cap)] (congrArg (fun pp => ([(0, [], Value.pointer w_), (1, [], Value.int .u64 n_1), (23, [], Value.int .i64 width), (24, [], Value.int .i64 t24), (26, [], Value.pointer pp), (34, [], Value.slice v34.ptr v34.len v34.cap)] : GEnv)) hp_15) ?_
            refine reg_run [.plain] 10 [(0, [], Value.pointer w_), (1, [], Value.int .u64 n_1), (23, [], Value.int .i64 width), (24, [], Value.int .i64 t24), (26, [], Value.pointer (some ⟨(pblk w_), (poff w_), none⟩)), (34, [], Value.slice v34.ptr v34.len v34.cap), (35, [], Value.pointer (some ⟨(pblk w_), (poff w_), none⟩))] (by kernel_rfl) (by kernel_rfl) ?_
            refine reg_run [.plain] 11 [(0, [], Value.pointer w_), (1, [], Value.int .u64 n_1), (23, [], Value.int .i64 width), (24, [], Value.int .i64 t24), (34, [], Value.slice v34.ptr v34.len v34.cap), (36, [], Value.pointer (some ⟨(pblk w_), (poff w_) + 1, none⟩))] (by kernel_rfl) (by kernel_rfl) ?_
            obtain ⟨hc, h⟩ := h
            refine reg_store (t := 22) (a := (Go.Operand.tmp 36)) (x := (Go.Operand.tmp 34)) (b := (pblk w_)) (o := ((poff w_) + 1)) (ty := 0) (dst := none) [Value.slice v34.ptr v34.len v34.cap] (by kernel_rfl) (by kernel_rfl) (by kernel_rfl) (k := 1) (by kernel_rfl) (by kernel_rfl) (by kernel_rfl) hc (fun w5 hw => ?_)
            replace h := h w5 hw
            clear hw
            refine reg_end [(0, Value.pointer w_), (1, Value.int .u64 n_1), (23, Value.int .i64 width), (24, Value.int .i64 t24)] (by kernel_rfl) (by kernel_rfl) ?_
            change WpE _ _ c_codec_Writer_Fixed_48 _ _ _
            refine wpE_region (id := 10) (ops := r_codec_Writer_Fixed_48) (by kernel_rfl) ?_
            refine reg_run [.plain, .plain, .plain] 3 [(0, [], Value.pointer w_), (1, [], Value.int .u64 (Int.fdiv n_1 (2 ^ 8))), (23, [], Value.int .i64 width), (24, [], Value.int .i64 t24)] (by kernel_rfl) (by kernel_rfl) ?_
            refine reg_end [(0, Value.pointer w_), (1, Value.int .u64 (Int.fdiv n_1 (2 ^ 8))), (23, Value.int .i64 width), (24, Value.int .i64 t24)] (by kernel_rfl) (by kernel_rfl) ?_
            change WpE _ _ c_codec_Writer_Fixed_50 _ _ _
            refine wpE_region (id := 11) (ops := r_codec_Writer_Fixed_50) (by kernel_rfl) ?_
            refine reg_run [.plain, .plain] 2 [(0, [], Value.pointer w_), (1, [], Value.int .u64 (Int.fdiv n_1 (2 ^ 8))), (23, [], Value.int .i64 width), (24, [], Value.int .i64 (IntKind.i64.wrap (t24 + 1)))] (by kernel_rfl) (by kernel_rfl) ?_
            refine reg_end [(0, Value.pointer w_), (1, Value.int .u64 (Int.fdiv n_1 (2 ^ 8))), (23, Value.int .i64 width), (24, Value.int .i64 (IntKind.i64.wrap (t24 + 1)))] (by kernel_rfl) (by kernel_rfl) ?_
            have hb_ := again__h _ _ _ h
            exact ⟨_, hb_.2, [(0, Value.pointer w_), (1, Value.int .u64 (Int.fdiv n_1 (2 ^ 8))), (23, Value.int .i64 width), (24, Value.int .i64 (IntKind.i64.wrap (t24 + 1)))], Sub.mk (by kernel_rfl), (Int.fdiv n_1 (2 ^ 8)), (IntKind.i64.wrap (t24 + 1)), rfl, hb_.1, rfl⟩
          · replace h := h.2 hb
            refine wpE_exit (id := 1) (by kernel_rfl) ?_
            change WpE _ _ c_codec_Writer_Fixed_52 _ _ _
            refine wpE_seq (x := c_codec_Writer_Fixed_53) (y := c_codec_Writer_Fixed_55) (by kernel_rfl) ?_
            refine wpE_region (id := 12) (ops := r_codec_Writer_Fixed_53) (by kernel_rfl) ?_
            refine reg_run [.plain] 1 [(6, [], Value.int .i64 0)] (by kernel_rfl) (by kernel_rfl) ?_
            refine reg_end [(6, Value.int .i64 0)] (by kernel_rfl) (by kernel_rfl) ?_
            change WpE _ _ c_codec_Writer_Fixed_55 _ _ _
            refine wpE_ret (by kernel_rfl) ?_
            repeat (first | refine seqQ_ret ?_ | refine blockQ_ret ?_ | refine loopQ_ret ?_ | refine cutQ_ret ?_)
            exact retS (rs := [(Go.ResultVar.tmp 6)]) (v := Value.int .i64 0) (by kernel_rfl) (⟨by kernel_rfl, trivial⟩) ⟨0, rfl, h⟩
  · rintro e w' ⟨v, rfl, r0, rfl, h⟩; exact ⟨r0, rfl, h⟩

/-! ### (*towpath/codec.Writer).Done (function 71) -/
noncomputable def c_codec_Writer_Done_0 : Code := (Try.f71.body).getD Code.skip
noncomputable def c_codec_Writer_Done_1 : Code := Code.l c_codec_Writer_Done_0
noncomputable def r_codec_Writer_Done_1 : Array Oper := Code.ops c_codec_Writer_Done_1
noncomputable def c_codec_Writer_Done_3 : Code := Code.r c_codec_Writer_Done_0
noncomputable def c_codec_Writer_Done_4 : Code := Code.l c_codec_Writer_Done_3
noncomputable def c_codec_Writer_Done_5 : Code := Code.l c_codec_Writer_Done_4
noncomputable def r_codec_Writer_Done_5 : Array Oper := Code.ops c_codec_Writer_Done_5
noncomputable def c_codec_Writer_Done_7 : Code := Code.r c_codec_Writer_Done_4
noncomputable def c_codec_Writer_Done_8 : Code := Code.l c_codec_Writer_Done_7
noncomputable def c_codec_Writer_Done_9 : Code := Code.l c_codec_Writer_Done_8
noncomputable def r_codec_Writer_Done_9 : Array Oper := Code.ops c_codec_Writer_Done_9
noncomputable def c_codec_Writer_Done_11 : Code := Code.r c_codec_Writer_Done_8
noncomputable def c_codec_Writer_Done_12 : Code := Code.r c_codec_Writer_Done_7
noncomputable def c_codec_Writer_Done_13 : Code := Code.r c_codec_Writer_Done_3
noncomputable def c_codec_Writer_Done_14 : Code := Code.l c_codec_Writer_Done_13
noncomputable def r_codec_Writer_Done_14 : Array Oper := Code.ops c_codec_Writer_Done_14
noncomputable def c_codec_Writer_Done_16 : Code := Code.r c_codec_Writer_Done_13

set_option maxRecDepth 100000 in
set_option maxHeartbeats 4000000 in
theorem S_codec_Writer_Done {w_ : Option Addr} {w : World} {R : Slc → World → Prop} (h : F_codec_Writer_Done w_ R w) : C_codec_Writer_Done w_ w R := by
  unfold F_codec_Writer_Done at h
  unfold C_codec_Writer_Done
  refine Calls.mono (calls_of_wpE (args := [Value.pointer w_]) (R := fun v w' => ∃ (r0 : Slc), v = Value.slice r0.ptr r0.len r0.cap ∧ R r0 w') Try.func71 (c := c_codec_Writer_Done_0) (by kernel_rfl) 10 (by kernel_rfl) (by kernel_rfl) [(0, Value.pointer w_)] (by kernel_rfl) ?_) ?_
  · refine wpE_seq (x := c_codec_Writer_Done_1) (y := c_codec_Writer_Done_3) (by kernel_rfl) ?_
    refine wpE_region (id := 0) (ops := r_codec_Writer_Done_1) (by kernel_rfl) ?_
    refine reg_run [.plain] 1 [(0, [], Value.pointer w_)] (by kernel_rfl) (by kernel_rfl) ?_
    refine reg_end [(0, Value.pointer w_)] (by kernel_rfl) (by kernel_rfl) ?_
    change WpE _ _ c_codec_Writer_Done_3 _ _ _
    refine wpE_seq (x := c_codec_Writer_Done_4) (y := c_codec_Writer_Done_13) (by kernel_rfl) ?_
    refine wpE_seq (x := c_codec_Writer_Done_5) (y := c_codec_Writer_Done_7) (by kernel_rfl) ?_
    refine wpE_region (id := 1) (ops := r_codec_Writer_Done_5) (by kernel_rfl) ?_
    refine reg_run [.plain] 1 [(0, [], Value.pointer w_), (3, [], Value.pointer w_)] (by kernel_rfl) (by kernel_rfl) ?_
    refine reg_enter (op := (Go.Op.call (Go.Call.mk (Go.Callee.value (Go.Operand.func 90)) #[(Go.Operand.tmp 3)] #[116]))) (ty := 4) (dst := some 4) 90 #[Value.pointer w_] (by kernel_rfl) (fun ww => by kernel_rfl) (Calls.mono h ?_)
    rintro _ w1 ⟨v4, rfl, h⟩
    refine ⟨_, rfl, ?_⟩
    refine reg_end [(0, Value.pointer w_), (4, Value.bool v4)] (by kernel_rfl) (by kernel_rfl) ?_
    change WpE _ _ c_codec_Writer_Done_7 _ _ _
    refine wpE_cond (o := (Operand.tmp 4)) (b := v4) (x := c_codec_Writer_Done_8) (y := c_codec_Writer_Done_12) (by kernel_rfl) (by kernel_rfl) (fun hb => ?_) (fun hb => ?_)
    · replace h := h.1 hb
      refine wpE_seq (x := c_codec_Writer_Done_9) (y := c_codec_Writer_Done_11) (by kernel_rfl) ?_
      refine wpE_region (id := 2) (ops := r_codec_Writer_Done_9) (by kernel_rfl) ?_
      refine reg_run [.plain] 1 [(2, [], Value.slice none 0 0)] (by kernel_rfl) (by kernel_rfl) ?_
      refine reg_end [(2, Value.slice none 0 0)] (by kernel_rfl) (by kernel_rfl) ?_
      change WpE _ _ c_codec_Writer_Done_11 _ _ _
      refine wpE_ret (by kernel_rfl) ?_
      repeat (first | refine seqQ_ret ?_ | refine blockQ_ret ?_ | refine loopQ_ret ?_ | refine cutQ_ret ?_)
      exact retS (rs := [(Go.ResultVar.tmp 2)]) (v := Value.slice none 0 0) (by kernel_rfl) (⟨by kernel_rfl, trivial⟩) ⟨(Slc.mk none 0 0), rfl, h⟩
    · replace h := h.2 hb
      refine wpE_skip (by kernel_rfl) ?_
      change WpE _ _ c_codec_Writer_Done_13 _ _ _
      refine wpE_seq (x := c_codec_Writer_Done_14) (y := c_codec_Writer_Done_16) (by kernel_rfl) ?_
      refine wpE_region (id := 3) (ops := r_codec_Writer_Done_14) (by kernel_rfl) ?_
      refine reg_run [.plain] 1 [(5, [], Value.pointer w_)] (by kernel_rfl) (by kernel_rfl) ?_
      obtain ⟨hp_0, h⟩ := h
      refine reg_conv [(5, [], Value.pointer (some ⟨(pblk w_), (poff w_), none⟩))] (congrArg (fun pp => ([(5, [], Value.pointer pp)] : GEnv)) hp_0) ?_
      refine reg_run [.plain] 2 [(5, [], Value.pointer (some ⟨(pblk w_), (poff w_), none⟩)), (6, [], Value.pointer (some ⟨(pblk w_), (poff w_), none⟩))] (by kernel_rfl) (by kernel_rfl) ?_
      refine reg_run [.plain] 3 [(7, [], Value.pointer (some ⟨(pblk w_), (poff w_) + 1, none⟩))] (by kernel_rfl) (by kernel_rfl) ?_
      obtain ⟨v8, hc, h⟩ := h
      refine reg_load1 (t := 22) (a := (Go.Operand.tmp 7)) (b := (pblk w_)) (o := ((poff w_) + 1)) (ty := 22) (dst := some 8) (by kernel_rfl) (by kernel_rfl) (by kernel_rfl) hc ?_
      refine reg_run [] 4 [(8, [], Value.slice v8.ptr v8.len v8.cap)] (by kernel_rfl) (by kernel_rfl) ?_
      refine reg_enter (op := (Go.Op.call (Go.Call.mk (Go.Callee.value (Go.Operand.func 72)) #[(Go.Operand.tmp 8)] #[22]))) (ty := 22) (dst := some 9) 72 #[Value.slice v8.ptr v8.len v8.cap] (by kernel_rfl) (fun ww => by kernel_rfl) (Calls.mono h ?_)
      rintro _ w2 ⟨v9, rfl, h⟩
      refine ⟨_, rfl, ?_⟩
      refine reg_run [.plain] 6 [(2, [], Value.slice v9.ptr v9.len v9.cap)] (by kernel_rfl) (by kernel_rfl) ?_
      refine reg_end [(2, Value.slice v9.ptr v9.len v9.cap)] (by kernel_rfl) (by kernel_rfl) ?_
      change WpE _ _ c_codec_Writer_Done_16 _ _ _
      refine wpE_ret (by kernel_rfl) ?_
      repeat (first | refine seqQ_ret ?_ | refine blockQ_ret ?_ | refine loopQ_ret ?_ | refine cutQ_ret ?_)
      exact retS (rs := [(Go.ResultVar.tmp 2)]) (v := Value.slice v9.ptr v9.len v9.cap) (by kernel_rfl) (⟨by kernel_rfl, trivial⟩) ⟨v9, rfl, h⟩
  · rintro e w' ⟨v, rfl, r0, rfl, h⟩; exact ⟨r0, rfl, h⟩

/-! ### (*towpath/codec.Reader).take (function 73) -/
noncomputable def c_codec_Reader_take_0 : Code := (Try.f73.body).getD Code.skip
noncomputable def c_codec_Reader_take_1 : Code := Code.l c_codec_Reader_take_0
noncomputable def r_codec_Reader_take_1 : Array Oper := Code.ops c_codec_Reader_take_1
noncomputable def c_codec_Reader_take_3 : Code := Code.r c_codec_Reader_take_0
noncomputable def c_codec_Reader_take_4 : Code := Code.l c_codec_Reader_take_3
noncomputable def c_codec_Reader_take_5 : Code := Code.l c_codec_Reader_take_4
noncomputable def r_codec_Reader_take_5 : Array Oper := Code.ops c_codec_Reader_take_5
noncomputable def c_codec_Reader_take_7 : Code := Code.r c_codec_Reader_take_4
noncomputable def c_codec_Reader_take_8 : Code := Code.l c_codec_Reader_take_7
noncomputable def c_codec_Reader_take_9 : Code := Code.l c_codec_Reader_take_8
noncomputable def r_codec_Reader_take_9 : Array Oper := Code.ops c_codec_Reader_take_9
noncomputable def c_codec_Reader_take_11 : Code := Code.r c_codec_Reader_take_8
noncomputable def c_codec_Reader_take_12 : Code := Code.r c_codec_Reader_take_7
noncomputable def c_codec_Reader_take_13 : Code := Code.r c_codec_Reader_take_3
noncomputable def c_codec_Reader_take_14 : Code := Code.l c_codec_Reader_take_13
noncomputable def r_codec_Reader_take_14 : Array Oper := Code.ops c_codec_Reader_take_14
noncomputable def c_codec_Reader_take_16 : Code := Code.r c_codec_Reader_take_13
noncomputable def c_codec_Reader_take_17 : Code := Code.l c_codec_Reader_take_16
noncomputable def c_codec_Reader_take_18 : Code := Code.l c_codec_Reader_take_17
noncomputable def r_codec_Reader_take_18 : Array Oper := Code.ops c_codec_Reader_take_18
noncomputable def c_codec_Reader_take_20 : Code := Code.r c_codec_Reader_take_17
noncomputable def c_codec_Reader_take_21 : Code := Code.l c_codec_Reader_take_20
noncomputable def c_codec_Reader_take_22 : Code := Code.l c_codec_Reader_take_21
noncomputable def r_codec_Reader_take_22 : Array Oper := Code.ops c_codec_Reader_take_22
noncomputable def c_codec_Reader_take_24 : Code := Code.r c_codec_Reader_take_21
noncomputable def c_codec_Reader_take_25 : Code := Code.l c_codec_Reader_take_24
noncomputable def r_codec_Reader_take_25 : Array Oper := Code.ops c_codec_Reader_take_25
noncomputable def c_codec_Reader_take_27 : Code := Code.r c_codec_Reader_take_24
noncomputable def c_codec_Reader_take_28 : Code := Code.r c_codec_Reader_take_20
noncomputable def c_codec_Reader_take_29 : Code := Code.r c_codec_Reader_take_16
noncomputable def c_codec_Reader_take_30 : Code := Code.l c_codec_Reader_take_29
noncomputable def r_codec_Reader_take_30 : Array Oper := Code.ops c_codec_Reader_take_30
noncomputable def c_codec_Reader_take_32 : Code := Code.r c_codec_Reader_take_29
noncomputable def c_codec_Reader_take_33 : Code := Code.l c_codec_Reader_take_32
noncomputable def r_codec_Reader_take_33 : Array Oper := Code.ops c_codec_Reader_take_33
noncomputable def c_codec_Reader_take_35 : Code := Code.r c_codec_Reader_take_32

set_option maxRecDepth 100000 in
set_option maxHeartbeats 4000000 in
theorem S_codec_Reader_take {r : Option Addr} {next : Value} {w : World} {R : Bool → World → Prop} (h : F_codec_Reader_take r next R w) : C_codec_Reader_take r next w R := by
  unfold F_codec_Reader_take at h
  unfold C_codec_Reader_take
  refine Calls.mono (calls_of_wpE (args := [Value.pointer r, next]) (R := fun v w' => ∃ (r0 : Bool), v = Value.bool r0 ∧ R r0 w') Try.func73 (c := c_codec_Reader_take_0) (by kernel_rfl) 57 (by kernel_rfl) (by kernel_rfl) [(0, Value.pointer r), (1, next)] (by kernel_rfl) ?_) ?_
  · refine wpE_seq (x := c_codec_Reader_take_1) (y := c_codec_Reader_take_3) (by kernel_rfl) ?_
    refine wpE_region (id := 0) (ops := r_codec_Reader_take_1) (by kernel_rfl) ?_
    refine reg_run [.plain] 1 [(0, [], Value.pointer r), (1, [], next)] (by kernel_rfl) (by kernel_rfl) ?_
    refine reg_end [(0, Value.pointer r), (1, next)] (by kernel_rfl) (by kernel_rfl) ?_
    change WpE _ _ c_codec_Reader_take_3 _ _ _
    refine wpE_seq (x := c_codec_Reader_take_4) (y := c_codec_Reader_take_13) (by kernel_rfl) ?_
    refine wpE_seq_cut (x := c_codec_Reader_take_5) (y := c_codec_Reader_take_7) (by kernel_rfl) (fun l w => ∃ (t22 : Bool), l = [(0, Value.pointer r), (1, next), (22, Value.bool t22)] ∧ F_codec_Reader_take_k0 r next R t22 w) ?_ ?_
    · refine wpE_region (id := 1) (ops := r_codec_Reader_take_5) (by kernel_rfl) ?_
      refine reg_run [.plain] 1 [(0, [], Value.pointer r), (1, [], next), (7, [], Value.pointer r)] (by kernel_rfl) (by kernel_rfl) ?_
      refine reg_val (op := (Go.Op.binOp Go.BinOp.eql 81 (Go.Operand.tmp 7) (Go.Operand.const (Go.Value.pointer none)) 81)) (ty := 4) (dst := some 8) (Value.bool r.isNone) (by kernel_rfl) (fun ww => run_ptr_eql_R (p := r) (by kernel_rfl) (by kernel_rfl) (by kernel_rfl) ww) ?_
      refine reg_run [.plain, .plain] 4 [(0, [], Value.pointer r), (1, [], next), (9, [], Value.bool r.isNone), (10, [(9, false)], Value.pointer r)] (by kernel_rfl) (by kernel_rfl) ?_
      refine reg_split 9 r.isNone (by kernel_rfl) (fun hb => ?_) (fun hb => ?_)
      · replace h := h.1 hb
        refine reg_run [] 4 [(0, [], Value.pointer r), (1, [], next), (9, [], Value.bool true), (10, [], undef)] (by kernel_rfl) (by kernel_rfl) ?_
        refine reg_run [.skip, .skip, .skip, .skip, .plain, .plain, .skip, .skip, .skip, .skip, .skip, .plain] 16 [(0, [], Value.pointer r), (1, [], next), (22, [], Value.bool true)] (by kernel_rfl) (by kernel_rfl) ?_
        refine reg_end [(0, Value.pointer r), (1, next), (22, Value.bool true)] (by kernel_rfl) (by kernel_rfl) ?_
        exact ⟨[(0, Value.pointer r), (1, next), (22, Value.bool true)], Sub.mk (by kernel_rfl), true, rfl, h⟩
      · replace h := h.2 hb
        refine reg_run [] 4 [(0, [], Value.pointer r), (1, [], next), (9, [], Value.bool false), (10, [], Value.pointer r)] (by kernel_rfl) (by kernel_rfl) ?_
        refine reg_run [] 4 [(0, [], Value.pointer r), (1, [], next), (9, [], Value.bool false), (10, [], Value.pointer r)] (by kernel_rfl) (by kernel_rfl) ?_
        obtain ⟨hp_20, h⟩ := h
        refine reg_conv [(0, [], Value.pointer r), (1, [], next), (9, [], Value.bool false), (10, [], Value.pointer (some ⟨(pblk r), (poff r), none⟩))] (congrArg (fun pp => ([(0, [], Value.pointer r), (1, [], next), (9, [], Value.bool false), (10, [], Value.pointer pp)] : GEnv)) hp_20) ?_
        refine reg_run [.sure] 5 [(0, [], Value.pointer r), (1, [], next), (9, [], Value.bool false), (10, [], Value.pointer (some ⟨(pblk r), (poff r), none⟩)), (11, [], Value.pointer (some ⟨(pblk r), (poff r), none⟩))] (by kernel_rfl) (by kernel_rfl) ?_
        refine reg_run [.sure] 6 [(0, [], Value.pointer r), (1, [], next), (9, [], Value.bool false), (12, [], Value.pointer (some ⟨(pblk r), (poff r), none⟩))] (by kernel_rfl) (by kernel_rfl) ?_
        obtain ⟨v13, hc, h⟩ := h
        refine reg_load1 (t := 4) (a := (Go.Operand.tmp 12)) (b := (pblk r)) (o := (poff r)) (ty := 4) (dst := some 13) (by kernel_rfl) (by kernel_rfl) (by kernel_rfl) hc ?_
        refine reg_run [.sure, .plain, .plain, .plain] 11 [(0, [], Value.pointer r), (1, [], next), (16, [], Value.bool (!v13)), (17, [(16, false)], Value.pointer r)] (by kernel_rfl) (by kernel_rfl) ?_
        refine reg_split 16 (!v13) (by kernel_rfl) (fun hb => ?_) (fun hb => ?_)
        · replace h := h.1 hb
          refine reg_run [] 11 [(0, [], Value.pointer r), (1, [], next), (16, [], Value.bool true), (17, [], undef)] (by kernel_rfl) (by kernel_rfl) ?_
          refine reg_run [.skip, .skip, .skip, .skip, .plain] 16 [(0, [], Value.pointer r), (1, [], next), (22, [], Value.bool true)] (by kernel_rfl) (by kernel_rfl) ?_
          refine reg_end [(0, Value.pointer r), (1, next), (22, Value.bool true)] (by kernel_rfl) (by kernel_rfl) ?_
          exact ⟨[(0, Value.pointer r), (1, next), (22, Value.bool true)], Sub.mk (by kernel_rfl), true, rfl, h⟩
        · replace h := h.2 hb
          refine reg_run [] 11 [(0, [], Value.pointer r), (1, [], next), (16, [], Value.bool false), (17, [], Value.pointer r)] (by kernel_rfl) (by kernel_rfl) ?_
          refine reg_run [] 11 [(0, [], Value.pointer r), (1, [], next), (16, [], Value.bool false), (17, [], Value.pointer r)] (by kernel_rfl) (by kernel_rfl) ?_
          obtain ⟨hp_21, h⟩ := h
          refine reg_conv [(0, [], Value.pointer r), (1, [], next), (16, [], Value.bool false), (17, [], Value.pointer (some ⟨(pblk r), (poff r), none⟩))] (congrArg (fun pp => ([(0, [], Value.pointer r), (1, [], next), (16, [], Value.bool false), (17, [], Value.pointer pp)] : GEnv)) hp_21) ?_
          refine reg_run [.sure] 12 [(0, [], Value.pointer r), (1, [], next), (16, [], Value.bool false), (17, [], Value.pointer (some ⟨(pblk r), (poff r), none⟩)), (18, [], Value.pointer (some ⟨(pblk r), (poff r), none⟩))] (by kernel_rfl) (by kernel_rfl) ?_
          refine reg_run [.sure] 13 [(0, [], Value.pointer r), (1, [], next), (16, [], Value.bool false), (19, [], Value.pointer (some ⟨(pblk r), (poff r) + 2, none⟩))] (by kernel_rfl) (by kernel_rfl) ?_
          obtain ⟨v20, hc, h⟩ := h
          refine reg_load1 (t := 28) (a := (Go.Operand.tmp 19)) (b := (pblk r)) (o := ((poff r) + 2)) (ty := 28) (dst := some 20) (by kernel_rfl) (by kernel_rfl) (by kernel_rfl) hc ?_
          refine reg_run [.sure, .plain] 16 [(0, [], Value.pointer r), (1, [], next), (22, [], Value.bool (v20 != 0))] (by kernel_rfl) (by kernel_rfl) ?_
          refine reg_end [(0, Value.pointer r), (1, next), (22, Value.bool (v20 != 0))] (by kernel_rfl) (by kernel_rfl) ?_
          exact ⟨[(0, Value.pointer r), (1, next), (22, Value.bool (v20 != 0))], Sub.mk (by kernel_rfl), (v20 != 0), rfl, h⟩
    · rintro _ w1 ⟨t22, rfl, h⟩
      unfold F_codec_Reader_take_k0 at h
      refine wpE_cond (o := (Operand.tmp 22)) (b := t22) (x := c_codec_Reader_take_8) (y := c_codec_Reader_take_12) (by kernel_rfl) (by kernel_rfl) (fun hb => ?_) (fun hb => ?_)
      · replace h := h.1 hb
        refine wpE_seq (x := c_codec_Reader_take_9) (y := c_codec_Reader_take_11) (by kernel_rfl) ?_
        refine wpE_region (id := 2) (ops := r_codec_Reader_take_9) (by kernel_rfl) ?_
        refine reg_run [.plain] 1 [(4, [], Value.bool false)] (by kernel_rfl) (by kernel_rfl) ?_
        refine reg_end [(4, Value.bool false)] (by kernel_rfl) (by kernel_rfl) ?_
        change WpE _ _ c_codec_Reader_take_11 _ _ _
        refine wpE_ret (by kernel_rfl) ?_
        repeat (first | refine seqQ_ret ?_ | refine blockQ_ret ?_ | refine loopQ_ret ?_ | refine cutQ_ret ?_)
        exact retS (rs := [(Go.ResultVar.tmp 4)]) (v := Value.bool false) (by kernel_rfl) (⟨by kernel_rfl, trivial⟩) ⟨false, rfl, h⟩
      · replace h := h.2 hb
        refine wpE_skip (by kernel_rfl) ?_
        change WpE _ _ c_codec_Reader_take_13 _ _ _
        refine wpE_seq (x := c_codec_Reader_take_14) (y := c_codec_Reader_take_16) (by kernel_rfl) ?_
        refine wpE_region (id := 3) (ops := r_codec_Reader_take_14) (by kernel_rfl) ?_
        refine reg_run [.plain, .plain] 2 [(0, [], Value.pointer r), (24, [], next), (25, [], Value.pointer r)] (by kernel_rfl) (by kernel_rfl) ?_
        obtain ⟨hp_7, h⟩ := h
        refine reg_conv [(0, [], Value.pointer r), (24, [], next), (25, [], Value.pointer (some ⟨(pblk r), (poff r), none⟩))] (congrArg (fun pp => ([(0, [], Value.pointer r), (24, [], next), (25, [], Value.pointer pp)] : GEnv)) hp_7) ?_
        refine reg_run [.plain] 3 [(0, [], Value.pointer r), (24, [], next), (25, [], Value.pointer (some ⟨(pblk r), (poff r), none⟩)), (26, [], Value.pointer (some ⟨(pblk r), (poff r), none⟩))] (by kernel_rfl) (by kernel_rfl) ?_
        refine reg_run [.plain] 4 [(0, [], Value.pointer r), (24, [], next), (27, [], Value.pointer (some ⟨(pblk r), (poff r) + 1, none⟩))] (by kernel_rfl) (by kernel_rfl) ?_
        obtain ⟨v28, hc, h⟩ := h
        refine reg_load1 (t := 22) (a := (Go.Operand.tmp 27)) (b := (pblk r)) (o := ((poff r) + 1)) (ty := 22) (dst := some 28) (by kernel_rfl) (by kernel_rfl) (by kernel_rfl) hc ?_
        refine reg_run [] 5 [(0, [], Value.pointer r), (24, [], next), (28, [], Value.slice v28.ptr v28.len v28.cap)] (by kernel_rfl) (by kernel_rfl) ?_
        refine reg_enterV (fo := (Go.Operand.tmp 24)) (aa := #[(Go.Operand.tmp 28)]) (ts := #[22]) (fv := next) (ty := 68) (dst := some 29) #[Value.slice v28.ptr v28.len v28.cap] (by kernel_rfl) (by kernel_rfl) (by kernel_rfl) (CallsV.mono h ?_)
        rintro _ w2 ⟨n_, e, rfl, h⟩
        refine ⟨_, rfl, ?_⟩
        refine reg_run [.plain, .plain, .plain, .plain, .plain] 11 [(0, [], Value.pointer r), (5, [], Value.int .i64 n_), (6, [], Value.int .i64 e)] (by kernel_rfl) (by kernel_rfl) ?_
        refine reg_end [(0, Value.pointer r), (5, Value.int .i64 n_), (6, Value.int .i64 e)] (by kernel_rfl) (by kernel_rfl) ?_
        change WpE _ _ c_codec_Reader_take_16 _ _ _
        refine wpE_seq (x := c_codec_Reader_take_17) (y := c_codec_Reader_take_29) (by kernel_rfl) ?_
        refine wpE_seq (x := c_codec_Reader_take_18) (y := c_codec_Reader_take_20) (by kernel_rfl) ?_
        refine wpE_region (id := 4) (ops := r_codec_Reader_take_18) (by kernel_rfl) ?_
        refine reg_run [.plain, .plain] 2 [(0, [], Value.pointer r), (5, [], Value.int .i64 n_), (6, [], Value.int .i64 e), (33, [], Value.bool (e != 0))] (by kernel_rfl) (by kernel_rfl) ?_
        refine reg_end [(0, Value.pointer r), (5, Value.int .i64 n_), (6, Value.int .i64 e), (33, Value.bool (e != 0))] (by kernel_rfl) (by kernel_rfl) ?_
        change WpE _ _ c_codec_Reader_take_20 _ _ _
        refine wpE_cond (o := (Operand.tmp 33)) (b := (e != 0)) (x := c_codec_Reader_take_21) (y := c_codec_Reader_take_28) (by kernel_rfl) (by kernel_rfl) (fun hb => ?_) (fun hb => ?_)
        · replace h := h.1 hb
          refine wpE_seq (x := c_codec_Reader_take_22) (y := c_codec_Reader_take_24) (by kernel_rfl) ?_
          refine wpE_region (id := 5) (ops := r_codec_Reader_take_22) (by kernel_rfl) ?_
          refine reg_run [.plain, .plain] 2 [(34, [], Value.pointer r), (35, [], Value.int .i64 e)] (by kernel_rfl) (by kernel_rfl) ?_
          obtain ⟨hp_11, h⟩ := h
          refine reg_conv [(34, [], Value.pointer (some ⟨(pblk r), (poff r), none⟩)), (35, [], Value.int .i64 e)] (congrArg (fun pp => ([(34, [], Value.pointer pp), (35, [], Value.int .i64 e)] : GEnv)) hp_11) ?_
          refine reg_run [.plain] 3 [(34, [], Value.pointer (some ⟨(pblk r), (poff r), none⟩)), (35, [], Value.int .i64 e), (36, [], Value.pointer (some ⟨(pblk r), (poff r), none⟩))] (by kernel_rfl) (by kernel_rfl) ?_
          refine reg_run [.plain] 4 [(35, [], Value.int .i64 e), (37, [], Value.pointer (some ⟨(pblk r), (poff r) + 2, none⟩))] (by kernel_rfl) (by kernel_rfl) ?_
          obtain ⟨hc, h⟩ := h
          refine reg_store (t := 28) (a := (Go.Operand.tmp 37)) (x := (Go.Operand.tmp 35)) (b := (pblk r)) (o := ((poff r) + 2)) (ty := 0) (dst := none) [Value.int .i64 e] (by kernel_rfl) (by kernel_rfl) (by kernel_rfl) (k := 1) (by kernel_rfl) (by kernel_rfl) (by kernel_rfl) hc (fun w3 hw => ?_)
          replace h := h w3 hw
          clear hw
          refine reg_end [] (by kernel_rfl) (by kernel_rfl) ?_
          change WpE _ _ c_codec_Reader_take_24 _ _ _
          refine wpE_seq (x := c_codec_Reader_take_25) (y := c_codec_Reader_take_27) (by kernel_rfl) ?_
          refine wpE_region (id := 6) (ops := r_codec_Reader_take_25) (by kernel_rfl) ?_
          refine reg_run [.plain] 1 [(4, [], Value.bool false)] (by kernel_rfl) (by kernel_rfl) ?_
          refine reg_end [(4, Value.bool false)] (by kernel_rfl) (by kernel_rfl) ?_
          change WpE _ _ c_codec_Reader_take_27 _ _ _
          refine wpE_ret (by kernel_rfl) ?_
          repeat (first | refine seqQ_ret ?_ | refine blockQ_ret ?_ | refine loopQ_ret ?_ | refine cutQ_ret ?_)
          exact retS (rs := [(Go.ResultVar.tmp 4)]) (v := Value.bool false) (by kernel_rfl) (⟨by kernel_rfl, trivial⟩) ⟨false, rfl, h⟩
        · replace h := h.2 hb
          refine wpE_skip (by kernel_rfl) ?_
          change WpE _ _ c_codec_Reader_take_29 _ _ _
          refine wpE_seq (x := c_codec_Reader_take_30) (y := c_codec_Reader_take_32) (by kernel_rfl) ?_
          refine wpE_tailregion (id := 7) (ops := r_codec_Reader_take_30) (by kernel_rfl) 19 (by kernel_rfl) (by kernel_rfl) (fun w4 hw => ?_)
          replace h := h w4 hw
          clear hw
          refine qreg_run [.plain, .plain] 2 [(0, [], Value.pointer r), (5, [], Value.int .i64 n_), (38, [], Value.pointer r), (39, [], Value.pointer r)] (by kernel_rfl) (by kernel_rfl) ?_
          obtain ⟨hp_16, h⟩ := h
          refine qreg_conv [(0, [], Value.pointer r), (5, [], Value.int .i64 n_), (38, [], Value.pointer r), (39, [], Value.pointer (some ⟨(pblk r), (poff r), none⟩))] (congrArg (fun pp => ([(0, [], Value.pointer r), (5, [], Value.int .i64 n_), (38, [], Value.pointer r), (39, [], Value.pointer pp)] : GEnv)) hp_16) ?_
          refine qreg_run [.plain] 3 [(0, [], Value.pointer r), (5, [], Value.int .i64 n_), (38, [], Value.pointer r), (39, [], Value.pointer (some ⟨(pblk r), (poff r), none⟩)), (40, [], Value.pointer (some ⟨(pblk r), (poff r), none⟩))] (by kernel_rfl) (by kernel_rfl) ?_
          refine qreg_run [.plain] 4 [(0, [], Value.pointer r), (5, [], Value.int .i64 n_), (38, [], Value.pointer r), (41, [], Value.pointer (some ⟨(pblk r), (poff r) + 1, none⟩))] (by kernel_rfl) (by kernel_rfl) ?_
          obtain ⟨v42, hc, h⟩ := h
          refine qreg_load1 (t := 22) (a := (Go.Operand.tmp 41)) (b := (pblk r)) (o := ((poff r) + 1)) (ty := 22) (dst := some 42) (by kernel_rfl) (by kernel_rfl) (by kernel_rfl) hc ?_
          refine qreg_run [.plain, .plain] 7 [(0, [], Value.pointer r), (38, [], Value.pointer r), (42, [], Value.slice v42.ptr v42.len v42.cap), (43, [], Value.int .i64 n_), (44, [], Value.pointer r)] (by kernel_rfl) (by kernel_rfl) ?_
          obtain ⟨hp_17, h⟩ := h
          refine qreg_conv [(0, [], Value.pointer r), (38, [], Value.pointer r), (42, [], Value.slice v42.ptr v42.len v42.cap), (43, [], Value.int .i64 n_), (44, [], Value.pointer (some ⟨(pblk r), (poff r), none⟩))] (congrArg (fun pp => ([(0, [], Value.pointer r), (38, [], Value.pointer r), (42, [], Value.slice v42.ptr v42.len v42.cap), (43, [], Value.int .i64 n_), (44, [], Value.pointer pp)] : GEnv)) hp_17) ?_
          refine qreg_run [.plain] 8 [(0, [], Value.pointer r), (38, [], Value.pointer r), (42, [], Value.slice v42.ptr v42.len v42.cap), (43, [], Value.int .i64 n_), (44, [], Value.pointer (some ⟨(pblk r), (poff r), none⟩)), (45, [], Value.pointer (some ⟨(pblk r), (poff r), none⟩))] (by kernel_rfl) (by kernel_rfl) ?_
          refine qreg_run [.plain] 9 [(0, [], Value.pointer r), (38, [], Value.pointer r), (42, [], Value.slice v42.ptr v42.len v42.cap), (43, [], Value.int .i64 n_), (46, [], Value.pointer (some ⟨(pblk r), (poff r) + 1, none⟩))] (by kernel_rfl) (by kernel_rfl) ?_
          obtain ⟨v47, hc, h⟩ := h
          refine qreg_load1 (t := 22) (a := (Go.Operand.tmp 46)) (b := (pblk r)) (o := ((poff r) + 1)) (ty := 22) (dst := some 47) (by kernel_rfl) (by kernel_rfl) (by kernel_rfl) hc ?_
          refine qreg_run [.plain, .plain] 12 [(38, [], Value.pointer r), (42, [], Value.slice v42.ptr v42.len v42.cap), (43, [], Value.int .i64 n_), (48, [], Value.int .i64 ((v47.len : Nat) : Int)), (49, [], Value.pointer r)] (by kernel_rfl) (by kernel_rfl) ?_
          obtain ⟨hp_18, h⟩ := h
          refine qreg_conv [(38, [], Value.pointer r), (42, [], Value.slice v42.ptr v42.len v42.cap), (43, [], Value.int .i64 n_), (48, [], Value.int .i64 ((v47.len : Nat) : Int)), (49, [], Value.pointer (some ⟨(pblk r), (poff r), none⟩))] (congrArg (fun pp => ([(38, [], Value.pointer r), (42, [], Value.slice v42.ptr v42.len v42.cap), (43, [], Value.int .i64 n_), (48, [], Value.int .i64 ((v47.len : Nat) : Int)), (49, [], Value.pointer pp)] : GEnv)) hp_18) ?_
          refine qreg_run [.plain] 13 [(38, [], Value.pointer r), (42, [], Value.slice v42.ptr v42.len v42.cap), (43, [], Value.int .i64 n_), (48, [], Value.int .i64 ((v47.len : Nat) : Int)), (49, [], Value.pointer (some ⟨(pblk r), (poff r), none⟩)), (50, [], Value.pointer (some ⟨(pblk r), (poff r), none⟩))] (by kernel_rfl) (by kernel_rfl) ?_
          refine qreg_run [.plain] 14 [(38, [], Value.pointer r), (42, [], Value.slice v42.ptr v42.len v42.cap), (43, [], Value.int .i64 n_), (48, [], Value.int .i64 ((v47.len : Nat) : Int)), (51, [], Value.pointer (some ⟨(pblk r), (poff r) + 1, none⟩))] (by kernel_rfl) (by kernel_rfl) ?_
          obtain ⟨v52, hc, h⟩ := h
          refine qreg_load1 (t := 22) (a := (Go.Operand.tmp 51)) (b := (pblk r)) (o := ((poff r) + 1)) (ty := 22) (dst := some 52) (by kernel_rfl) (by kernel_rfl) (by kernel_rfl) hc ?_
          refine qreg_run [.plain] 16 [(38, [], Value.pointer r), (42, [], Value.slice v42.ptr v42.len v42.cap), (43, [], Value.int .i64 n_), (48, [], Value.int .i64 ((v47.len : Nat) : Int)), (53, [], Value.int .i64 ((v52.len : Nat) : Int))] (by kernel_rfl) (by kernel_rfl) ?_
          obtain ⟨hc, h⟩ := h
          refine qreg_sliceHM (t := 22) (e := 5) (x := (Go.Operand.tmp 42)) (lo := (Go.Operand.tmp 43)) (hi := (Go.Operand.tmp 48)) (mx := (Go.Operand.tmp 53)) (s := v42) (sz := 1) (k := .i64) (a := n_) (k' := .i64) (b := ((v47.len : Nat) : Int)) (k'' := .i64) (c := ((v52.len : Nat) : Int)) (ty := 22) (dst := some 54) (by kernel_rfl) (by kernel_rfl) (by kernel_rfl) (by kernel_rfl) (by kernel_rfl) (by kernel_rfl) (by kernel_rfl) hc (fun s hs => ?_)
          replace h := h s hs
          clear hs
          refine qreg_run [] 17 [(38, [], Value.pointer r), (54, [], Value.slice s.ptr s.len s.cap)] (by kernel_rfl) (by kernel_rfl) ?_
          obtain ⟨hp_19, h⟩ := h
          refine qreg_conv [(38, [], Value.pointer (some ⟨(pblk r), (poff r), none⟩)), (54, [], Value.slice s.ptr s.len s.cap)] (congrArg (fun pp => ([(38, [], Value.pointer pp), (54, [], Value.slice s.ptr s.len s.cap)] : GEnv)) hp_19) ?_
          refine qreg_run [.plain] 18 [(38, [], Value.pointer (some ⟨(pblk r), (poff r), none⟩)), (54, [], Value.slice s.ptr s.len s.cap), (55, [], Value.pointer (some ⟨(pblk r), (poff r), none⟩))] (by kernel_rfl) (by kernel_rfl) ?_
          refine qreg_run [.plain] 19 [(54, [], Value.slice s.ptr s.len s.cap), (56, [], Value.pointer (some ⟨(pblk r), (poff r) + 1, none⟩))] (by kernel_rfl) (by kernel_rfl) ?_
          refine qreg_tail (by kernel_rfl) ?_
          refine reg_run [] 19 [(54, [], Value.slice s.ptr s.len s.cap), (56, [], Value.pointer (some ⟨(pblk r), (poff r) + 1, none⟩))] (by kernel_rfl) (by kernel_rfl) ?_
          obtain ⟨hc, h⟩ := h
          refine reg_store (t := 22) (a := (Go.Operand.tmp 56)) (x := (Go.Operand.tmp 54)) (b := (pblk r)) (o := ((poff r) + 1)) (ty := 0) (dst := none) [Value.slice s.ptr s.len s.cap] (by kernel_rfl) (by kernel_rfl) (by kernel_rfl) (k := 1) (by kernel_rfl) (by kernel_rfl) (by kernel_rfl) hc (fun w5 hw => ?_)
          replace h := h w5 hw
          clear hw
          refine reg_end [] (by kernel_rfl) (by kernel_rfl) ?_
          change WpE _ _ c_codec_Reader_take_32 _ _ _
          refine wpE_seq (x := c_codec_Reader_take_33) (y := c_codec_Reader_take_35) (by kernel_rfl) ?_
          refine wpE_region (id := 8) (ops := r_codec_Reader_take_33) (by kernel_rfl) ?_
          refine reg_run [.plain] 1 [(4, [], Value.bool true)] (by kernel_rfl) (by kernel_rfl) ?_
          refine reg_end [(4, Value.bool true)] (by kernel_rfl) (by kernel_rfl) ?_
          change WpE _ _ c_codec_Reader_take_35 _ _ _
          refine wpE_ret (by kernel_rfl) ?_
          repeat (first | refine seqQ_ret ?_ | refine blockQ_ret ?_ | refine loopQ_ret ?_ | refine cutQ_ret ?_)
          exact retS (rs := [(Go.ResultVar.tmp 4)]) (v := Value.bool true) (by kernel_rfl) (⟨by kernel_rfl, trivial⟩) ⟨true, rfl, h⟩
  · rintro e w' ⟨v, rfl, r0, rfl, h⟩; exact ⟨r0, rfl, h⟩

/-! ### (*towpath/codec.Reader).Var$1 (function 74) -/
noncomputable def c_codec_Reader_Var_1_0 : Code := (Try.f74.body).getD Code.skip
noncomputable def c_codec_Reader_Var_1_1 : Code := Code.l c_codec_Reader_Var_1_0
noncomputable def r_codec_Reader_Var_1_1 : Array Oper := Code.ops c_codec_Reader_Var_1_1
noncomputable def c_codec_Reader_Var_1_3 : Code := Code.r c_codec_Reader_Var_1_0
noncomputable def c_codec_Reader_Var_1_4 : Code := Code.l c_codec_Reader_Var_1_3
noncomputable def r_codec_Reader_Var_1_4 : Array Oper := Code.ops c_codec_Reader_Var_1_4
noncomputable def c_codec_Reader_Var_1_6 : Code := Code.r c_codec_Reader_Var_1_3
noncomputable def c_codec_Reader_Var_1_7 : Code := Code.l c_codec_Reader_Var_1_6
noncomputable def r_codec_Reader_Var_1_7 : Array Oper := Code.ops c_codec_Reader_Var_1_7
noncomputable def c_codec_Reader_Var_1_9 : Code := Code.r c_codec_Reader_Var_1_6
noncomputable def c_codec_Reader_Var_1_10 : Code := Code.l c_codec_Reader_Var_1_9
noncomputable def r_codec_Reader_Var_1_10 : Array Oper := Code.ops c_codec_Reader_Var_1_10
noncomputable def c_codec_Reader_Var_1_12 : Code := Code.r c_codec_Reader_Var_1_9

set_option maxRecDepth 100000 in
set_option maxHeartbeats 4000000 in
theorem S_codec_Reader_Var_1 {b_ : Slc} {t1 : Option Addr} {w : World} {R : Int → Int → World → Prop} (h : F_codec_Reader_Var_1 b_ t1 R w) : C_codec_Reader_Var_1 b_ t1 w R := by
  unfold F_codec_Reader_Var_1 at h
  unfold C_codec_Reader_Var_1
  refine Calls.mono (calls_of_wpE (args := [Value.slice b_.ptr b_.len b_.cap, Value.pointer t1]) (R := fun v w' => ∃ (r0 : Int) (r1 : Int), v = Value.tuple #[Value.int .i64 r0, Value.int .i64 r1] ∧ R r0 r1 w') Try.func74 (c := c_codec_Reader_Var_1_0) (by kernel_rfl) 17 (by kernel_rfl) (by kernel_rfl) [(0, Value.slice b_.ptr b_.len b_.cap), (1, Value.pointer t1)] (by kernel_rfl) ?_) ?_
  · refine wpE_seq (x := c_codec_Reader_Var_1_1) (y := c_codec_Reader_Var_1_3) (by kernel_rfl) ?_
    refine wpE_region (id := 0) (ops := r_codec_Reader_Var_1_1) (by kernel_rfl) ?_
    refine reg_run [.plain, .plain] 2 [(0, [], Value.slice b_.ptr b_.len b_.cap), (1, [], Value.pointer t1)] (by kernel_rfl) (by kernel_rfl) ?_
    refine reg_end [(0, Value.slice b_.ptr b_.len b_.cap), (1, Value.pointer t1)] (by kernel_rfl) (by kernel_rfl) ?_
    change WpE _ _ c_codec_Reader_Var_1_3 _ _ _
    refine wpE_seq (x := c_codec_Reader_Var_1_4) (y := c_codec_Reader_Var_1_6) (by kernel_rfl) ?_
    refine wpE_region (id := 1) (ops := r_codec_Reader_Var_1_4) (by kernel_rfl) ?_
    refine reg_run [.plain] 1 [(1, [], Value.pointer t1), (9, [], Value.slice b_.ptr b_.len b_.cap)] (by kernel_rfl) (by kernel_rfl) ?_
    refine reg_enter (op := (Go.Op.call (Go.Call.mk (Go.Callee.value (Go.Operand.func 75)) #[(Go.Operand.tmp 9)] #[22]))) (ty := 125) (dst := some 10) 75 #[Value.slice b_.ptr b_.len b_.cap] (by kernel_rfl) (fun ww => by kernel_rfl) (Calls.mono h ?_)
    rintro _ w1 ⟨v, size, e, rfl, h⟩
    refine ⟨_, rfl, ?_⟩
    refine reg_run [.plain, .plain, .plain, .plain, .plain, .plain, .plain] 9 [(1, [], Value.pointer t1), (5, [], Value.int .u64 v), (6, [], Value.int .i64 size), (7, [], Value.int .i64 e)] (by kernel_rfl) (by kernel_rfl) ?_
    refine reg_end [(1, Value.pointer t1), (5, Value.int .u64 v), (6, Value.int .i64 size), (7, Value.int .i64 e)] (by kernel_rfl) (by kernel_rfl) ?_
    change WpE _ _ c_codec_Reader_Var_1_6 _ _ _
    refine wpE_seq (x := c_codec_Reader_Var_1_7) (y := c_codec_Reader_Var_1_9) (by kernel_rfl) ?_
    refine wpE_region (id := 2) (ops := r_codec_Reader_Var_1_7) (by kernel_rfl) ?_
    refine reg_run [.plain] 1 [(1, [], Value.pointer t1), (6, [], Value.int .i64 size), (7, [], Value.int .i64 e), (14, [], Value.int .u64 v)] (by kernel_rfl) (by kernel_rfl) ?_
    obtain ⟨hp_1, h⟩ := h
    refine reg_conv [(1, [], Value.pointer (some ⟨(pblk t1), (poff t1), none⟩)), (6, [], Value.int .i64 size), (7, [], Value.int .i64 e), (14, [], Value.int .u64 v)] (congrArg (fun pp => ([(1, [], Value.pointer pp), (6, [], Value.int .i64 size), (7, [], Value.int .i64 e), (14, [], Value.int .u64 v)] : GEnv)) hp_1) ?_
    obtain ⟨hc, h⟩ := h
    refine reg_store (t := 84) (a := (Go.Operand.tmp 1)) (x := (Go.Operand.tmp 14)) (b := (pblk t1)) (o := (poff t1)) (ty := 0) (dst := none) [Value.int .u64 v] (by kernel_rfl) (by kernel_rfl) (by kernel_rfl) (k := 1) (by kernel_rfl) (by kernel_rfl) (by kernel_rfl) hc (fun w2 hw => ?_)
    replace h := h w2 hw
    clear hw
    refine reg_end [(6, Value.int .i64 size), (7, Value.int .i64 e)] (by kernel_rfl) (by kernel_rfl) ?_
    change WpE _ _ c_codec_Reader_Var_1_9 _ _ _
    refine wpE_seq (x := c_codec_Reader_Var_1_10) (y := c_codec_Reader_Var_1_12) (by kernel_rfl) ?_
    refine wpE_region (id := 3) (ops := r_codec_Reader_Var_1_10) (by kernel_rfl) ?_
    refine reg_run [.plain, .plain, .plain, .plain] 4 [(3, [], Value.int .i64 size), (4, [], Value.int .i64 e)] (by kernel_rfl) (by kernel_rfl) ?_
    refine reg_end [(3, Value.int .i64 size), (4, Value.int .i64 e)] (by kernel_rfl) (by kernel_rfl) ?_
    change WpE _ _ c_codec_Reader_Var_1_12 _ _ _
    refine wpE_ret (by kernel_rfl) ?_
    repeat (first | refine seqQ_ret ?_ | refine blockQ_ret ?_ | refine loopQ_ret ?_ | refine cutQ_ret ?_)
    exact retT (rs := [(Go.ResultVar.tmp 3), (Go.ResultVar.tmp 4)]) (vs := [Value.int .i64 size, Value.int .i64 e]) (by kernel_rfl) (⟨by kernel_rfl, ⟨by kernel_rfl, trivial⟩⟩) (by kernel_rfl) ⟨size, e, rfl, h⟩
  · rintro e w' ⟨v, rfl, r0, r1, rfl, h⟩; exact ⟨r0, r1, rfl, h⟩

/-! ### towpath/codec.short (function 75) -/
noncomputable def c_codec_short_0 : Code := (Try.f75.body).getD Code.skip
noncomputable def c_codec_short_1 : Code := Code.l c_codec_short_0
noncomputable def r_codec_short_1 : Array Oper := Code.ops c_codec_short_1
noncomputable def c_codec_short_3 : Code := Code.r c_codec_short_0
noncomputable def c_codec_short_4 : Code := Code.l c_codec_short_3
noncomputable def c_codec_short_5 : Code := Code.l c_codec_short_4
noncomputable def r_codec_short_5 : Array Oper := Code.ops c_codec_short_5
noncomputable def c_codec_short_7 : Code := Code.r c_codec_short_4
noncomputable def c_codec_short_8 : Code := Code.l c_codec_short_7
noncomputable def c_codec_short_9 : Code := Code.l c_codec_short_8
noncomputable def c_codec_short_10 : Code := Code.l c_codec_short_9
noncomputable def r_codec_short_10 : Array Oper := Code.ops c_codec_short_10
noncomputable def c_codec_short_12 : Code := Code.r c_codec_short_9
noncomputable def c_codec_short_13 : Code := Code.l c_codec_short_12
noncomputable def c_codec_short_14 : Code := Code.l c_codec_short_13
noncomputable def c_codec_short_15 : Code := Code.r c_codec_short_13
noncomputable def c_codec_short_16 : Code := Code.r c_codec_short_12
noncomputable def c_codec_short_17 : Code := Code.l c_codec_short_16
noncomputable def c_codec_short_18 : Code := Code.l c_codec_short_17
noncomputable def c_codec_short_19 : Code := Code.l c_codec_short_18
noncomputable def r_codec_short_19 : Array Oper := Code.ops c_codec_short_19
noncomputable def c_codec_short_21 : Code := Code.r c_codec_short_18
noncomputable def c_codec_short_22 : Code := Code.l c_codec_short_21
noncomputable def c_codec_short_23 : Code := Code.l c_codec_short_22
noncomputable def r_codec_short_23 : Array Oper := Code.ops c_codec_short_23
noncomputable def c_codec_short_25 : Code := Code.r c_codec_short_22
noncomputable def c_codec_short_26 : Code := Code.l c_codec_short_25
noncomputable def c_codec_short_27 : Code := Code.l c_codec_short_26
noncomputable def r_codec_short_27 : Array Oper := Code.ops c_codec_short_27
noncomputable def c_codec_short_29 : Code := Code.r c_codec_short_26
noncomputable def c_codec_short_30 : Code := Code.r c_codec_short_25
noncomputable def c_codec_short_31 : Code := Code.r c_codec_short_21
noncomputable def c_codec_short_32 : Code := Code.l c_codec_short_31
noncomputable def r_codec_short_32 : Array Oper := Code.ops c_codec_short_32
noncomputable def c_codec_short_34 : Code := Code.r c_codec_short_31
noncomputable def c_codec_short_35 : Code := Code.l c_codec_short_34
noncomputable def r_codec_short_35 : Array Oper := Code.ops c_codec_short_35
noncomputable def c_codec_short_37 : Code := Code.r c_codec_short_34
noncomputable def c_codec_short_38 : Code := Code.l c_codec_short_37
noncomputable def c_codec_short_39 : Code := Code.l c_codec_short_38
noncomputable def r_codec_short_39 : Array Oper := Code.ops c_codec_short_39
noncomputable def c_codec_short_41 : Code := Code.r c_codec_short_38
noncomputable def c_codec_short_42 : Code := Code.r c_codec_short_37
noncomputable def c_codec_short_43 : Code := Code.r c_codec_short_16
noncomputable def r_codec_short_43 : Array Oper := Code.ops c_codec_short_43
noncomputable def c_codec_short_45 : Code := Code.r c_codec_short_3
noncomputable def c_codec_short_46 : Code := Code.l c_codec_short_45
noncomputable def r_codec_short_46 : Array Oper := Code.ops c_codec_short_46
noncomputable def c_codec_short_48 : Code := Code.r c_codec_short_45

set_option maxRecDepth 100000 in
set_option maxHeartbeats 4000000 in
theorem S_codec_short {b_ : Slc} {w : World} {R : Int → Int → Int → World → Prop} (h : F_codec_short b_ R w) : C_codec_short b_ w R := by
  unfold F_codec_short at h
  unfold C_codec_short
  refine Calls.mono (calls_of_wpE (args := [Value.slice b_.ptr b_.len b_.cap]) (R := fun v w' => ∃ (r0 : Int) (r1 : Int) (r2 : Int), v = Value.tuple #[Value.int .u64 r0, Value.int .i64 r1, Value.int .i64 r2] ∧ R r0 r1 r2 w') Try.func75 (c := c_codec_short_0) (by kernel_rfl) 42 (by kernel_rfl) (by kernel_rfl) [(0, Value.slice b_.ptr b_.len b_.cap)] (by kernel_rfl) ?_) ?_
  · refine wpE_seq (x := c_codec_short_1) (y := c_codec_short_3) (by kernel_rfl) ?_
    refine wpE_region (id := 0) (ops := r_codec_short_1) (by kernel_rfl) ?_
    refine reg_run [.plain, .plain, .plain] 3 [(0, [], Value.slice b_.ptr b_.len b_.cap), (2, [], Value.int .u64 0)] (by kernel_rfl) (by kernel_rfl) ?_
    refine reg_end [(0, Value.slice b_.ptr b_.len b_.cap), (2, Value.int .u64 0)] (by kernel_rfl) (by kernel_rfl) ?_
    change WpE _ _ c_codec_short_3 _ _ _
    refine wpE_seq (x := c_codec_short_4) (y := c_codec_short_45) (by kernel_rfl) ?_
    refine wpE_seq (x := c_codec_short_5) (y := c_codec_short_7) (by kernel_rfl) ?_
    refine wpE_region (id := 1) (ops := r_codec_short_5) (by kernel_rfl) ?_
    refine reg_run [.plain, .plain, .plain] 3 [(2, [], Value.int .u64 0), (7, [], Value.slice b_.ptr b_.len b_.cap), (8, [], Value.int .i64 ((b_.len : Nat) : Int)), (9, [], Value.int .i64 0)] (by kernel_rfl) (by kernel_rfl) ?_
    refine reg_end [(2, Value.int .u64 0), (7, Value.slice b_.ptr b_.len b_.cap), (8, Value.int .i64 ((b_.len : Nat) : Int)), (9, Value.int .i64 0)] (by kernel_rfl) (by kernel_rfl) ?_
    change WpE _ _ c_codec_short_7 _ _ _
    refine wpE_block (id := 0) (x := c_codec_short_8) (by kernel_rfl) ?_
    obtain ⟨I, μ, h0, hr⟩ := h
    refine wpE_loop (x := c_codec_short_9) (by kernel_rfl) (fun m l w => ∃ (n_ : Int) (t9 : Int), l = [(2, Value.int .u64 n_), (7, Value.slice b_.ptr b_.len b_.cap), (8, Value.int .i64 ((b_.len : Nat) : Int)), (9, Value.int .i64 t9)] ∧ I n_ t9 w ∧ μ n_ t9 w = m) (l' := [(2, Value.int .u64 0), (7, Value.slice b_.ptr b_.len b_.cap), (8, Value.int .i64 ((b_.len : Nat) : Int)), (9, Value.int .i64 0)]) (Sub.mk (by kernel_rfl)) ⟨0, 0, rfl, h0, rfl⟩ ?_
    rintro _ _ w1 ⟨n_, t9, rfl, hI, rfl⟩
    obtain ⟨again_, again__h, h⟩ : ∃ again_ : Int → Int → World → Prop, (∀ n_' t9' w', again_ n_' t9' w' → I n_' t9' w' ∧ μ n_' t9' w' < μ n_ t9 w1) ∧ F_codec_short_L0 b_ R again_ n_ t9 w1 := ⟨_, fun _ _ _ h => h, hr n_ t9 w1 hI⟩
    clear h0 hI
    unfold F_codec_short_L0 at h
    refine wpE_seq (x := c_codec_short_10) (y := c_codec_short_12) (by kernel_rfl) ?_
    refine wpE_region (id := 2) (ops := r_codec_short_10) (by kernel_rfl) ?_
    refine reg_run [.plain] 1 [(2, [], Value.int .u64 n_), (7, [], Value.slice b_.ptr b_.len b_.cap), (8, [], Value.int .i64 ((b_.len : Nat) : Int)), (9, [], Value.int .i64 t9), (10, [], Value.bool (decide (t9 < ((b_.len : Nat) : Int))))] (by kernel_rfl) (by kernel_rfl) ?_
    refine reg_end [(2, Value.int .u64 n_), (7, Value.slice b_.ptr b_.len b_.cap), (8, Value.int .i64 ((b_.len : Nat) : Int)), (9, Value.int .i64 t9), (10, Value.bool (decide (t9 < ((b_.len : Nat) : Int))))] (by kernel_rfl) (by kernel_rfl) ?_
    change WpE _ _ c_codec_short_12 _ _ _
    refine wpE_seq (x := c_codec_short_13) (y := c_codec_short_16) (by kernel_rfl) ?_
    refine wpE_cond (o := (Operand.tmp 10)) (b := (decide (t9 < ((b_.len : Nat) : Int)))) (x := c_codec_short_14) (y := c_codec_short_15) (by kernel_rfl) (by kernel_rfl) (fun hb => ?_) (fun hb => ?_)
    · replace h := h.1 hb
      refine wpE_skip (by kernel_rfl) ?_
      change WpE _ _ c_codec_short_16 _ _ _
      refine wpE_seq (x := c_codec_short_17) (y := c_codec_short_43) (by kernel_rfl) ?_
      refine wpE_block (id := 1) (x := c_codec_short_18) (by kernel_rfl) ?_
      refine wpE_seq (x := c_codec_short_19) (y := c_codec_short_21) (by kernel_rfl) ?_
      refine wpE_region (id := 3) (ops := r_codec_short_19) (by kernel_rfl) ?_
      refine reg_run [.plain] 1 [(2, [], Value.int .u64 n_), (7, [], Value.slice b_.ptr b_.len b_.cap), (8, [], Value.int .i64 ((b_.len : Nat) : Int)), (9, [], Value.int .i64 t9), (11, [], Value.int .i64 t9)] (by kernel_rfl) (by kernel_rfl) ?_
      obtain ⟨hp_7, h⟩ := h
      refine reg_conv [(2, [], Value.int .u64 n_), (7, [], Value.slice (some ⟨(pblk b_.ptr), (poff b_.ptr), none⟩) b_.len b_.cap), (8, [], Value.int .i64 ((b_.len : Nat) : Int)), (9, [], Value.int .i64 t9), (11, [], Value.int .i64 t9)] (congrArg (fun pp => ([(2, [], Value.int .u64 n_), (7, [], Value.slice pp b_.len b_.cap), (8, [], Value.int .i64 ((b_.len : Nat) : Int)), (9, [], Value.int .i64 t9), (11, [], Value.int .i64 t9)] : GEnv)) hp_7) ?_
      obtain ⟨h0, h1, h⟩ := h
      refine reg_indexS1 (t := 22) (e := 5) (x := (Go.Operand.tmp 7)) (ix := (Go.Operand.tmp 9)) (b := (pblk b_.ptr)) (o := (poff b_.ptr)) (l := b_.len) (c := b_.cap) (k := .i64) (j := t9) (ty := 0) (dst := some 12) (by kernel_rfl) (by kernel_rfl) (by kernel_rfl) (by kernel_rfl) (by kernel_rfl) h0 h1 ?_
      refine reg_run [] 2 [(2, [], Value.int .u64 n_), (7, [], Value.slice (some ⟨(pblk b_.ptr), (poff b_.ptr), none⟩) b_.len b_.cap), (8, [], Value.int .i64 ((b_.len : Nat) : Int)), (9, [], Value.int .i64 t9), (11, [], Value.int .i64 t9), (12, [], Value.pointer (some ⟨(pblk b_.ptr), (poff b_.ptr) + t9.toNat, none⟩))] (by kernel_rfl) (by kernel_rfl) ?_
      obtain ⟨c, hc, h⟩ := h
      refine reg_load1 (t := 5) (a := (Go.Operand.tmp 12)) (b := (pblk b_.ptr)) (o := ((poff b_.ptr) + t9.toNat)) (ty := 5) (dst := some 13) (by kernel_rfl) (by kernel_rfl) (by kernel_rfl) hc ?_
      refine reg_run [.plain, .plain] 5 [(2, [], Value.int .u64 n_), (5, [], Value.int .i64 t9), (6, [], Value.int .u8 c), (7, [], Value.slice (some ⟨(pblk b_.ptr), (poff b_.ptr), none⟩) b_.len b_.cap), (8, [], Value.int .i64 ((b_.len : Nat) : Int)), (9, [], Value.int .i64 t9)] (by kernel_rfl) (by kernel_rfl) ?_
      refine reg_conv [(2, [], Value.int .u64 n_), (5, [], Value.int .i64 t9), (6, [], Value.int .u8 c), (7, [], Value.slice b_.ptr b_.len b_.cap), (8, [], Value.int .i64 ((b_.len : Nat) : Int)), (9, [], Value.int .i64 t9)] (congrArg (fun pp => ([(2, [], Value.int .u64 n_), (5, [], Value.int .i64 t9), (6, [], Value.int .u8 c), (7, [], Value.slice pp b_.len b_.cap), (8, [], Value.int .i64 ((b_.len : Nat) : Int)), (9, [], Value.int .i64 t9)] : GEnv)) hp_7.symm) ?_
      refine reg_end [(2, Value.int .u64 n_), (5, Value.int .i64 t9), (6, Value.int .u8 c), (7, Value.slice b_.ptr b_.len b_.cap), (8, Value.int .i64 ((b_.len : Nat) : Int)), (9, Value.int .i64 t9)] (by kernel_rfl) (by kernel_rfl) ?_
      change WpE _ _ c_codec_short_21 _ _ _
      refine wpE_seq (x := c_codec_short_22) (y := c_codec_short_31) (by kernel_rfl) ?_
      refine wpE_seq (x := c_codec_short_23) (y := c_codec_short_25) (by kernel_rfl) ?_
      refine wpE_region (id := 4) (ops := r_codec_short_23) (by kernel_rfl) ?_
      refine reg_run [.plain, .plain, .plain, .plain, .plain, .pick, .plain, .plain, .plain, .plain, .plain, .plain, .pick, .pick] 14 [(2, [], Value.int .u64 n_), (5, [], Value.int .i64 t9), (6, [], Value.int .u8 c), (7, [], Value.slice b_.ptr b_.len b_.cap), (8, [], Value.int .i64 ((b_.len : Nat) : Int)), (9, [], Value.int .i64 t9), (27, [], Value.bool (((t9 == 9) && (decide (c > 1))) || ((decide (t9 > 0)) && (c == 0))))] (by kernel_rfl) (by kernel_rfl) ?_
      refine reg_end [(2, Value.int .u64 n_), (5, Value.int .i64 t9), (6, Value.int .u8 c), (7, Value.slice b_.ptr b_.len b_.cap), (8, Value.int .i64 ((b_.len : Nat) : Int)), (9, Value.int .i64 t9), (27, Value.bool (((t9 == 9) && (decide (c > 1))) || ((decide (t9 > 0)) && (c == 0))))] (by kernel_rfl) (by kernel_rfl) ?_
      change WpE _ _ c_codec_short_25 _ _ _
      refine wpE_cond (o := (Operand.tmp 27)) (b := (((t9 == 9) && (decide (c > 1))) || ((decide (t9 > 0)) && (c == 0)))) (x := c_codec_short_26) (y := c_codec_short_30) (by kernel_rfl) (by kernel_rfl) (fun hb => ?_) (fun hb => ?_)
      · replace h := h.1 hb
        refine wpE_seq (x := c_codec_short_27) (y := c_codec_short_29) (by kernel_rfl) ?_
        refine wpE_region (id := 5) (ops := r_codec_short_27) (by kernel_rfl) ?_
        refine reg_run [.plain, .plain, .plain] 3 [(2, [], Value.int .u64 0), (3, [], Value.int .i64 0), (4, [], Value.int .i64 4)] (by kernel_rfl) (by kernel_rfl) ?_
        refine reg_end [(2, Value.int .u64 0), (3, Value.int .i64 0), (4, Value.int .i64 4)] (by kernel_rfl) (by kernel_rfl) ?_
        change WpE _ _ c_codec_short_29 _ _ _
        refine wpE_ret (by kernel_rfl) ?_
        repeat (first | refine seqQ_ret ?_ | refine blockQ_ret ?_ | refine loopQ_ret ?_ | refine cutQ_ret ?_)
        exact retT (rs := [(Go.ResultVar.tmp 2), (Go.ResultVar.tmp 3), (Go.ResultVar.tmp 4)]) (vs := [Value.int .u64 0, Value.int .i64 0, Value.int .i64 4]) (by kernel_rfl) (⟨by kernel_rfl, ⟨by kernel_rfl, ⟨by kernel_rfl, trivial⟩⟩⟩) (by kernel_rfl) ⟨0, 0, 4, rfl, h⟩
      · replace h := h.2 hb
        refine wpE_skip (by kernel_rfl) ?_
        change WpE _ _ c_codec_short_31 _ _ _
        refine wpE_seq (x := c_codec_short_32) (y := c_codec_short_34) (by kernel_rfl) ?_
        refine wpE_region (id := 6) (ops := r_codec_short_32) (by kernel_rfl) ?_
        refine reg_run [.plain, .plain, .plain, .plain, .plain, .plain] 6 [(2, [], Value.int .u64 n_), (5, [], Value.int .i64 t9), (6, [], Value.int .u8 c), (7, [], Value.slice b_.ptr b_.len b_.cap), (8, [], Value.int .i64 ((b_.len : Nat) : Int)), (9, [], Value.int .i64 t9), (28, [], Value.int .u64 n_), (31, [], Value.int .u64 (IntKind.u64.wrap (band .u8 c 127))), (33, [], Value.int .i64 (IntKind.i64.wrap (7 * t9)))] (by kernel_rfl) (by kernel_rfl) ?_
        obtain ⟨h0, h⟩ := h
        refine reg_val (op := (Go.Op.binOp Go.BinOp.shl 84 (Go.Operand.tmp 31) (Go.Operand.tmp 33) 3)) (ty := 84) (dst := some 34) (Value.int .u64 (IntKind.u64.wrap ((IntKind.u64.wrap (band .u8 c 127)) * 2 ^ (min (IntKind.i64.wrap (7 * t9)).toNat 64)))) (by kernel_rfl) (fun ww => run_shl (k' := .i64) (by kernel_rfl) (by kernel_rfl) (by kernel_rfl) h0 ww) ?_
        refine reg_run [.plain, .plain] 9 [(2, [], Value.int .u64 (bor .u64 n_ (IntKind.u64.wrap ((IntKind.u64.wrap (band .u8 c 127)) * 2 ^ (min (IntKind.i64.wrap (7 * t9)).toNat 64))))), (5, [], Value.int .i64 t9), (6, [], Value.int .u8 c), (7, [], Value.slice b_.ptr b_.len b_.cap), (8, [], Value.int .i64 ((b_.len : Nat) : Int)), (9, [], Value.int .i64 t9)] (by kernel_rfl) (by kernel_rfl) ?_
        refine reg_end [(2, Value.int .u64 (bor .u64 n_ (IntKind.u64.wrap ((IntKind.u64.wrap (band .u8 c 127)) * 2 ^ (min (IntKind.i64.wrap (7 * t9)).toNat 64))))), (5, Value.int .i64 t9), (6, Value.int .u8 c), (7, Value.slice b_.ptr b_.len b_.cap), (8, Value.int .i64 ((b_.len : Nat) : Int)), (9, Value.int .i64 t9)] (by kernel_rfl) (by kernel_rfl) ?_
        change WpE _ _ c_codec_short_34 _ _ _
        refine wpE_seq (x := c_codec_short_35) (y := c_codec_short_37) (by kernel_rfl) ?_
        refine wpE_region (id := 7) (ops := r_codec_short_35) (by kernel_rfl) ?_
        refine reg_run [.plain, .plain] 2 [(2, [], Value.int .u64 (bor .u64 n_ (IntKind.u64.wrap ((IntKind.u64.wrap (band .u8 c 127)) * 2 ^ (min (IntKind.i64.wrap (7 * t9)).toNat 64))))), (5, [], Value.int .i64 t9), (7, [], Value.slice b_.ptr b_.len b_.cap), (8, [], Value.int .i64 ((b_.len : Nat) : Int)), (9, [], Value.int .i64 t9), (37, [], Value.bool (decide (c < 128)))] (by kernel_rfl) (by kernel_rfl) ?_
        refine reg_end [(2, Value.int .u64 (bor .u64 n_ (IntKind.u64.wrap ((IntKind.u64.wrap (band .u8 c 127)) * 2 ^ (min (IntKind.i64.wrap (7 * t9)).toNat 64))))), (5, Value.int .i64 t9), (7, Value.slice b_.ptr b_.len b_.cap), (8, Value.int .i64 ((b_.len : Nat) : Int)), (9, Value.int .i64 t9), (37, Value.bool (decide (c < 128)))] (by kernel_rfl) (by kernel_rfl) ?_
        change WpE _ _ c_codec_short_37 _ _ _
        refine wpE_cond (o := (Operand.tmp 37)) (b := (decide (c < 128))) (x := c_codec_short_38) (y := c_codec_short_42) (by kernel_rfl) (by kernel_rfl) (fun hb => ?_) (fun hb => ?_)
        · replace h := h.1 hb
          refine wpE_seq (x := c_codec_short_39) (y := c_codec_short_41) (by kernel_rfl) ?_
          refine wpE_region (id := 8) (ops := r_codec_short_39) (by kernel_rfl) ?_
          refine reg_run [.plain, .plain, .plain, .plain, .plain, .plain] 6 [(2, [], Value.int .u64 (bor .u64 n_ (IntKind.u64.wrap ((IntKind.u64.wrap (band .u8 c 127)) * 2 ^ (min (IntKind.i64.wrap (7 * t9)).toNat 64))))), (3, [], Value.int .i64 (IntKind.i64.wrap (t9 + 1))), (4, [], Value.int .i64 0)] (by kernel_rfl) (by kernel_rfl) ?_
          refine reg_end [(2, Value.int .u64 (bor .u64 n_ (IntKind.u64.wrap ((IntKind.u64.wrap (band .u8 c 127)) * 2 ^ (min (IntKind.i64.wrap (7 * t9)).toNat 64))))), (3, Value.int .i64 (IntKind.i64.wrap (t9 + 1))), (4, Value.int .i64 0)] (by kernel_rfl) (by kernel_rfl) ?_
          change WpE _ _ c_codec_short_41 _ _ _
          refine wpE_ret (by kernel_rfl) ?_
          repeat (first | refine seqQ_ret ?_ | refine blockQ_ret ?_ | refine loopQ_ret ?_ | refine cutQ_ret ?_)
          exact retT (rs := [(Go.ResultVar.tmp 2), (Go.ResultVar.tmp 3), (Go.ResultVar.tmp 4)]) (vs := [Value.int .u64 (bor .u64 n_ (IntKind.u64.wrap ((IntKind.u64.wrap (band .u8 c 127)) * 2 ^ (min (IntKind.i64.wrap (7 * t9)).toNat 64)))), Value.int .i64 (IntKind.i64.wrap (t9 + 1)), Value.int .i64 0]) (by kernel_rfl) (⟨by kernel_rfl, ⟨by kernel_rfl, ⟨by kernel_rfl, trivial⟩⟩⟩) (by kernel_rfl) ⟨(bor .u64 n_ (IntKind.u64.wrap ((IntKind.u64.wrap (band .u8 c 127)) * 2 ^ (min (IntKind.i64.wrap (7 * t9)).toNat 64)))), (IntKind.i64.wrap (t9 + 1)), 0, rfl, h⟩
        · replace h := h.2 hb
          refine wpE_skip (by kernel_rfl) ?_
          change WpE _ _ c_codec_short_43 _ _ _
          refine wpE_region (id := 9) (ops := r_codec_short_43) (by kernel_rfl) ?_
          refine reg_run [.plain, .plain] 2 [(2, [], Value.int .u64 (bor .u64 n_ (IntKind.u64.wrap ((IntKind.u64.wrap (band .u8 c 127)) * 2 ^ (min (IntKind.i64.wrap (7 * t9)).toNat 64))))), (7, [], Value.slice b_.ptr b_.len b_.cap), (8, [], Value.int .i64 ((b_.len : Nat) : Int)), (9, [], Value.int .i64 (IntKind.i64.wrap (t9 + 1)))] (by kernel_rfl) (by kernel_rfl) ?_
          refine reg_end [(2, Value.int .u64 (bor .u64 n_ (IntKind.u64.wrap ((IntKind.u64.wrap (band .u8 c 127)) * 2 ^ (min (IntKind.i64.wrap (7 * t9)).toNat 64))))), (7, Value.slice b_.ptr b_.len b_.cap), (8, Value.int .i64 ((b_.len : Nat) : Int)), (9, Value.int .i64 (IntKind.i64.wrap (t9 + 1)))] (by kernel_rfl) (by kernel_rfl) ?_
          have hb_ := again__h _ _ _ h
          exact ⟨_, hb_.2, [(2, Value.int .u64 (bor .u64 n_ (IntKind.u64.wrap ((IntKind.u64.wrap (band .u8 c 127)) * 2 ^ (min (IntKind.i64.wrap (7 * t9)).toNat 64))))), (7, Value.slice b_.ptr b_.len b_.cap), (8, Value.int .i64 ((b_.len : Nat) : Int)), (9, Value.int .i64 (IntKind.i64.wrap (t9 + 1)))], Sub.mk (by kernel_rfl), (bor .u64 n_ (IntKind.u64.wrap ((IntKind.u64.wrap (band .u8 c 127)) * 2 ^ (min (IntKind.i64.wrap (7 * t9)).toNat 64)))), (IntKind.i64.wrap (t9 + 1)), rfl, hb_.1, rfl⟩
    · replace h := h.2 hb
      refine wpE_exit (id := 0) (by kernel_rfl) ?_
      change WpE _ _ c_codec_short_45 _ _ _
      refine wpE_seq (x := c_codec_short_46) (y := c_codec_short_48) (by kernel_rfl) ?_
      refine wpE_region (id := 10) (ops := r_codec_short_46) (by kernel_rfl) ?_
      refine reg_run [.plain, .plain, .plain] 3 [(2, [], Value.int .u64 0), (3, [], Value.int .i64 0), (4, [], Value.int .i64 5)] (by kernel_rfl) (by kernel_rfl) ?_
      refine reg_end [(2, Value.int .u64 0), (3, Value.int .i64 0), (4, Value.int .i64 5)] (by kernel_rfl) (by kernel_rfl) ?_
      change WpE _ _ c_codec_short_48 _ _ _
      refine wpE_ret (by kernel_rfl) ?_
      repeat (first | refine seqQ_ret ?_ | refine blockQ_ret ?_ | refine loopQ_ret ?_ | refine cutQ_ret ?_)
      exact retT (rs := [(Go.ResultVar.tmp 2), (Go.ResultVar.tmp 3), (Go.ResultVar.tmp 4)]) (vs := [Value.int .u64 0, Value.int .i64 0, Value.int .i64 5]) (by kernel_rfl) (⟨by kernel_rfl, ⟨by kernel_rfl, ⟨by kernel_rfl, trivial⟩⟩⟩) (by kernel_rfl) ⟨0, 0, 5, rfl, h⟩
  · rintro e w' ⟨v, rfl, r0, r1, r2, rfl, h⟩; exact ⟨r0, r1, r2, rfl, h⟩
end Go.Proofs.Ytfmkemmgakdddaa
