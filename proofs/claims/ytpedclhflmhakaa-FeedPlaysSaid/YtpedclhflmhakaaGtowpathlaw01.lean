/- WRITTEN BY PROGRAM (dec.py): for each Go function the clean formula F, the call's contract C, and the proof S that F gives C. -/
import Derived.Test.YtpedclhflmhakaaRows
import Derived.Test.YtpedclhflmhakaaGF
namespace Go.Proofs.Ytpedclhflmhakaa
open Go
set_option linter.unusedVariables false

/-! ### towpath/towpathlaw01.SameTxn (function 22) -/
noncomputable def c_towpathlaw01_SameTxn_0 : Code := (Try.f22.body).getD Code.skip
noncomputable def c_towpathlaw01_SameTxn_1 : Code := Code.l c_towpathlaw01_SameTxn_0
noncomputable def r_towpathlaw01_SameTxn_1 : Array Oper := Code.ops c_towpathlaw01_SameTxn_1
noncomputable def c_towpathlaw01_SameTxn_3 : Code := Code.r c_towpathlaw01_SameTxn_0
noncomputable def c_towpathlaw01_SameTxn_4 : Code := Code.l c_towpathlaw01_SameTxn_3
noncomputable def r_towpathlaw01_SameTxn_4 : Array Oper := Code.ops c_towpathlaw01_SameTxn_4
noncomputable def c_towpathlaw01_SameTxn_6 : Code := Code.r c_towpathlaw01_SameTxn_3

set_option maxRecDepth 100000 in
set_option maxHeartbeats 4000000 in
theorem S_towpathlaw01_SameTxn {a_ : T_api_Txn} {b_ : T_api_Txn} {w : World} {R : Bool → World → Prop} (h : F_towpathlaw01_SameTxn a_ b_ R w) : C_towpathlaw01_SameTxn a_ b_ w R := by
  unfold F_towpathlaw01_SameTxn at h
  unfold C_towpathlaw01_SameTxn
  refine Calls.mono (calls_of_wpE (args := [Value.agg #[Value.int .i64 a_.Number, Value.slice a_.Writes.ptr a_.Writes.len a_.Writes.cap], Value.agg #[Value.int .i64 b_.Number, Value.slice b_.Writes.ptr b_.Writes.len b_.Writes.cap]]) (R := fun v w' => ∃ (r0 : Bool), v = Value.bool r0 ∧ R r0 w') Try.func22 (c := c_towpathlaw01_SameTxn_0) (by kernel_rfl) 17 (by kernel_rfl) (by kernel_rfl) [(0, Value.agg #[Value.int .i64 a_.Number, Value.slice a_.Writes.ptr a_.Writes.len a_.Writes.cap]), (1, Value.agg #[Value.int .i64 b_.Number, Value.slice b_.Writes.ptr b_.Writes.len b_.Writes.cap])] (by kernel_rfl) ?_) ?_
  · refine wpE_seq (x := c_towpathlaw01_SameTxn_1) (y := c_towpathlaw01_SameTxn_3) (by kernel_rfl) ?_
    refine wpE_region (id := 0) (ops := r_towpathlaw01_SameTxn_1) (by kernel_rfl) ?_
    refine reg_run [] 0 [(0, [], Value.agg #[Value.int .i64 a_.Number, Value.slice a_.Writes.ptr a_.Writes.len a_.Writes.cap]), (1, [], Value.agg #[Value.int .i64 b_.Number, Value.slice b_.Writes.ptr b_.Writes.len b_.Writes.cap])] (by kernel_rfl) (by kernel_rfl) ?_
    refine reg_new (op := (Go.Op.box 42 (Go.Operand.tmp 0))) (ty := 0) (dst := some 2) (fun bb => Value.pointer (some ⟨bb, 0, none⟩)) (Obj.cells ([Value.int .i64 a_.Number, Value.slice a_.Writes.ptr a_.Writes.len a_.Writes.cap]).toArray ty_api_Txn (0, 0)) (by kernel_rfl) (by kernel_rfl) (fun b_1 w1 hb hw => ?_)
    replace h := h b_1 w1 hb hw
    clear hb hw
    refine reg_run [] 1 [(1, [], Value.agg #[Value.int .i64 b_.Number, Value.slice b_.Writes.ptr b_.Writes.len b_.Writes.cap]), (2, [], Value.pointer (some ⟨b_1, 0, none⟩))] (by kernel_rfl) (by kernel_rfl) ?_
    refine reg_new (op := (Go.Op.box 42 (Go.Operand.tmp 1))) (ty := 0) (dst := some 3) (fun bb => Value.pointer (some ⟨bb, 0, none⟩)) (Obj.cells ([Value.int .i64 b_.Number, Value.slice b_.Writes.ptr b_.Writes.len b_.Writes.cap]).toArray ty_api_Txn (0, 0)) (by kernel_rfl) (by kernel_rfl) (fun b_2 w2 hb hw => ?_)
    replace h := h b_2 w2 hb hw
    clear hb hw
    refine reg_run [.plain] 3 [(2, [], Value.pointer (some ⟨b_1, 0, none⟩)), (3, [], Value.pointer (some ⟨b_2, 0, none⟩))] (by kernel_rfl) (by kernel_rfl) ?_
    refine reg_end [(2, Value.pointer (some ⟨b_1, 0, none⟩)), (3, Value.pointer (some ⟨b_2, 0, none⟩))] (by kernel_rfl) (by kernel_rfl) ?_
    change WpE _ _ c_towpathlaw01_SameTxn_3 _ _ _
    refine wpE_seq (x := c_towpathlaw01_SameTxn_4) (y := c_towpathlaw01_SameTxn_6) (by kernel_rfl) ?_
    refine wpE_region (id := 1) (ops := r_towpathlaw01_SameTxn_4) (by kernel_rfl) ?_
    refine reg_run [.plain] 1 [(2, [], Value.pointer (some ⟨b_1, 0, none⟩)), (3, [], Value.pointer (some ⟨b_2, 0, none⟩)), (5, [], Value.pointer (some ⟨b_1, 0, none⟩))] (by kernel_rfl) (by kernel_rfl) ?_
    obtain ⟨v6, hc, h⟩ := h
    refine reg_load1 (t := 3) (a := (Go.Operand.tmp 5)) (b := b_1) (o := 0) (ty := 3) (dst := some 6) (by kernel_rfl) (by kernel_rfl) (by kernel_rfl) hc ?_
    refine reg_run [.plain] 3 [(2, [], Value.pointer (some ⟨b_1, 0, none⟩)), (3, [], Value.pointer (some ⟨b_2, 0, none⟩)), (6, [], Value.int .i64 v6), (7, [], Value.pointer (some ⟨b_2, 0, none⟩))] (by kernel_rfl) (by kernel_rfl) ?_
    obtain ⟨v8, hc, h⟩ := h
    refine reg_load1 (t := 3) (a := (Go.Operand.tmp 7)) (b := b_2) (o := 0) (ty := 3) (dst := some 8) (by kernel_rfl) (by kernel_rfl) (by kernel_rfl) hc ?_
    refine reg_run [.plain, .plain, .plain] 7 [(3, [], Value.pointer (some ⟨b_2, 0, none⟩)), (10, [], Value.bool (v6 == v8)), (11, [(10, true)], Value.pointer (some ⟨b_1, 1, none⟩))] (by kernel_rfl) (by kernel_rfl) ?_
    refine reg_split 10 (v6 == v8) (by kernel_rfl) (fun hb => ?_) (fun hb => ?_)
    · replace h := h.1 hb
      refine reg_run [] 7 [(3, [], Value.pointer (some ⟨b_2, 0, none⟩)), (10, [], Value.bool true), (11, [], Value.pointer (some ⟨b_1, 1, none⟩))] (by kernel_rfl) (by kernel_rfl) ?_
      refine reg_run [] 7 [(3, [], Value.pointer (some ⟨b_2, 0, none⟩)), (10, [], Value.bool true), (11, [], Value.pointer (some ⟨b_1, 1, none⟩))] (by kernel_rfl) (by kernel_rfl) ?_
      obtain ⟨v12, hc, h⟩ := h
      refine reg_load1 (t := 40) (a := (Go.Operand.tmp 11)) (b := b_1) (o := 1) (ty := 40) (dst := some 12) (by kernel_rfl) (by kernel_rfl) (by kernel_rfl) hc ?_
      refine reg_run [.sure] 9 [(10, [], Value.bool true), (12, [], Value.slice v12.ptr v12.len v12.cap), (13, [], Value.pointer (some ⟨b_2, 1, none⟩))] (by kernel_rfl) (by kernel_rfl) ?_
      obtain ⟨v14, hc, h⟩ := h
      refine reg_load1 (t := 40) (a := (Go.Operand.tmp 13)) (b := b_2) (o := 1) (ty := 40) (dst := some 14) (by kernel_rfl) (by kernel_rfl) (by kernel_rfl) hc ?_
      refine reg_run [] 10 [(10, [], Value.bool true), (12, [], Value.slice v12.ptr v12.len v12.cap), (14, [], Value.slice v14.ptr v14.len v14.cap)] (by kernel_rfl) (by kernel_rfl) ?_
      refine reg_enter (op := (Go.Op.call (Go.Call.mk (Go.Callee.value (Go.Operand.func 52)) #[(Go.Operand.tmp 12), (Go.Operand.tmp 14)] #[40, 40]))) (ty := 4) (dst := some 15) 52 #[Value.slice v12.ptr v12.len v12.cap, Value.slice v14.ptr v14.len v14.cap] (by kernel_rfl) (fun ww => by kernel_rfl) (Calls.mono h ?_)
      rintro _ w3 ⟨v15, rfl, h⟩
      refine ⟨_, rfl, ?_⟩
      refine reg_run [.plain, .plain] 13 [(4, [], Value.bool v15)] (by kernel_rfl) (by kernel_rfl) ?_
      refine reg_end [(4, Value.bool v15)] (by kernel_rfl) (by kernel_rfl) ?_
      change WpE _ _ c_towpathlaw01_SameTxn_6 _ _ _
      refine wpE_ret (by kernel_rfl) ?_
      repeat (first | refine seqQ_ret ?_ | refine blockQ_ret ?_ | refine loopQ_ret ?_ | refine cutQ_ret ?_)
      exact retS (rs := [(Go.ResultVar.tmp 4)]) (v := Value.bool v15) (by kernel_rfl) (⟨by kernel_rfl, trivial⟩) ⟨v15, rfl, h⟩
    · replace h := h.2 hb
      refine reg_run [] 7 [(3, [], Value.pointer (some ⟨b_2, 0, none⟩)), (10, [], Value.bool false), (11, [], undef)] (by kernel_rfl) (by kernel_rfl) ?_
      refine reg_run [.skip, .skip, .skip, .skip, .plain, .plain] 13 [(4, [], Value.bool false)] (by kernel_rfl) (by kernel_rfl) ?_
      refine reg_end [(4, Value.bool false)] (by kernel_rfl) (by kernel_rfl) ?_
      change WpE _ _ c_towpathlaw01_SameTxn_6 _ _ _
      refine wpE_ret (by kernel_rfl) ?_
      repeat (first | refine seqQ_ret ?_ | refine blockQ_ret ?_ | refine loopQ_ret ?_ | refine cutQ_ret ?_)
      exact retS (rs := [(Go.ResultVar.tmp 4)]) (v := Value.bool false) (by kernel_rfl) (⟨by kernel_rfl, trivial⟩) ⟨false, rfl, h⟩
  · rintro e w' ⟨v, rfl, r0, rfl, h⟩; exact ⟨r0, rfl, h⟩

/-! ### towpath/towpathlaw01.TwinInts (function 42) -/
noncomputable def c_towpathlaw01_TwinInts_0 : Code := (Try.f42.body).getD Code.skip
noncomputable def c_towpathlaw01_TwinInts_1 : Code := Code.l c_towpathlaw01_TwinInts_0
noncomputable def r_towpathlaw01_TwinInts_1 : Array Oper := Code.ops c_towpathlaw01_TwinInts_1
noncomputable def c_towpathlaw01_TwinInts_3 : Code := Code.r c_towpathlaw01_TwinInts_0
noncomputable def c_towpathlaw01_TwinInts_4 : Code := Code.l c_towpathlaw01_TwinInts_3
noncomputable def r_towpathlaw01_TwinInts_4 : Array Oper := Code.ops c_towpathlaw01_TwinInts_4
noncomputable def c_towpathlaw01_TwinInts_6 : Code := Code.r c_towpathlaw01_TwinInts_3
noncomputable def c_towpathlaw01_TwinInts_7 : Code := Code.l c_towpathlaw01_TwinInts_6
noncomputable def c_towpathlaw01_TwinInts_8 : Code := Code.l c_towpathlaw01_TwinInts_7
noncomputable def r_towpathlaw01_TwinInts_8 : Array Oper := Code.ops c_towpathlaw01_TwinInts_8
noncomputable def c_towpathlaw01_TwinInts_10 : Code := Code.r c_towpathlaw01_TwinInts_7
noncomputable def c_towpathlaw01_TwinInts_11 : Code := Code.l c_towpathlaw01_TwinInts_10
noncomputable def c_towpathlaw01_TwinInts_12 : Code := Code.l c_towpathlaw01_TwinInts_11
noncomputable def c_towpathlaw01_TwinInts_13 : Code := Code.l c_towpathlaw01_TwinInts_12
noncomputable def c_towpathlaw01_TwinInts_14 : Code := Code.l c_towpathlaw01_TwinInts_13
noncomputable def r_towpathlaw01_TwinInts_14 : Array Oper := Code.ops c_towpathlaw01_TwinInts_14
noncomputable def c_towpathlaw01_TwinInts_16 : Code := Code.r c_towpathlaw01_TwinInts_13
noncomputable def c_towpathlaw01_TwinInts_17 : Code := Code.l c_towpathlaw01_TwinInts_16
noncomputable def c_towpathlaw01_TwinInts_18 : Code := Code.r c_towpathlaw01_TwinInts_16
noncomputable def c_towpathlaw01_TwinInts_19 : Code := Code.r c_towpathlaw01_TwinInts_12
noncomputable def c_towpathlaw01_TwinInts_20 : Code := Code.l c_towpathlaw01_TwinInts_19
noncomputable def c_towpathlaw01_TwinInts_21 : Code := Code.l c_towpathlaw01_TwinInts_20
noncomputable def r_towpathlaw01_TwinInts_21 : Array Oper := Code.ops c_towpathlaw01_TwinInts_21
noncomputable def c_towpathlaw01_TwinInts_23 : Code := Code.r c_towpathlaw01_TwinInts_19
noncomputable def r_towpathlaw01_TwinInts_23 : Array Oper := Code.ops c_towpathlaw01_TwinInts_23
noncomputable def c_towpathlaw01_TwinInts_25 : Code := Code.r c_towpathlaw01_TwinInts_6
noncomputable def c_towpathlaw01_TwinInts_26 : Code := Code.l c_towpathlaw01_TwinInts_25
noncomputable def r_towpathlaw01_TwinInts_26 : Array Oper := Code.ops c_towpathlaw01_TwinInts_26
noncomputable def c_towpathlaw01_TwinInts_28 : Code := Code.r c_towpathlaw01_TwinInts_25

set_option maxRecDepth 100000 in
set_option maxHeartbeats 4000000 in
theorem S_towpathlaw01_TwinInts {l_ : Slc} {w : World} {R : Slc → World → Prop} (h : F_towpathlaw01_TwinInts l_ R w) : C_towpathlaw01_TwinInts l_ w R := by
  unfold F_towpathlaw01_TwinInts at h
  unfold C_towpathlaw01_TwinInts
  refine Calls.mono (calls_of_wpE (args := [Value.slice l_.ptr l_.len l_.cap]) (R := fun v w' => ∃ (r0 : Slc), v = Value.slice r0.ptr r0.len r0.cap ∧ R r0 w') Try.func42 (c := c_towpathlaw01_TwinInts_0) (by kernel_rfl) 28 (by kernel_rfl) (by kernel_rfl) [(0, Value.slice l_.ptr l_.len l_.cap)] (by kernel_rfl) ?_) ?_
  · refine wpE_seq (x := c_towpathlaw01_TwinInts_1) (y := c_towpathlaw01_TwinInts_3) (by kernel_rfl) ?_
    refine wpE_region (id := 0) (ops := r_towpathlaw01_TwinInts_1) (by kernel_rfl) ?_
    refine reg_run [.plain] 1 [(0, [], Value.slice l_.ptr l_.len l_.cap)] (by kernel_rfl) (by kernel_rfl) ?_
    refine reg_end [(0, Value.slice l_.ptr l_.len l_.cap)] (by kernel_rfl) (by kernel_rfl) ?_
    change WpE _ _ c_towpathlaw01_TwinInts_3 _ _ _
    refine wpE_seq (x := c_towpathlaw01_TwinInts_4) (y := c_towpathlaw01_TwinInts_6) (by kernel_rfl) ?_
    refine wpE_region (id := 1) (ops := r_towpathlaw01_TwinInts_4) (by kernel_rfl) ?_
    refine reg_run [.plain, .plain, .plain] 3 [(0, [], Value.slice l_.ptr l_.len l_.cap), (7, [], Value.int .i64 (IntKind.i64.wrap (((l_.len : Nat) : Int) + 1)))] (by kernel_rfl) (by kernel_rfl) ?_
    obtain ⟨h0, h1, h2, h⟩ := h
    refine reg_makeSlice (t := 23) (e := 3) (lo := (Go.Operand.const (Go.Value.int Go.IntKind.i64 0))) (co := (Go.Operand.tmp 7)) (l := 0) (c := (IntKind.i64.wrap (((l_.len : Nat) : Int) + 1))) (sz := 1) (by_ := 8) (zs := [Value.int .i64 0]) (ty := 23) (dst := some 8) (by kernel_rfl) (by kernel_rfl) (by kernel_rfl) (by kernel_rfl) (by kernel_rfl) (by kernel_rfl) (by kernel_rfl) (by kernel_rfl) (by kernel_rfl) h0 h1 h2 (fun b_ w1 hb hw => ?_)
    replace h := h b_ w1 hb hw
    clear hb hw
    refine reg_run [.plain] 5 [(0, [], Value.slice l_.ptr l_.len l_.cap), (3, [], Value.slice (some ⟨b_, 0, none⟩) 0 ((IntKind.i64.wrap (((l_.len : Nat) : Int) + 1)).toNat))] (by kernel_rfl) (by kernel_rfl) ?_
    refine reg_end [(0, Value.slice l_.ptr l_.len l_.cap), (3, Value.slice (some ⟨b_, 0, none⟩) 0 ((IntKind.i64.wrap (((l_.len : Nat) : Int) + 1)).toNat))] (by kernel_rfl) (by kernel_rfl) ?_
    change WpE _ _ c_towpathlaw01_TwinInts_6 _ _ _
    refine wpE_seq (x := c_towpathlaw01_TwinInts_7) (y := c_towpathlaw01_TwinInts_25) (by kernel_rfl) ?_
    refine wpE_seq (x := c_towpathlaw01_TwinInts_8) (y := c_towpathlaw01_TwinInts_10) (by kernel_rfl) ?_
    refine wpE_region (id := 2) (ops := r_towpathlaw01_TwinInts_8) (by kernel_rfl) ?_
    refine reg_run [.plain] 1 [(0, [], Value.slice l_.ptr l_.len l_.cap), (3, [], Value.slice (some ⟨b_, 0, none⟩) 0 ((IntKind.i64.wrap (((l_.len : Nat) : Int) + 1)).toNat)), (4, [], Value.int .i64 0)] (by kernel_rfl) (by kernel_rfl) ?_
    refine reg_end [(0, Value.slice l_.ptr l_.len l_.cap), (3, Value.slice (some ⟨b_, 0, none⟩) 0 ((IntKind.i64.wrap (((l_.len : Nat) : Int) + 1)).toNat)), (4, Value.int .i64 0)] (by kernel_rfl) (by kernel_rfl) ?_
    change WpE _ _ c_towpathlaw01_TwinInts_10 _ _ _
    refine wpE_block (id := 0) (x := c_towpathlaw01_TwinInts_11) (by kernel_rfl) ?_
    obtain ⟨I, μ, h0, hr⟩ := h
    refine wpE_loop (x := c_towpathlaw01_TwinInts_12) (by kernel_rfl) (fun m l w => ∃ (t_ : Slc) (i : Int), l = [(0, Value.slice l_.ptr l_.len l_.cap), (3, Value.slice t_.ptr t_.len t_.cap), (4, Value.int .i64 i)] ∧ I t_ i w ∧ μ t_ i w = m) (l' := [(0, Value.slice l_.ptr l_.len l_.cap), (3, Value.slice (some ⟨b_, 0, none⟩) 0 ((IntKind.i64.wrap (((l_.len : Nat) : Int) + 1)).toNat)), (4, Value.int .i64 0)]) (Sub.mk (by kernel_rfl)) ⟨(Slc.mk (some ⟨b_, 0, none⟩) 0 ((IntKind.i64.wrap (((l_.len : Nat) : Int) + 1)).toNat)), 0, rfl, h0, rfl⟩ ?_
    rintro _ _ w2 ⟨t_, i, rfl, hI, rfl⟩
    obtain ⟨again_, again__h, h⟩ : ∃ again_ : Slc → Int → World → Prop, (∀ t_' i' w', again_ t_' i' w' → I t_' i' w' ∧ μ t_' i' w' < μ t_ i w2) ∧ F_towpathlaw01_TwinInts_L0 l_ R again_ t_ i w2 := ⟨_, fun _ _ _ h => h, hr t_ i w2 hI⟩
    clear h0 hI
    unfold F_towpathlaw01_TwinInts_L0 at h
    refine wpE_seq (x := c_towpathlaw01_TwinInts_13) (y := c_towpathlaw01_TwinInts_19) (by kernel_rfl) ?_
    refine wpE_seq (x := c_towpathlaw01_TwinInts_14) (y := c_towpathlaw01_TwinInts_16) (by kernel_rfl) ?_
    refine wpE_region (id := 3) (ops := r_towpathlaw01_TwinInts_14) (by kernel_rfl) ?_
    refine reg_run [.plain, .plain, .plain, .plain] 4 [(0, [], Value.slice l_.ptr l_.len l_.cap), (3, [], Value.slice t_.ptr t_.len t_.cap), (4, [], Value.int .i64 i), (12, [], Value.bool (decide (i < ((l_.len : Nat) : Int))))] (by kernel_rfl) (by kernel_rfl) ?_
    refine reg_end [(0, Value.slice l_.ptr l_.len l_.cap), (3, Value.slice t_.ptr t_.len t_.cap), (4, Value.int .i64 i), (12, Value.bool (decide (i < ((l_.len : Nat) : Int))))] (by kernel_rfl) (by kernel_rfl) ?_
    change WpE _ _ c_towpathlaw01_TwinInts_16 _ _ _
    refine wpE_cond (o := (Operand.tmp 12)) (b := (decide (i < ((l_.len : Nat) : Int)))) (x := c_towpathlaw01_TwinInts_17) (y := c_towpathlaw01_TwinInts_18) (by kernel_rfl) (by kernel_rfl) (fun hb => ?_) (fun hb => ?_)
    · replace h := h.1 hb
      refine wpE_skip (by kernel_rfl) ?_
      change WpE _ _ c_towpathlaw01_TwinInts_19 _ _ _
      refine wpE_seq (x := c_towpathlaw01_TwinInts_20) (y := c_towpathlaw01_TwinInts_23) (by kernel_rfl) ?_
      refine wpE_block (id := 1) (x := c_towpathlaw01_TwinInts_21) (by kernel_rfl) ?_
      refine wpE_region (id := 5) (ops := r_towpathlaw01_TwinInts_21) (by kernel_rfl) ?_
      refine reg_run [.plain, .plain, .plain] 3 [(0, [], Value.slice l_.ptr l_.len l_.cap), (3, [], Value.slice t_.ptr t_.len t_.cap), (4, [], Value.int .i64 i), (15, [], Value.slice t_.ptr t_.len t_.cap), (16, [], Value.slice l_.ptr l_.len l_.cap), (17, [], Value.int .i64 i)] (by kernel_rfl) (by kernel_rfl) ?_
      obtain ⟨hp_3, h⟩ := h
      refine reg_conv [(0, [], Value.slice l_.ptr l_.len l_.cap), (3, [], Value.slice t_.ptr t_.len t_.cap), (4, [], Value.int .i64 i), (15, [], Value.slice t_.ptr t_.len t_.cap), (16, [], Value.slice (some ⟨(pblk l_.ptr), (poff l_.ptr), none⟩) l_.len l_.cap), (17, [], Value.int .i64 i)] (congrArg (fun pp => ([(0, [], Value.slice l_.ptr l_.len l_.cap), (3, [], Value.slice t_.ptr t_.len t_.cap), (4, [], Value.int .i64 i), (15, [], Value.slice t_.ptr t_.len t_.cap), (16, [], Value.slice pp l_.len l_.cap), (17, [], Value.int .i64 i)] : GEnv)) hp_3) ?_
      obtain ⟨h0, h1, h⟩ := h
      refine reg_indexS1 (t := 23) (e := 3) (x := (Go.Operand.tmp 16)) (ix := (Go.Operand.tmp 17)) (b := (pblk l_.ptr)) (o := (poff l_.ptr)) (l := l_.len) (c := l_.cap) (k := .i64) (j := i) (ty := 0) (dst := some 18) (by kernel_rfl) (by kernel_rfl) (by kernel_rfl) (by kernel_rfl) (by kernel_rfl) h0 h1 ?_
      refine reg_run [] 4 [(0, [], Value.slice l_.ptr l_.len l_.cap), (3, [], Value.slice t_.ptr t_.len t_.cap), (4, [], Value.int .i64 i), (15, [], Value.slice t_.ptr t_.len t_.cap), (18, [], Value.pointer (some ⟨(pblk l_.ptr), (poff l_.ptr) + i.toNat, none⟩))] (by kernel_rfl) (by kernel_rfl) ?_
      obtain ⟨v19, hc, h⟩ := h
      refine reg_load1 (t := 3) (a := (Go.Operand.tmp 18)) (b := (pblk l_.ptr)) (o := ((poff l_.ptr) + i.toNat)) (ty := 3) (dst := some 19) (by kernel_rfl) (by kernel_rfl) (by kernel_rfl) hc ?_
      refine reg_run [] 5 [(0, [], Value.slice l_.ptr l_.len l_.cap), (3, [], Value.slice t_.ptr t_.len t_.cap), (4, [], Value.int .i64 i), (15, [], Value.slice t_.ptr t_.len t_.cap), (19, [], Value.int .i64 v19)] (by kernel_rfl) (by kernel_rfl) ?_
      refine reg_new (op := (Go.Op.buildSlice 23 1 #[(0, (Go.Operand.tmp 19))])) (ty := 23) (dst := some 20) (fun bb => Value.slice (some ⟨bb, 0, none⟩) 1 1) (Obj.cells ([Value.int .i64 v19]).toArray ty_int (0, 0)) (by kernel_rfl) (by kernel_rfl) (fun b_1 w3 hb hw => ?_)
      replace h := h b_1 w3 hb hw
      clear hb hw
      refine reg_run [] 6 [(0, [], Value.slice l_.ptr l_.len l_.cap), (3, [], Value.slice t_.ptr t_.len t_.cap), (4, [], Value.int .i64 i), (15, [], Value.slice t_.ptr t_.len t_.cap), (20, [], Value.slice (some ⟨b_1, 0, none⟩) 1 1)] (by kernel_rfl) (by kernel_rfl) ?_
      obtain ⟨src, hs, h⟩ := h
      refine reg_append (t := 23) (tx := 23) (e := 3) (a := (Go.Operand.tmp 15)) (xo := (Go.Operand.tmp 20)) (s := t_) (x := (Slc.mk (some ⟨b_1, 0, none⟩) 1 1)) (sz := 1) (by_ := 8) (zs := [Value.int .i64 0]) (ty := 23) (dst := some 21)  src (by kernel_rfl) (by kernel_rfl) (by kernel_rfl) (by kernel_rfl) (by kernel_rfl) (by kernel_rfl) (by kernel_rfl) (by kernel_rfl) (by kernel_rfl) hs (AppendW.mono h (fun t_1 w4 h => ?_))
      refine reg_run [.plain] 8 [(0, [], Value.slice l_.ptr l_.len l_.cap), (3, [], Value.slice t_1.ptr t_1.len t_1.cap), (4, [], Value.int .i64 i)] (by kernel_rfl) (by kernel_rfl) ?_
      refine reg_end [(0, Value.slice l_.ptr l_.len l_.cap), (3, Value.slice t_1.ptr t_1.len t_1.cap), (4, Value.int .i64 i)] (by kernel_rfl) (by kernel_rfl) ?_
      change WpE _ _ c_towpathlaw01_TwinInts_23 _ _ _
      refine wpE_region (id := 4) (ops := r_towpathlaw01_TwinInts_23) (by kernel_rfl) ?_
      refine reg_run [.plain, .plain, .plain] 3 [(0, [], Value.slice l_.ptr l_.len l_.cap), (3, [], Value.slice t_1.ptr t_1.len t_1.cap), (4, [], Value.int .i64 (IntKind.i64.wrap (i + 1)))] (by kernel_rfl) (by kernel_rfl) ?_
      refine reg_end [(0, Value.slice l_.ptr l_.len l_.cap), (3, Value.slice t_1.ptr t_1.len t_1.cap), (4, Value.int .i64 (IntKind.i64.wrap (i + 1)))] (by kernel_rfl) (by kernel_rfl) ?_
      have hb_ := again__h _ _ _ h
      exact ⟨_, hb_.2, [(0, Value.slice l_.ptr l_.len l_.cap), (3, Value.slice t_1.ptr t_1.len t_1.cap), (4, Value.int .i64 (IntKind.i64.wrap (i + 1)))], Sub.mk (by kernel_rfl), t_1, (IntKind.i64.wrap (i + 1)), rfl, hb_.1, rfl⟩
    · replace h := h.2 hb
      refine wpE_exit (id := 0) (by kernel_rfl) ?_
      change WpE _ _ c_towpathlaw01_TwinInts_25 _ _ _
      refine wpE_seq (x := c_towpathlaw01_TwinInts_26) (y := c_towpathlaw01_TwinInts_28) (by kernel_rfl) ?_
      refine wpE_region (id := 6) (ops := r_towpathlaw01_TwinInts_26) (by kernel_rfl) ?_
      refine reg_run [.plain] 1 [(0, [], Value.slice l_.ptr l_.len l_.cap), (22, [], Value.slice t_.ptr t_.len t_.cap)] (by kernel_rfl) (by kernel_rfl) ?_
      refine reg_new (op := (Go.Op.buildSlice 23 1 #[(0, (Go.Operand.const (Go.Value.int Go.IntKind.i64 7777)))])) (ty := 23) (dst := some 23) (fun bb => Value.slice (some ⟨bb, 0, none⟩) 1 1) (Obj.cells ([Value.int .i64 7777]).toArray ty_int (0, 0)) (by kernel_rfl) (by kernel_rfl) (fun b_2 w5 hb hw => ?_)
      replace h := h b_2 w5 hb hw
      clear hb hw
      refine reg_run [] 2 [(0, [], Value.slice l_.ptr l_.len l_.cap), (22, [], Value.slice t_.ptr t_.len t_.cap), (23, [], Value.slice (some ⟨b_2, 0, none⟩) 1 1)] (by kernel_rfl) (by kernel_rfl) ?_
      obtain ⟨src, hs, h⟩ := h
      refine reg_append (t := 23) (tx := 23) (e := 3) (a := (Go.Operand.tmp 22)) (xo := (Go.Operand.tmp 23)) (s := t_) (x := (Slc.mk (some ⟨b_2, 0, none⟩) 1 1)) (sz := 1) (by_ := 8) (zs := [Value.int .i64 0]) (ty := 23) (dst := some 24)  src (by kernel_rfl) (by kernel_rfl) (by kernel_rfl) (by kernel_rfl) (by kernel_rfl) (by kernel_rfl) (by kernel_rfl) (by kernel_rfl) (by kernel_rfl) hs (AppendW.mono h (fun v24 w6 h => ?_))
      refine reg_run [.plain, .plain] 5 [(24, [], Value.slice v24.ptr v24.len v24.cap), (26, [], Value.int .i64 ((l_.len : Nat) : Int))] (by kernel_rfl) (by kernel_rfl) ?_
      obtain ⟨h0, h1, h⟩ := h
      refine reg_sliceHi (t := 23) (e := 3) (x := (Go.Operand.tmp 24)) (hi := (Go.Operand.tmp 26)) (p := v24.ptr) (l := v24.len) (c := v24.cap) (sz := 1) (k := .i64) (j := ((l_.len : Nat) : Int)) (ty := 23) (dst := some 27) (by kernel_rfl) (by kernel_rfl) (by kernel_rfl) (by kernel_rfl) (by kernel_rfl) h0 h1 ?_
      refine reg_run [.plain] 7 [(2, [], Value.slice v24.ptr (((l_.len : Nat) : Int).toNat) v24.cap)] (by kernel_rfl) (by kernel_rfl) ?_
      refine reg_end [(2, Value.slice v24.ptr (((l_.len : Nat) : Int).toNat) v24.cap)] (by kernel_rfl) (by kernel_rfl) ?_
      change WpE _ _ c_towpathlaw01_TwinInts_28 _ _ _
      refine wpE_ret (by kernel_rfl) ?_
      repeat (first | refine seqQ_ret ?_ | refine blockQ_ret ?_ | refine loopQ_ret ?_ | refine cutQ_ret ?_)
      exact retS (rs := [(Go.ResultVar.tmp 2)]) (v := Value.slice v24.ptr (((l_.len : Nat) : Int).toNat) v24.cap) (by kernel_rfl) (⟨by kernel_rfl, trivial⟩) ⟨(Slc.mk v24.ptr (((l_.len : Nat) : Int).toNat) v24.cap), rfl, h⟩
  · rintro e w' ⟨v, rfl, r0, rfl, h⟩; exact ⟨r0, rfl, h⟩

/-! ### towpath/towpathlaw01.LeftInts (function 44) -/
noncomputable def c_towpathlaw01_LeftInts_0 : Code := (Try.f44.body).getD Code.skip
noncomputable def c_towpathlaw01_LeftInts_1 : Code := Code.l c_towpathlaw01_LeftInts_0
noncomputable def r_towpathlaw01_LeftInts_1 : Array Oper := Code.ops c_towpathlaw01_LeftInts_1
noncomputable def c_towpathlaw01_LeftInts_3 : Code := Code.r c_towpathlaw01_LeftInts_0
noncomputable def c_towpathlaw01_LeftInts_4 : Code := Code.l c_towpathlaw01_LeftInts_3
noncomputable def c_towpathlaw01_LeftInts_5 : Code := Code.l c_towpathlaw01_LeftInts_4
noncomputable def r_towpathlaw01_LeftInts_5 : Array Oper := Code.ops c_towpathlaw01_LeftInts_5
noncomputable def c_towpathlaw01_LeftInts_7 : Code := Code.r c_towpathlaw01_LeftInts_4
noncomputable def c_towpathlaw01_LeftInts_8 : Code := Code.l c_towpathlaw01_LeftInts_7
noncomputable def c_towpathlaw01_LeftInts_9 : Code := Code.l c_towpathlaw01_LeftInts_8
noncomputable def r_towpathlaw01_LeftInts_9 : Array Oper := Code.ops c_towpathlaw01_LeftInts_9
noncomputable def c_towpathlaw01_LeftInts_11 : Code := Code.r c_towpathlaw01_LeftInts_8
noncomputable def c_towpathlaw01_LeftInts_12 : Code := Code.r c_towpathlaw01_LeftInts_7
noncomputable def c_towpathlaw01_LeftInts_13 : Code := Code.r c_towpathlaw01_LeftInts_3
noncomputable def c_towpathlaw01_LeftInts_14 : Code := Code.l c_towpathlaw01_LeftInts_13
noncomputable def c_towpathlaw01_LeftInts_15 : Code := Code.l c_towpathlaw01_LeftInts_14
noncomputable def r_towpathlaw01_LeftInts_15 : Array Oper := Code.ops c_towpathlaw01_LeftInts_15
noncomputable def c_towpathlaw01_LeftInts_17 : Code := Code.r c_towpathlaw01_LeftInts_14
noncomputable def c_towpathlaw01_LeftInts_18 : Code := Code.l c_towpathlaw01_LeftInts_17
noncomputable def c_towpathlaw01_LeftInts_19 : Code := Code.l c_towpathlaw01_LeftInts_18
noncomputable def c_towpathlaw01_LeftInts_20 : Code := Code.l c_towpathlaw01_LeftInts_19
noncomputable def c_towpathlaw01_LeftInts_21 : Code := Code.l c_towpathlaw01_LeftInts_20
noncomputable def r_towpathlaw01_LeftInts_21 : Array Oper := Code.ops c_towpathlaw01_LeftInts_21
noncomputable def c_towpathlaw01_LeftInts_23 : Code := Code.r c_towpathlaw01_LeftInts_20
noncomputable def c_towpathlaw01_LeftInts_24 : Code := Code.l c_towpathlaw01_LeftInts_23
noncomputable def c_towpathlaw01_LeftInts_25 : Code := Code.r c_towpathlaw01_LeftInts_23
noncomputable def c_towpathlaw01_LeftInts_26 : Code := Code.r c_towpathlaw01_LeftInts_19
noncomputable def c_towpathlaw01_LeftInts_27 : Code := Code.l c_towpathlaw01_LeftInts_26
noncomputable def c_towpathlaw01_LeftInts_28 : Code := Code.l c_towpathlaw01_LeftInts_27
noncomputable def c_towpathlaw01_LeftInts_29 : Code := Code.l c_towpathlaw01_LeftInts_28
noncomputable def r_towpathlaw01_LeftInts_29 : Array Oper := Code.ops c_towpathlaw01_LeftInts_29
noncomputable def c_towpathlaw01_LeftInts_31 : Code := Code.r c_towpathlaw01_LeftInts_28
noncomputable def c_towpathlaw01_LeftInts_32 : Code := Code.l c_towpathlaw01_LeftInts_31
noncomputable def c_towpathlaw01_LeftInts_33 : Code := Code.l c_towpathlaw01_LeftInts_32
noncomputable def r_towpathlaw01_LeftInts_33 : Array Oper := Code.ops c_towpathlaw01_LeftInts_33
noncomputable def c_towpathlaw01_LeftInts_35 : Code := Code.r c_towpathlaw01_LeftInts_32
noncomputable def c_towpathlaw01_LeftInts_36 : Code := Code.r c_towpathlaw01_LeftInts_31
noncomputable def c_towpathlaw01_LeftInts_37 : Code := Code.r c_towpathlaw01_LeftInts_26
noncomputable def r_towpathlaw01_LeftInts_37 : Array Oper := Code.ops c_towpathlaw01_LeftInts_37
noncomputable def c_towpathlaw01_LeftInts_39 : Code := Code.r c_towpathlaw01_LeftInts_13
noncomputable def c_towpathlaw01_LeftInts_40 : Code := Code.l c_towpathlaw01_LeftInts_39
noncomputable def r_towpathlaw01_LeftInts_40 : Array Oper := Code.ops c_towpathlaw01_LeftInts_40
noncomputable def c_towpathlaw01_LeftInts_42 : Code := Code.r c_towpathlaw01_LeftInts_39
noncomputable def c_towpathlaw01_LeftInts_43 : Code := Code.l c_towpathlaw01_LeftInts_42
noncomputable def r_towpathlaw01_LeftInts_43 : Array Oper := Code.ops c_towpathlaw01_LeftInts_43
noncomputable def c_towpathlaw01_LeftInts_45 : Code := Code.r c_towpathlaw01_LeftInts_42

set_option maxRecDepth 100000 in
set_option maxHeartbeats 4000000 in
theorem S_towpathlaw01_LeftInts {t_ : Slc} {l_ : Slc} {w : World} {R : Bool → World → Prop} (h : F_towpathlaw01_LeftInts t_ l_ R w) : C_towpathlaw01_LeftInts t_ l_ w R := by
  unfold F_towpathlaw01_LeftInts at h
  unfold C_towpathlaw01_LeftInts
  refine Calls.mono (calls_of_wpE (args := [Value.slice t_.ptr t_.len t_.cap, Value.slice l_.ptr l_.len l_.cap]) (R := fun v w' => ∃ (r0 : Bool), v = Value.bool r0 ∧ R r0 w') Try.func44 (c := c_towpathlaw01_LeftInts_0) (by kernel_rfl) 45 (by kernel_rfl) (by kernel_rfl) [(0, Value.slice t_.ptr t_.len t_.cap), (1, Value.slice l_.ptr l_.len l_.cap)] (by kernel_rfl) ?_) ?_
  · refine wpE_seq (x := c_towpathlaw01_LeftInts_1) (y := c_towpathlaw01_LeftInts_3) (by kernel_rfl) ?_
    refine wpE_region (id := 0) (ops := r_towpathlaw01_LeftInts_1) (by kernel_rfl) ?_
    refine reg_run [.plain] 1 [(0, [], Value.slice t_.ptr t_.len t_.cap), (1, [], Value.slice l_.ptr l_.len l_.cap)] (by kernel_rfl) (by kernel_rfl) ?_
    refine reg_end [(0, Value.slice t_.ptr t_.len t_.cap), (1, Value.slice l_.ptr l_.len l_.cap)] (by kernel_rfl) (by kernel_rfl) ?_
    change WpE _ _ c_towpathlaw01_LeftInts_3 _ _ _
    refine wpE_seq (x := c_towpathlaw01_LeftInts_4) (y := c_towpathlaw01_LeftInts_13) (by kernel_rfl) ?_
    refine wpE_seq (x := c_towpathlaw01_LeftInts_5) (y := c_towpathlaw01_LeftInts_7) (by kernel_rfl) ?_
    refine wpE_region (id := 1) (ops := r_towpathlaw01_LeftInts_5) (by kernel_rfl) ?_
    refine reg_run [.plain, .plain, .plain, .plain, .plain, .plain, .plain, .plain, .plain, .plain, .plain, .pick] 12 [(0, [], Value.slice t_.ptr t_.len t_.cap), (1, [], Value.slice l_.ptr l_.len l_.cap), (18, [], Value.bool ((((t_.len : Nat) : Int) != ((l_.len : Nat) : Int)) || (decide (((t_.cap : Nat) : Int) ≤ ((l_.len : Nat) : Int)))))] (by kernel_rfl) (by kernel_rfl) ?_
    refine reg_end [(0, Value.slice t_.ptr t_.len t_.cap), (1, Value.slice l_.ptr l_.len l_.cap), (18, Value.bool ((((t_.len : Nat) : Int) != ((l_.len : Nat) : Int)) || (decide (((t_.cap : Nat) : Int) ≤ ((l_.len : Nat) : Int)))))] (by kernel_rfl) (by kernel_rfl) ?_
    change WpE _ _ c_towpathlaw01_LeftInts_7 _ _ _
    refine wpE_cond (o := (Operand.tmp 18)) (b := ((((t_.len : Nat) : Int) != ((l_.len : Nat) : Int)) || (decide (((t_.cap : Nat) : Int) ≤ ((l_.len : Nat) : Int))))) (x := c_towpathlaw01_LeftInts_8) (y := c_towpathlaw01_LeftInts_12) (by kernel_rfl) (by kernel_rfl) (fun hb => ?_) (fun hb => ?_)
    · replace h := h.1 hb
      refine wpE_seq (x := c_towpathlaw01_LeftInts_9) (y := c_towpathlaw01_LeftInts_11) (by kernel_rfl) ?_
      refine wpE_region (id := 2) (ops := r_towpathlaw01_LeftInts_9) (by kernel_rfl) ?_
      refine reg_run [.plain] 1 [(4, [], Value.bool false)] (by kernel_rfl) (by kernel_rfl) ?_
      refine reg_end [(4, Value.bool false)] (by kernel_rfl) (by kernel_rfl) ?_
      change WpE _ _ c_towpathlaw01_LeftInts_11 _ _ _
      refine wpE_ret (by kernel_rfl) ?_
      repeat (first | refine seqQ_ret ?_ | refine blockQ_ret ?_ | refine loopQ_ret ?_ | refine cutQ_ret ?_)
      exact retS (rs := [(Go.ResultVar.tmp 4)]) (v := Value.bool false) (by kernel_rfl) (⟨by kernel_rfl, trivial⟩) ⟨false, rfl, h⟩
    · replace h := h.2 hb
      refine wpE_skip (by kernel_rfl) ?_
      change WpE _ _ c_towpathlaw01_LeftInts_13 _ _ _
      refine wpE_seq (x := c_towpathlaw01_LeftInts_14) (y := c_towpathlaw01_LeftInts_39) (by kernel_rfl) ?_
      refine wpE_seq (x := c_towpathlaw01_LeftInts_15) (y := c_towpathlaw01_LeftInts_17) (by kernel_rfl) ?_
      refine wpE_region (id := 3) (ops := r_towpathlaw01_LeftInts_15) (by kernel_rfl) ?_
      refine reg_run [.plain] 1 [(0, [], Value.slice t_.ptr t_.len t_.cap), (1, [], Value.slice l_.ptr l_.len l_.cap), (5, [], Value.int .i64 0)] (by kernel_rfl) (by kernel_rfl) ?_
      refine reg_end [(0, Value.slice t_.ptr t_.len t_.cap), (1, Value.slice l_.ptr l_.len l_.cap), (5, Value.int .i64 0)] (by kernel_rfl) (by kernel_rfl) ?_
      change WpE _ _ c_towpathlaw01_LeftInts_17 _ _ _
      refine wpE_block (id := 0) (x := c_towpathlaw01_LeftInts_18) (by kernel_rfl) ?_
      obtain ⟨I, μ, h0, hr⟩ := h
      refine wpE_loop (x := c_towpathlaw01_LeftInts_19) (by kernel_rfl) (fun m l w => ∃ (i : Int), l = [(0, Value.slice t_.ptr t_.len t_.cap), (1, Value.slice l_.ptr l_.len l_.cap), (5, Value.int .i64 i)] ∧ I i w ∧ μ i w = m) (l' := [(0, Value.slice t_.ptr t_.len t_.cap), (1, Value.slice l_.ptr l_.len l_.cap), (5, Value.int .i64 0)]) (Sub.mk (by kernel_rfl)) ⟨0, rfl, h0, rfl⟩ ?_
      rintro _ _ w1 ⟨i, rfl, hI, rfl⟩
      obtain ⟨again_, again__h, h⟩ : ∃ again_ : Int → World → Prop, (∀ i' w', again_ i' w' → I i' w' ∧ μ i' w' < μ i w1) ∧ F_towpathlaw01_LeftInts_L0 t_ l_ R again_ i w1 := ⟨_, fun _ _ h => h, hr i w1 hI⟩
      clear h0 hI
      unfold F_towpathlaw01_LeftInts_L0 at h
      refine wpE_seq (x := c_towpathlaw01_LeftInts_20) (y := c_towpathlaw01_LeftInts_26) (by kernel_rfl) ?_
      refine wpE_seq (x := c_towpathlaw01_LeftInts_21) (y := c_towpathlaw01_LeftInts_23) (by kernel_rfl) ?_
      refine wpE_region (id := 4) (ops := r_towpathlaw01_LeftInts_21) (by kernel_rfl) ?_
      refine reg_run [.plain, .plain, .plain, .plain] 4 [(0, [], Value.slice t_.ptr t_.len t_.cap), (1, [], Value.slice l_.ptr l_.len l_.cap), (5, [], Value.int .i64 i), (22, [], Value.bool (decide (i < ((l_.len : Nat) : Int))))] (by kernel_rfl) (by kernel_rfl) ?_
      refine reg_end [(0, Value.slice t_.ptr t_.len t_.cap), (1, Value.slice l_.ptr l_.len l_.cap), (5, Value.int .i64 i), (22, Value.bool (decide (i < ((l_.len : Nat) : Int))))] (by kernel_rfl) (by kernel_rfl) ?_
      change WpE _ _ c_towpathlaw01_LeftInts_23 _ _ _
      refine wpE_cond (o := (Operand.tmp 22)) (b := (decide (i < ((l_.len : Nat) : Int)))) (x := c_towpathlaw01_LeftInts_24) (y := c_towpathlaw01_LeftInts_25) (by kernel_rfl) (by kernel_rfl) (fun hb => ?_) (fun hb => ?_)
      · replace h := h.1 hb
        refine wpE_skip (by kernel_rfl) ?_
        change WpE _ _ c_towpathlaw01_LeftInts_26 _ _ _
        refine wpE_seq (x := c_towpathlaw01_LeftInts_27) (y := c_towpathlaw01_LeftInts_37) (by kernel_rfl) ?_
        refine wpE_block (id := 1) (x := c_towpathlaw01_LeftInts_28) (by kernel_rfl) ?_
        refine wpE_seq (x := c_towpathlaw01_LeftInts_29) (y := c_towpathlaw01_LeftInts_31) (by kernel_rfl) ?_
        refine wpE_drawregion (id := 6) (ops := r_towpathlaw01_LeftInts_29) (by kernel_rfl) (by kernel_rfl) (by kernel_rfl) ?_
        refine qreg_run [.plain, .plain] 2 [(0, [], Value.slice t_.ptr t_.len t_.cap), (1, [], Value.slice l_.ptr l_.len l_.cap), (5, [], Value.int .i64 i), (25, [], Value.slice t_.ptr t_.len t_.cap), (26, [], Value.int .i64 i)] (by kernel_rfl) (by kernel_rfl) ?_
        obtain ⟨hp_14, h⟩ := h
        refine qreg_conv [(0, [], Value.slice t_.ptr t_.len t_.cap), (1, [], Value.slice l_.ptr l_.len l_.cap), (5, [], Value.int .i64 i), (25, [], Value.slice (some ⟨(pblk t_.ptr), (poff t_.ptr), none⟩) t_.len t_.cap), (26, [], Value.int .i64 i)] (congrArg (fun pp => ([(0, [], Value.slice t_.ptr t_.len t_.cap), (1, [], Value.slice l_.ptr l_.len l_.cap), (5, [], Value.int .i64 i), (25, [], Value.slice pp t_.len t_.cap), (26, [], Value.int .i64 i)] : GEnv)) hp_14) ?_
        obtain ⟨h0, h1, h⟩ := h
        refine qreg_indexS1 (t := 23) (e := 3) (x := (Go.Operand.tmp 25)) (ix := (Go.Operand.tmp 26)) (b := (pblk t_.ptr)) (o := (poff t_.ptr)) (l := t_.len) (c := t_.cap) (k := .i64) (j := i) (ty := 0) (dst := some 27) (by kernel_rfl) (by kernel_rfl) (by kernel_rfl) (by kernel_rfl) (by kernel_rfl) h0 h1 ?_
        refine qreg_run [] 3 [(0, [], Value.slice t_.ptr t_.len t_.cap), (1, [], Value.slice l_.ptr l_.len l_.cap), (5, [], Value.int .i64 i), (27, [], Value.pointer (some ⟨(pblk t_.ptr), (poff t_.ptr) + i.toNat, none⟩))] (by kernel_rfl) (by kernel_rfl) ?_
        obtain ⟨v28, hc, h⟩ := h
        refine qreg_load1 (t := 3) (a := (Go.Operand.tmp 27)) (b := (pblk t_.ptr)) (o := ((poff t_.ptr) + i.toNat)) (ty := 3) (dst := some 28) (by kernel_rfl) (by kernel_rfl) (by kernel_rfl) hc ?_
        refine qreg_run [.plain, .plain] 6 [(0, [], Value.slice t_.ptr t_.len t_.cap), (1, [], Value.slice l_.ptr l_.len l_.cap), (5, [], Value.int .i64 i), (28, [], Value.int .i64 v28), (29, [], Value.slice l_.ptr l_.len l_.cap), (30, [], Value.int .i64 i)] (by kernel_rfl) (by kernel_rfl) ?_
        obtain ⟨hp_15, h⟩ := h
        refine qreg_conv [(0, [], Value.slice t_.ptr t_.len t_.cap), (1, [], Value.slice l_.ptr l_.len l_.cap), (5, [], Value.int .i64 i), (28, [], Value.int .i64 v28), (29, [], Value.slice (some ⟨(pblk l_.ptr), (poff l_.ptr), none⟩) l_.len l_.cap), (30, [], Value.int .i64 i)] (congrArg (fun pp => ([(0, [], Value.slice t_.ptr t_.len t_.cap), (1, [], Value.slice l_.ptr l_.len l_.cap), (5, [], Value.int .i64 i), (28, [], Value.int .i64 v28), (29, [], Value.slice pp l_.len l_.cap), (30, [], Value.int .i64 i)] : GEnv)) hp_15) ?_
        obtain ⟨h0, h1, h⟩ := h
        refine qreg_indexS1 (t := 23) (e := 3) (x := (Go.Operand.tmp 29)) (ix := (Go.Operand.tmp 30)) (b := (pblk l_.ptr)) (o := (poff l_.ptr)) (l := l_.len) (c := l_.cap) (k := .i64) (j := i) (ty := 0) (dst := some 31) (by kernel_rfl) (by kernel_rfl) (by kernel_rfl) (by kernel_rfl) (by kernel_rfl) h0 h1 ?_
        refine qreg_run [] 7 [(0, [], Value.slice t_.ptr t_.len t_.cap), (1, [], Value.slice l_.ptr l_.len l_.cap), (5, [], Value.int .i64 i), (28, [], Value.int .i64 v28), (31, [], Value.pointer (some ⟨(pblk l_.ptr), (poff l_.ptr) + i.toNat, none⟩))] (by kernel_rfl) (by kernel_rfl) ?_
        obtain ⟨v32, hc, h⟩ := h
        refine qreg_load1 (t := 3) (a := (Go.Operand.tmp 31)) (b := (pblk l_.ptr)) (o := ((poff l_.ptr) + i.toNat)) (ty := 3) (dst := some 32) (by kernel_rfl) (by kernel_rfl) (by kernel_rfl) hc ?_
        refine qreg_run [.plain] 9 [(0, [], Value.slice t_.ptr t_.len t_.cap), (1, [], Value.slice l_.ptr l_.len l_.cap), (5, [], Value.int .i64 i), (33, [], Value.bool (v28 != v32))] (by kernel_rfl) (by kernel_rfl) ?_
        refine qreg_end [(0, Value.slice t_.ptr t_.len t_.cap), (1, Value.slice l_.ptr l_.len l_.cap), (5, Value.int .i64 i), (33, Value.bool (v28 != v32))] (by kernel_rfl) (by kernel_rfl) (fun w2 hw => ?_)
        replace h := h w2 hw
        clear hw
        change WpE _ _ c_towpathlaw01_LeftInts_31 _ _ _
        refine wpE_cond (o := (Operand.tmp 33)) (b := (v28 != v32)) (x := c_towpathlaw01_LeftInts_32) (y := c_towpathlaw01_LeftInts_36) (by kernel_rfl) (by kernel_rfl) (fun hb => ?_) (fun hb => ?_)
        · replace h := h.1 hb
          refine wpE_seq (x := c_towpathlaw01_LeftInts_33) (y := c_towpathlaw01_LeftInts_35) (by kernel_rfl) ?_
          refine wpE_region (id := 7) (ops := r_towpathlaw01_LeftInts_33) (by kernel_rfl) ?_
          refine reg_run [.plain] 1 [(4, [], Value.bool false)] (by kernel_rfl) (by kernel_rfl) ?_
          refine reg_end [(4, Value.bool false)] (by kernel_rfl) (by kernel_rfl) ?_
          change WpE _ _ c_towpathlaw01_LeftInts_35 _ _ _
          refine wpE_ret (by kernel_rfl) ?_
          repeat (first | refine seqQ_ret ?_ | refine blockQ_ret ?_ | refine loopQ_ret ?_ | refine cutQ_ret ?_)
          exact retS (rs := [(Go.ResultVar.tmp 4)]) (v := Value.bool false) (by kernel_rfl) (⟨by kernel_rfl, trivial⟩) ⟨false, rfl, h⟩
        · replace h := h.2 hb
          refine wpE_skip (by kernel_rfl) ?_
          change WpE _ _ c_towpathlaw01_LeftInts_37 _ _ _
          refine wpE_region (id := 5) (ops := r_towpathlaw01_LeftInts_37) (by kernel_rfl) ?_
          refine reg_run [.plain, .plain, .plain] 3 [(0, [], Value.slice t_.ptr t_.len t_.cap), (1, [], Value.slice l_.ptr l_.len l_.cap), (5, [], Value.int .i64 (IntKind.i64.wrap (i + 1)))] (by kernel_rfl) (by kernel_rfl) ?_
          refine reg_end [(0, Value.slice t_.ptr t_.len t_.cap), (1, Value.slice l_.ptr l_.len l_.cap), (5, Value.int .i64 (IntKind.i64.wrap (i + 1)))] (by kernel_rfl) (by kernel_rfl) ?_
          have hb_ := again__h _ _ h
          exact ⟨_, hb_.2, [(0, Value.slice t_.ptr t_.len t_.cap), (1, Value.slice l_.ptr l_.len l_.cap), (5, Value.int .i64 (IntKind.i64.wrap (i + 1)))], Sub.mk (by kernel_rfl), (IntKind.i64.wrap (i + 1)), rfl, hb_.1, rfl⟩
      · replace h := h.2 hb
        refine wpE_exit (id := 0) (by kernel_rfl) ?_
        change WpE _ _ c_towpathlaw01_LeftInts_39 _ _ _
        refine wpE_seq (x := c_towpathlaw01_LeftInts_40) (y := c_towpathlaw01_LeftInts_42) (by kernel_rfl) ?_
        refine wpE_region (id := 8) (ops := r_towpathlaw01_LeftInts_40) (by kernel_rfl) ?_
        refine reg_run [.plain, .plain, .plain, .plain] 4 [(1, [], Value.slice l_.ptr l_.len l_.cap), (34, [], Value.slice t_.ptr t_.len t_.cap), (37, [], Value.int .i64 (IntKind.i64.wrap (((l_.len : Nat) : Int) + 1)))] (by kernel_rfl) (by kernel_rfl) ?_
        obtain ⟨h0, h1, h⟩ := h
        refine reg_sliceHi (t := 23) (e := 3) (x := (Go.Operand.tmp 34)) (hi := (Go.Operand.tmp 37)) (p := t_.ptr) (l := t_.len) (c := t_.cap) (sz := 1) (k := .i64) (j := (IntKind.i64.wrap (((l_.len : Nat) : Int) + 1))) (ty := 23) (dst := some 38) (by kernel_rfl) (by kernel_rfl) (by kernel_rfl) (by kernel_rfl) (by kernel_rfl) h0 h1 ?_
        refine reg_run [.plain, .plain] 7 [(38, [], Value.slice t_.ptr ((IntKind.i64.wrap (((l_.len : Nat) : Int) + 1)).toNat) t_.cap), (40, [], Value.int .i64 ((l_.len : Nat) : Int))] (by kernel_rfl) (by kernel_rfl) ?_
        obtain ⟨hp_17, h⟩ := h
        refine reg_conv [(38, [], Value.slice (some ⟨(pblk t_.ptr), (poff t_.ptr), none⟩) ((IntKind.i64.wrap (((l_.len : Nat) : Int) + 1)).toNat) t_.cap), (40, [], Value.int .i64 ((l_.len : Nat) : Int))] (congrArg (fun pp => ([(38, [], Value.slice pp ((IntKind.i64.wrap (((l_.len : Nat) : Int) + 1)).toNat) t_.cap), (40, [], Value.int .i64 ((l_.len : Nat) : Int))] : GEnv)) hp_17) ?_
        obtain ⟨h0, h1, h⟩ := h
        refine reg_indexS1 (t := 23) (e := 3) (x := (Go.Operand.tmp 38)) (ix := (Go.Operand.tmp 40)) (b := (pblk t_.ptr)) (o := (poff t_.ptr)) (l := ((IntKind.i64.wrap (((l_.len : Nat) : Int) + 1)).toNat)) (c := t_.cap) (k := .i64) (j := ((l_.len : Nat) : Int)) (ty := 0) (dst := some 41) (by kernel_rfl) (by kernel_rfl) (by kernel_rfl) (by kernel_rfl) (by kernel_rfl) h0 h1 ?_
        refine reg_run [] 8 [(41, [], Value.pointer (some ⟨(pblk t_.ptr), (poff t_.ptr) + ((l_.len : Nat) : Int).toNat, none⟩))] (by kernel_rfl) (by kernel_rfl) ?_
        obtain ⟨x, hc, h⟩ := h
        refine reg_load1 (t := 3) (a := (Go.Operand.tmp 41)) (b := (pblk t_.ptr)) (o := ((poff t_.ptr) + ((l_.len : Nat) : Int).toNat)) (ty := 3) (dst := some 42) (by kernel_rfl) (by kernel_rfl) (by kernel_rfl) hc ?_
        refine reg_run [.plain] 10 [(6, [], Value.int .i64 x)] (by kernel_rfl) (by kernel_rfl) ?_
        refine reg_end [(6, Value.int .i64 x)] (by kernel_rfl) (by kernel_rfl) ?_
        change WpE _ _ c_towpathlaw01_LeftInts_42 _ _ _
        refine wpE_seq (x := c_towpathlaw01_LeftInts_43) (y := c_towpathlaw01_LeftInts_45) (by kernel_rfl) ?_
        refine wpE_region (id := 9) (ops := r_towpathlaw01_LeftInts_43) (by kernel_rfl) ?_
        refine reg_run [.plain, .plain, .plain] 3 [(4, [], Value.bool (x == 7777))] (by kernel_rfl) (by kernel_rfl) ?_
        refine reg_end [(4, Value.bool (x == 7777))] (by kernel_rfl) (by kernel_rfl) ?_
        change WpE _ _ c_towpathlaw01_LeftInts_45 _ _ _
        refine wpE_ret (by kernel_rfl) ?_
        repeat (first | refine seqQ_ret ?_ | refine blockQ_ret ?_ | refine loopQ_ret ?_ | refine cutQ_ret ?_)
        exact retS (rs := [(Go.ResultVar.tmp 4)]) (v := Value.bool (x == 7777)) (by kernel_rfl) (⟨by kernel_rfl, trivial⟩) ⟨(x == 7777), rfl, h⟩
  · rintro e w' ⟨v, rfl, r0, rfl, h⟩; exact ⟨r0, rfl, h⟩

/-! ### towpath/towpathlaw01.SameWrites (function 52) -/
noncomputable def c_towpathlaw01_SameWrites_0 : Code := (Try.f52.body).getD Code.skip
noncomputable def c_towpathlaw01_SameWrites_1 : Code := Code.l c_towpathlaw01_SameWrites_0
noncomputable def r_towpathlaw01_SameWrites_1 : Array Oper := Code.ops c_towpathlaw01_SameWrites_1
noncomputable def c_towpathlaw01_SameWrites_3 : Code := Code.r c_towpathlaw01_SameWrites_0
noncomputable def c_towpathlaw01_SameWrites_4 : Code := Code.l c_towpathlaw01_SameWrites_3
noncomputable def c_towpathlaw01_SameWrites_5 : Code := Code.l c_towpathlaw01_SameWrites_4
noncomputable def r_towpathlaw01_SameWrites_5 : Array Oper := Code.ops c_towpathlaw01_SameWrites_5
noncomputable def c_towpathlaw01_SameWrites_7 : Code := Code.r c_towpathlaw01_SameWrites_4
noncomputable def c_towpathlaw01_SameWrites_8 : Code := Code.l c_towpathlaw01_SameWrites_7
noncomputable def c_towpathlaw01_SameWrites_9 : Code := Code.l c_towpathlaw01_SameWrites_8
noncomputable def r_towpathlaw01_SameWrites_9 : Array Oper := Code.ops c_towpathlaw01_SameWrites_9
noncomputable def c_towpathlaw01_SameWrites_11 : Code := Code.r c_towpathlaw01_SameWrites_8
noncomputable def c_towpathlaw01_SameWrites_12 : Code := Code.r c_towpathlaw01_SameWrites_7
noncomputable def c_towpathlaw01_SameWrites_13 : Code := Code.r c_towpathlaw01_SameWrites_3
noncomputable def c_towpathlaw01_SameWrites_14 : Code := Code.l c_towpathlaw01_SameWrites_13
noncomputable def c_towpathlaw01_SameWrites_15 : Code := Code.l c_towpathlaw01_SameWrites_14
noncomputable def r_towpathlaw01_SameWrites_15 : Array Oper := Code.ops c_towpathlaw01_SameWrites_15
noncomputable def c_towpathlaw01_SameWrites_17 : Code := Code.r c_towpathlaw01_SameWrites_14
noncomputable def c_towpathlaw01_SameWrites_18 : Code := Code.l c_towpathlaw01_SameWrites_17
noncomputable def c_towpathlaw01_SameWrites_19 : Code := Code.l c_towpathlaw01_SameWrites_18
noncomputable def c_towpathlaw01_SameWrites_20 : Code := Code.l c_towpathlaw01_SameWrites_19
noncomputable def c_towpathlaw01_SameWrites_21 : Code := Code.l c_towpathlaw01_SameWrites_20
noncomputable def r_towpathlaw01_SameWrites_21 : Array Oper := Code.ops c_towpathlaw01_SameWrites_21
noncomputable def c_towpathlaw01_SameWrites_23 : Code := Code.r c_towpathlaw01_SameWrites_20
noncomputable def c_towpathlaw01_SameWrites_24 : Code := Code.l c_towpathlaw01_SameWrites_23
noncomputable def c_towpathlaw01_SameWrites_25 : Code := Code.r c_towpathlaw01_SameWrites_23
noncomputable def c_towpathlaw01_SameWrites_26 : Code := Code.r c_towpathlaw01_SameWrites_19
noncomputable def c_towpathlaw01_SameWrites_27 : Code := Code.l c_towpathlaw01_SameWrites_26
noncomputable def c_towpathlaw01_SameWrites_28 : Code := Code.l c_towpathlaw01_SameWrites_27
noncomputable def c_towpathlaw01_SameWrites_29 : Code := Code.l c_towpathlaw01_SameWrites_28
noncomputable def r_towpathlaw01_SameWrites_29 : Array Oper := Code.ops c_towpathlaw01_SameWrites_29
noncomputable def c_towpathlaw01_SameWrites_31 : Code := Code.r c_towpathlaw01_SameWrites_28
noncomputable def c_towpathlaw01_SameWrites_32 : Code := Code.l c_towpathlaw01_SameWrites_31
noncomputable def c_towpathlaw01_SameWrites_33 : Code := Code.l c_towpathlaw01_SameWrites_32
noncomputable def r_towpathlaw01_SameWrites_33 : Array Oper := Code.ops c_towpathlaw01_SameWrites_33
noncomputable def c_towpathlaw01_SameWrites_35 : Code := Code.r c_towpathlaw01_SameWrites_32
noncomputable def c_towpathlaw01_SameWrites_36 : Code := Code.r c_towpathlaw01_SameWrites_31
noncomputable def c_towpathlaw01_SameWrites_37 : Code := Code.r c_towpathlaw01_SameWrites_26
noncomputable def r_towpathlaw01_SameWrites_37 : Array Oper := Code.ops c_towpathlaw01_SameWrites_37
noncomputable def c_towpathlaw01_SameWrites_39 : Code := Code.r c_towpathlaw01_SameWrites_13
noncomputable def c_towpathlaw01_SameWrites_40 : Code := Code.l c_towpathlaw01_SameWrites_39
noncomputable def r_towpathlaw01_SameWrites_40 : Array Oper := Code.ops c_towpathlaw01_SameWrites_40
noncomputable def c_towpathlaw01_SameWrites_42 : Code := Code.r c_towpathlaw01_SameWrites_39

set_option maxRecDepth 100000 in
set_option maxHeartbeats 4000000 in
theorem S_towpathlaw01_SameWrites {a_ : Slc} {b_ : Slc} {w : World} {R : Bool → World → Prop} (h : F_towpathlaw01_SameWrites a_ b_ R w) : C_towpathlaw01_SameWrites a_ b_ w R := by
  unfold F_towpathlaw01_SameWrites at h
  unfold C_towpathlaw01_SameWrites
  refine Calls.mono (calls_of_wpE (args := [Value.slice a_.ptr a_.len a_.cap, Value.slice b_.ptr b_.len b_.cap]) (R := fun v w' => ∃ (r0 : Bool), v = Value.bool r0 ∧ R r0 w') Try.func52 (c := c_towpathlaw01_SameWrites_0) (by kernel_rfl) 26 (by kernel_rfl) (by kernel_rfl) [(0, Value.slice a_.ptr a_.len a_.cap), (1, Value.slice b_.ptr b_.len b_.cap)] (by kernel_rfl) ?_) ?_
  · refine wpE_seq (x := c_towpathlaw01_SameWrites_1) (y := c_towpathlaw01_SameWrites_3) (by kernel_rfl) ?_
    refine wpE_region (id := 0) (ops := r_towpathlaw01_SameWrites_1) (by kernel_rfl) ?_
    refine reg_run [.plain] 1 [(0, [], Value.slice a_.ptr a_.len a_.cap), (1, [], Value.slice b_.ptr b_.len b_.cap)] (by kernel_rfl) (by kernel_rfl) ?_
    refine reg_end [(0, Value.slice a_.ptr a_.len a_.cap), (1, Value.slice b_.ptr b_.len b_.cap)] (by kernel_rfl) (by kernel_rfl) ?_
    change WpE _ _ c_towpathlaw01_SameWrites_3 _ _ _
    refine wpE_seq (x := c_towpathlaw01_SameWrites_4) (y := c_towpathlaw01_SameWrites_13) (by kernel_rfl) ?_
    refine wpE_seq (x := c_towpathlaw01_SameWrites_5) (y := c_towpathlaw01_SameWrites_7) (by kernel_rfl) ?_
    refine wpE_region (id := 1) (ops := r_towpathlaw01_SameWrites_5) (by kernel_rfl) ?_
    refine reg_run [.plain, .plain, .plain, .plain, .plain] 5 [(0, [], Value.slice a_.ptr a_.len a_.cap), (1, [], Value.slice b_.ptr b_.len b_.cap), (10, [], Value.bool (((a_.len : Nat) : Int) != ((b_.len : Nat) : Int)))] (by kernel_rfl) (by kernel_rfl) ?_
    refine reg_end [(0, Value.slice a_.ptr a_.len a_.cap), (1, Value.slice b_.ptr b_.len b_.cap), (10, Value.bool (((a_.len : Nat) : Int) != ((b_.len : Nat) : Int)))] (by kernel_rfl) (by kernel_rfl) ?_
    change WpE _ _ c_towpathlaw01_SameWrites_7 _ _ _
    refine wpE_cond (o := (Operand.tmp 10)) (b := (((a_.len : Nat) : Int) != ((b_.len : Nat) : Int))) (x := c_towpathlaw01_SameWrites_8) (y := c_towpathlaw01_SameWrites_12) (by kernel_rfl) (by kernel_rfl) (fun hb => ?_) (fun hb => ?_)
    · replace h := h.1 hb
      refine wpE_seq (x := c_towpathlaw01_SameWrites_9) (y := c_towpathlaw01_SameWrites_11) (by kernel_rfl) ?_
      refine wpE_region (id := 2) (ops := r_towpathlaw01_SameWrites_9) (by kernel_rfl) ?_
      refine reg_run [.plain] 1 [(4, [], Value.bool false)] (by kernel_rfl) (by kernel_rfl) ?_
      refine reg_end [(4, Value.bool false)] (by kernel_rfl) (by kernel_rfl) ?_
      change WpE _ _ c_towpathlaw01_SameWrites_11 _ _ _
      refine wpE_ret (by kernel_rfl) ?_
      repeat (first | refine seqQ_ret ?_ | refine blockQ_ret ?_ | refine loopQ_ret ?_ | refine cutQ_ret ?_)
      exact retS (rs := [(Go.ResultVar.tmp 4)]) (v := Value.bool false) (by kernel_rfl) (⟨by kernel_rfl, trivial⟩) ⟨false, rfl, h⟩
    · replace h := h.2 hb
      refine wpE_skip (by kernel_rfl) ?_
      change WpE _ _ c_towpathlaw01_SameWrites_13 _ _ _
      refine wpE_seq (x := c_towpathlaw01_SameWrites_14) (y := c_towpathlaw01_SameWrites_39) (by kernel_rfl) ?_
      refine wpE_seq (x := c_towpathlaw01_SameWrites_15) (y := c_towpathlaw01_SameWrites_17) (by kernel_rfl) ?_
      refine wpE_region (id := 3) (ops := r_towpathlaw01_SameWrites_15) (by kernel_rfl) ?_
      refine reg_run [.plain] 1 [(0, [], Value.slice a_.ptr a_.len a_.cap), (1, [], Value.slice b_.ptr b_.len b_.cap), (5, [], Value.int .i64 0)] (by kernel_rfl) (by kernel_rfl) ?_
      refine reg_end [(0, Value.slice a_.ptr a_.len a_.cap), (1, Value.slice b_.ptr b_.len b_.cap), (5, Value.int .i64 0)] (by kernel_rfl) (by kernel_rfl) ?_
      change WpE _ _ c_towpathlaw01_SameWrites_17 _ _ _
      refine wpE_block (id := 0) (x := c_towpathlaw01_SameWrites_18) (by kernel_rfl) ?_
      obtain ⟨I, μ, h0, hr⟩ := h
      refine wpE_loop (x := c_towpathlaw01_SameWrites_19) (by kernel_rfl) (fun m l w => ∃ (i : Int), l = [(0, Value.slice a_.ptr a_.len a_.cap), (1, Value.slice b_.ptr b_.len b_.cap), (5, Value.int .i64 i)] ∧ I i w ∧ μ i w = m) (l' := [(0, Value.slice a_.ptr a_.len a_.cap), (1, Value.slice b_.ptr b_.len b_.cap), (5, Value.int .i64 0)]) (Sub.mk (by kernel_rfl)) ⟨0, rfl, h0, rfl⟩ ?_
      rintro _ _ w1 ⟨i, rfl, hI, rfl⟩
      obtain ⟨again_, again__h, h⟩ : ∃ again_ : Int → World → Prop, (∀ i' w', again_ i' w' → I i' w' ∧ μ i' w' < μ i w1) ∧ F_towpathlaw01_SameWrites_L0 a_ b_ R again_ i w1 := ⟨_, fun _ _ h => h, hr i w1 hI⟩
      clear h0 hI
      unfold F_towpathlaw01_SameWrites_L0 at h
      refine wpE_seq (x := c_towpathlaw01_SameWrites_20) (y := c_towpathlaw01_SameWrites_26) (by kernel_rfl) ?_
      refine wpE_seq (x := c_towpathlaw01_SameWrites_21) (y := c_towpathlaw01_SameWrites_23) (by kernel_rfl) ?_
      refine wpE_region (id := 4) (ops := r_towpathlaw01_SameWrites_21) (by kernel_rfl) ?_
      refine reg_run [.plain, .plain, .plain, .plain] 4 [(0, [], Value.slice a_.ptr a_.len a_.cap), (1, [], Value.slice b_.ptr b_.len b_.cap), (5, [], Value.int .i64 i), (14, [], Value.bool (decide (i < ((a_.len : Nat) : Int))))] (by kernel_rfl) (by kernel_rfl) ?_
      refine reg_end [(0, Value.slice a_.ptr a_.len a_.cap), (1, Value.slice b_.ptr b_.len b_.cap), (5, Value.int .i64 i), (14, Value.bool (decide (i < ((a_.len : Nat) : Int))))] (by kernel_rfl) (by kernel_rfl) ?_
      change WpE _ _ c_towpathlaw01_SameWrites_23 _ _ _
      refine wpE_cond (o := (Operand.tmp 14)) (b := (decide (i < ((a_.len : Nat) : Int)))) (x := c_towpathlaw01_SameWrites_24) (y := c_towpathlaw01_SameWrites_25) (by kernel_rfl) (by kernel_rfl) (fun hb => ?_) (fun hb => ?_)
      · replace h := h.1 hb
        refine wpE_skip (by kernel_rfl) ?_
        change WpE _ _ c_towpathlaw01_SameWrites_26 _ _ _
        refine wpE_seq (x := c_towpathlaw01_SameWrites_27) (y := c_towpathlaw01_SameWrites_37) (by kernel_rfl) ?_
        refine wpE_block (id := 1) (x := c_towpathlaw01_SameWrites_28) (by kernel_rfl) ?_
        refine wpE_seq (x := c_towpathlaw01_SameWrites_29) (y := c_towpathlaw01_SameWrites_31) (by kernel_rfl) ?_
        refine wpE_drawregion (id := 6) (ops := r_towpathlaw01_SameWrites_29) (by kernel_rfl) (by kernel_rfl) (by kernel_rfl) ?_
        refine qreg_run [.plain, .plain] 2 [(0, [], Value.slice a_.ptr a_.len a_.cap), (1, [], Value.slice b_.ptr b_.len b_.cap), (5, [], Value.int .i64 i), (17, [], Value.slice a_.ptr a_.len a_.cap), (18, [], Value.int .i64 i)] (by kernel_rfl) (by kernel_rfl) ?_
        obtain ⟨hp_14, h⟩ := h
        refine qreg_conv [(0, [], Value.slice a_.ptr a_.len a_.cap), (1, [], Value.slice b_.ptr b_.len b_.cap), (5, [], Value.int .i64 i), (17, [], Value.slice (some ⟨(pblk a_.ptr), (poff a_.ptr), none⟩) a_.len a_.cap), (18, [], Value.int .i64 i)] (congrArg (fun pp => ([(0, [], Value.slice a_.ptr a_.len a_.cap), (1, [], Value.slice b_.ptr b_.len b_.cap), (5, [], Value.int .i64 i), (17, [], Value.slice pp a_.len a_.cap), (18, [], Value.int .i64 i)] : GEnv)) hp_14) ?_
        obtain ⟨h0, h1, h⟩ := h
        refine qreg_indexS (t := 40) (e := 78) (x := (Go.Operand.tmp 17)) (ix := (Go.Operand.tmp 18)) (b := (pblk a_.ptr)) (o := (poff a_.ptr)) (l := a_.len) (c := a_.cap) (k := .i64) (j := i) (ty := 0) (dst := some 19) (sz := 3) (by kernel_rfl) (by kernel_rfl) (by kernel_rfl) (by kernel_rfl) (by kernel_rfl) h0 h1 ?_
        refine qreg_run [] 3 [(0, [], Value.slice a_.ptr a_.len a_.cap), (1, [], Value.slice b_.ptr b_.len b_.cap), (5, [], Value.int .i64 i), (19, [], Value.pointer (some ⟨(pblk a_.ptr), (poff a_.ptr) + i.toNat * 3, none⟩))] (by kernel_rfl) (by kernel_rfl) ?_
        obtain ⟨v20, hc, h⟩ := h
        refine qreg_loadN (t := 78) (a := (Go.Operand.tmp 19)) (b := (pblk a_.ptr)) (o := ((poff a_.ptr) + i.toNat * 3)) (ty := 78) (dst := some 20) [Value.string v20.Key, Value.string v20.Val, Value.bool v20.Drop] (by kernel_rfl) (by kernel_rfl) (by kernel_rfl) (k := 3) (by kernel_rfl) (by kernel_rfl) hc ?_
        refine qreg_run [.plain, .plain] 6 [(0, [], Value.slice a_.ptr a_.len a_.cap), (1, [], Value.slice b_.ptr b_.len b_.cap), (5, [], Value.int .i64 i), (20, [], Value.agg #[Value.string v20.Key, Value.string v20.Val, Value.bool v20.Drop]), (21, [], Value.slice b_.ptr b_.len b_.cap), (22, [], Value.int .i64 i)] (by kernel_rfl) (by kernel_rfl) ?_
        obtain ⟨hp_15, h⟩ := h
        refine qreg_conv [(0, [], Value.slice a_.ptr a_.len a_.cap), (1, [], Value.slice b_.ptr b_.len b_.cap), (5, [], Value.int .i64 i), (20, [], Value.agg #[Value.string v20.Key, Value.string v20.Val, Value.bool v20.Drop]), (21, [], Value.slice (some ⟨(pblk b_.ptr), (poff b_.ptr), none⟩) b_.len b_.cap), (22, [], Value.int .i64 i)] (congrArg (fun pp => ([(0, [], Value.slice a_.ptr a_.len a_.cap), (1, [], Value.slice b_.ptr b_.len b_.cap), (5, [], Value.int .i64 i), (20, [], Value.agg #[Value.string v20.Key, Value.string v20.Val, Value.bool v20.Drop]), (21, [], Value.slice pp b_.len b_.cap), (22, [], Value.int .i64 i)] : GEnv)) hp_15) ?_
        obtain ⟨h0, h1, h⟩ := h
        refine qreg_indexS (t := 40) (e := 78) (x := (Go.Operand.tmp 21)) (ix := (Go.Operand.tmp 22)) (b := (pblk b_.ptr)) (o := (poff b_.ptr)) (l := b_.len) (c := b_.cap) (k := .i64) (j := i) (ty := 0) (dst := some 23) (sz := 3) (by kernel_rfl) (by kernel_rfl) (by kernel_rfl) (by kernel_rfl) (by kernel_rfl) h0 h1 ?_
        refine qreg_run [] 7 [(0, [], Value.slice a_.ptr a_.len a_.cap), (1, [], Value.slice b_.ptr b_.len b_.cap), (5, [], Value.int .i64 i), (20, [], Value.agg #[Value.string v20.Key, Value.string v20.Val, Value.bool v20.Drop]), (23, [], Value.pointer (some ⟨(pblk b_.ptr), (poff b_.ptr) + i.toNat * 3, none⟩))] (by kernel_rfl) (by kernel_rfl) ?_
        obtain ⟨v24, hc, h⟩ := h
        refine qreg_loadN (t := 78) (a := (Go.Operand.tmp 23)) (b := (pblk b_.ptr)) (o := ((poff b_.ptr) + i.toNat * 3)) (ty := 78) (dst := some 24) [Value.string v24.Key, Value.string v24.Val, Value.bool v24.Drop] (by kernel_rfl) (by kernel_rfl) (by kernel_rfl) (k := 3) (by kernel_rfl) (by kernel_rfl) hc ?_
        refine qreg_run [] 8 [(0, [], Value.slice a_.ptr a_.len a_.cap), (1, [], Value.slice b_.ptr b_.len b_.cap), (5, [], Value.int .i64 i), (20, [], Value.agg #[Value.string v20.Key, Value.string v20.Val, Value.bool v20.Drop]), (24, [], Value.agg #[Value.string v24.Key, Value.string v24.Val, Value.bool v24.Drop])] (by kernel_rfl) (by kernel_rfl) ?_
        refine qreg_val (op := (Go.Op.binOp Go.BinOp.neq 78 (Go.Operand.tmp 20) (Go.Operand.tmp 24) 78)) (ty := 4) (dst := some 25) (Value.bool (!(((v20.Key == v24.Key) && (v20.Val == v24.Val)) && (v20.Drop == v24.Drop)))) (by kernel_rfl) (fun ww => run_struct_neq (xs := [Value.string v20.Key, Value.string v20.Val, Value.bool v20.Drop]) (ys := [Value.string v24.Key, Value.string v24.Val, Value.bool v24.Drop]) (by kernel_rfl) (by kernel_rfl) (by kernel_rfl) (by kernel_rfl) (by kernel_rfl) ww) ?_
        refine qreg_end [(0, Value.slice a_.ptr a_.len a_.cap), (1, Value.slice b_.ptr b_.len b_.cap), (5, Value.int .i64 i), (25, Value.bool (!(((v20.Key == v24.Key) && (v20.Val == v24.Val)) && (v20.Drop == v24.Drop))))] (by kernel_rfl) (by kernel_rfl) (fun w2 hw => ?_)
        replace h := h w2 hw
        clear hw
        change WpE _ _ c_towpathlaw01_SameWrites_31 _ _ _
        refine wpE_cond (o := (Operand.tmp 25)) (b := (!(((v20.Key == v24.Key) && (v20.Val == v24.Val)) && (v20.Drop == v24.Drop)))) (x := c_towpathlaw01_SameWrites_32) (y := c_towpathlaw01_SameWrites_36) (by kernel_rfl) (by kernel_rfl) (fun hb => ?_) (fun hb => ?_)
        · replace h := h.1 hb
          refine wpE_seq (x := c_towpathlaw01_SameWrites_33) (y := c_towpathlaw01_SameWrites_35) (by kernel_rfl) ?_
          refine wpE_region (id := 7) (ops := r_towpathlaw01_SameWrites_33) (by kernel_rfl) ?_
          refine reg_run [.plain] 1 [(4, [], Value.bool false)] (by kernel_rfl) (by kernel_rfl) ?_
          refine reg_end [(4, Value.bool false)] (by kernel_rfl) (by kernel_rfl) ?_
          change WpE _ _ c_towpathlaw01_SameWrites_35 _ _ _
          refine wpE_ret (by kernel_rfl) ?_
          repeat (first | refine seqQ_ret ?_ | refine blockQ_ret ?_ | refine loopQ_ret ?_ | refine cutQ_ret ?_)
          exact retS (rs := [(Go.ResultVar.tmp 4)]) (v := Value.bool false) (by kernel_rfl) (⟨by kernel_rfl, trivial⟩) ⟨false, rfl, h⟩
        · replace h := h.2 hb
          refine wpE_skip (by kernel_rfl) ?_
          change WpE _ _ c_towpathlaw01_SameWrites_37 _ _ _
          refine wpE_region (id := 5) (ops := r_towpathlaw01_SameWrites_37) (by kernel_rfl) ?_
          refine reg_run [.plain, .plain, .plain] 3 [(0, [], Value.slice a_.ptr a_.len a_.cap), (1, [], Value.slice b_.ptr b_.len b_.cap), (5, [], Value.int .i64 (IntKind.i64.wrap (i + 1)))] (by kernel_rfl) (by kernel_rfl) ?_
          refine reg_end [(0, Value.slice a_.ptr a_.len a_.cap), (1, Value.slice b_.ptr b_.len b_.cap), (5, Value.int .i64 (IntKind.i64.wrap (i + 1)))] (by kernel_rfl) (by kernel_rfl) ?_
          have hb_ := again__h _ _ h
          exact ⟨_, hb_.2, [(0, Value.slice a_.ptr a_.len a_.cap), (1, Value.slice b_.ptr b_.len b_.cap), (5, Value.int .i64 (IntKind.i64.wrap (i + 1)))], Sub.mk (by kernel_rfl), (IntKind.i64.wrap (i + 1)), rfl, hb_.1, rfl⟩
      · replace h := h.2 hb
        refine wpE_exit (id := 0) (by kernel_rfl) ?_
        change WpE _ _ c_towpathlaw01_SameWrites_39 _ _ _
        refine wpE_seq (x := c_towpathlaw01_SameWrites_40) (y := c_towpathlaw01_SameWrites_42) (by kernel_rfl) ?_
        refine wpE_region (id := 8) (ops := r_towpathlaw01_SameWrites_40) (by kernel_rfl) ?_
        refine reg_run [.plain] 1 [(4, [], Value.bool true)] (by kernel_rfl) (by kernel_rfl) ?_
        refine reg_end [(4, Value.bool true)] (by kernel_rfl) (by kernel_rfl) ?_
        change WpE _ _ c_towpathlaw01_SameWrites_42 _ _ _
        refine wpE_ret (by kernel_rfl) ?_
        repeat (first | refine seqQ_ret ?_ | refine blockQ_ret ?_ | refine loopQ_ret ?_ | refine cutQ_ret ?_)
        exact retS (rs := [(Go.ResultVar.tmp 4)]) (v := Value.bool true) (by kernel_rfl) (⟨by kernel_rfl, trivial⟩) ⟨true, rfl, h⟩
  · rintro e w' ⟨v, rfl, r0, rfl, h⟩; exact ⟨r0, rfl, h⟩
end Go.Proofs.Ytpedclhflmhakaa
