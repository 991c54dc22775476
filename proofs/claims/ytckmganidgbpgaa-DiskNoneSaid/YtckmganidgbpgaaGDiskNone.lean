/- WRITTEN BY PROGRAM (dec.py): for each Go function the clean formula F, the call's contract C, and the proof S that F gives C. -/
import Derived.Test.YtckmganidgbpgaaRows
import Derived.Test.YtckmganidgbpgaaGF
namespace Go.Proofs.Ytckmganidgbpgaa
open Go
set_option linter.unusedVariables false

/-! ### towpath/towpathlaw04.DiskNone (function 4) -/
noncomputable def c_towpathlaw04_DiskNone_0 : Code := (Try.f4.body).getD Code.skip
noncomputable def c_towpathlaw04_DiskNone_1 : Code := Code.l c_towpathlaw04_DiskNone_0
noncomputable def r_towpathlaw04_DiskNone_1 : Array Oper := Code.ops c_towpathlaw04_DiskNone_1
noncomputable def c_towpathlaw04_DiskNone_3 : Code := Code.r c_towpathlaw04_DiskNone_0
noncomputable def c_towpathlaw04_DiskNone_4 : Code := Code.l c_towpathlaw04_DiskNone_3
noncomputable def c_towpathlaw04_DiskNone_5 : Code := Code.l c_towpathlaw04_DiskNone_4
noncomputable def r_towpathlaw04_DiskNone_5 : Array Oper := Code.ops c_towpathlaw04_DiskNone_5
noncomputable def c_towpathlaw04_DiskNone_7 : Code := Code.r c_towpathlaw04_DiskNone_4
noncomputable def c_towpathlaw04_DiskNone_8 : Code := Code.l c_towpathlaw04_DiskNone_7
noncomputable def c_towpathlaw04_DiskNone_9 : Code := Code.l c_towpathlaw04_DiskNone_8
noncomputable def r_towpathlaw04_DiskNone_9 : Array Oper := Code.ops c_towpathlaw04_DiskNone_9
noncomputable def c_towpathlaw04_DiskNone_11 : Code := Code.r c_towpathlaw04_DiskNone_8
noncomputable def c_towpathlaw04_DiskNone_12 : Code := Code.r c_towpathlaw04_DiskNone_7
noncomputable def c_towpathlaw04_DiskNone_13 : Code := Code.r c_towpathlaw04_DiskNone_3
noncomputable def c_towpathlaw04_DiskNone_14 : Code := Code.l c_towpathlaw04_DiskNone_13
noncomputable def r_towpathlaw04_DiskNone_14 : Array Oper := Code.ops c_towpathlaw04_DiskNone_14
noncomputable def c_towpathlaw04_DiskNone_16 : Code := Code.r c_towpathlaw04_DiskNone_13
noncomputable def c_towpathlaw04_DiskNone_17 : Code := Code.l c_towpathlaw04_DiskNone_16
noncomputable def r_towpathlaw04_DiskNone_17 : Array Oper := Code.ops c_towpathlaw04_DiskNone_17
noncomputable def c_towpathlaw04_DiskNone_19 : Code := Code.r c_towpathlaw04_DiskNone_16
noncomputable def c_towpathlaw04_DiskNone_20 : Code := Code.l c_towpathlaw04_DiskNone_19
noncomputable def r_towpathlaw04_DiskNone_20 : Array Oper := Code.ops c_towpathlaw04_DiskNone_20
noncomputable def c_towpathlaw04_DiskNone_22 : Code := Code.r c_towpathlaw04_DiskNone_19
noncomputable def c_towpathlaw04_DiskNone_23 : Code := Code.l c_towpathlaw04_DiskNone_22
noncomputable def r_towpathlaw04_DiskNone_23 : Array Oper := Code.ops c_towpathlaw04_DiskNone_23
noncomputable def c_towpathlaw04_DiskNone_25 : Code := Code.r c_towpathlaw04_DiskNone_22

set_option maxRecDepth 100000 in
set_option maxHeartbeats 4000000 in
theorem S_towpathlaw04_DiskNone {o_ : T_towpathlaw04_Op} {w : World} {R : Bool → World → Prop} (h : F_towpathlaw04_DiskNone o_ R w) : C_towpathlaw04_DiskNone o_ w R := by
  unfold F_towpathlaw04_DiskNone at h
  unfold C_towpathlaw04_DiskNone
  refine Calls.mono (calls_of_wpE (args := [Value.agg #[Value.int .u8 o_.Kind, Value.int .i64 o_.Slot, Value.int .i64 o_.At, Value.slice o_.B.ptr o_.B.len o_.B.cap, Value.int .i64 o_.N]]) (R := fun v w' => ∃ (r0 : Bool), v = Value.bool r0 ∧ R r0 w') Try.func4 (c := c_towpathlaw04_DiskNone_0) (by kernel_rfl) 31 (by kernel_rfl) (by kernel_rfl) [(0, Value.agg #[Value.int .u8 o_.Kind, Value.int .i64 o_.Slot, Value.int .i64 o_.At, Value.slice o_.B.ptr o_.B.len o_.B.cap, Value.int .i64 o_.N])] (by kernel_rfl) ?_) ?_
  · refine wpE_seq (x := c_towpathlaw04_DiskNone_1) (y := c_towpathlaw04_DiskNone_3) (by kernel_rfl) ?_
    refine wpE_region (id := 0) (ops := r_towpathlaw04_DiskNone_1) (by kernel_rfl) ?_
    refine reg_run [] 0 [(0, [], Value.agg #[Value.int .u8 o_.Kind, Value.int .i64 o_.Slot, Value.int .i64 o_.At, Value.slice o_.B.ptr o_.B.len o_.B.cap, Value.int .i64 o_.N])] (by kernel_rfl) (by kernel_rfl) ?_
    refine reg_new (op := (Go.Op.box 44 (Go.Operand.tmp 0))) (ty := 0) (dst := some 1) (fun bb => Value.pointer (some ⟨bb, 0, none⟩)) (Obj.cells ([Value.int .u8 o_.Kind, Value.int .i64 o_.Slot, Value.int .i64 o_.At, Value.slice o_.B.ptr o_.B.len o_.B.cap, Value.int .i64 o_.N]).toArray ty_towpathlaw04_Op (0, 0)) (by kernel_rfl) (by kernel_rfl) (fun b_ w1 hb hw => ?_)
    replace h := h b_ w1 hb hw
    clear hb hw
    refine reg_run [.plain] 2 [(1, [], Value.pointer (some ⟨b_, 0, none⟩))] (by kernel_rfl) (by kernel_rfl) ?_
    refine reg_end [(1, Value.pointer (some ⟨b_, 0, none⟩))] (by kernel_rfl) (by kernel_rfl) ?_
    change WpE _ _ c_towpathlaw04_DiskNone_3 _ _ _
    refine wpE_seq (x := c_towpathlaw04_DiskNone_4) (y := c_towpathlaw04_DiskNone_13) (by kernel_rfl) ?_
    refine wpE_seq (x := c_towpathlaw04_DiskNone_5) (y := c_towpathlaw04_DiskNone_7) (by kernel_rfl) ?_
    refine wpE_region (id := 1) (ops := r_towpathlaw04_DiskNone_5) (by kernel_rfl) ?_
    refine reg_run [] 0 [(1, [], Value.pointer (some ⟨b_, 0, none⟩))] (by kernel_rfl) (by kernel_rfl) ?_
    obtain ⟨v6, hc, h⟩ := h
    refine reg_loadN (t := 44) (a := (Go.Operand.tmp 1)) (b := b_) (o := 0) (ty := 44) (dst := some 6) [Value.int .u8 v6.Kind, Value.int .i64 v6.Slot, Value.int .i64 v6.At, Value.slice v6.B.ptr v6.B.len v6.B.cap, Value.int .i64 v6.N] (by kernel_rfl) (by kernel_rfl) (by kernel_rfl) (k := 5) (by kernel_rfl) (by kernel_rfl) hc ?_
    refine reg_run [] 1 [(1, [], Value.pointer (some ⟨b_, 0, none⟩)), (6, [], Value.agg #[Value.int .u8 v6.Kind, Value.int .i64 v6.Slot, Value.int .i64 v6.At, Value.slice v6.B.ptr v6.B.len v6.B.cap, Value.int .i64 v6.N])] (by kernel_rfl) (by kernel_rfl) ?_
    refine reg_new (op := (Go.Op.buildSlice 46 1 #[(0, (Go.Operand.tmp 6))])) (ty := 46) (dst := some 7) (fun bb => Value.slice (some ⟨bb, 0, none⟩) 1 1) (Obj.cells ([Value.int .u8 v6.Kind, Value.int .i64 v6.Slot, Value.int .i64 v6.At, Value.slice v6.B.ptr v6.B.len v6.B.cap, Value.int .i64 v6.N]).toArray ty_towpathlaw04_Op (0, 0)) (by kernel_rfl) (by kernel_rfl) (fun b_1 w2 hb hw => ?_)
    replace h := h b_1 w2 hb hw
    clear hb hw
    refine reg_run [] 2 [(1, [], Value.pointer (some ⟨b_, 0, none⟩)), (7, [], Value.slice (some ⟨b_1, 0, none⟩) 1 1)] (by kernel_rfl) (by kernel_rfl) ?_
    refine reg_enter (op := (Go.Op.call (Go.Call.mk (Go.Callee.value (Go.Operand.func 21)) #[(Go.Operand.tmp 7)] #[46]))) (ty := 4) (dst := some 8) 21 #[Value.slice (some ⟨b_1, 0, none⟩) 1 1] (by kernel_rfl) (fun ww => by kernel_rfl) (Calls.mono h ?_)
    rintro _ w3 ⟨v8, rfl, h⟩
    refine ⟨_, rfl, ?_⟩
    refine reg_end [(1, Value.pointer (some ⟨b_, 0, none⟩)), (8, Value.bool v8)] (by kernel_rfl) (by kernel_rfl) ?_
    change WpE _ _ c_towpathlaw04_DiskNone_7 _ _ _
    refine wpE_cond (o := (Operand.tmp 8)) (b := v8) (x := c_towpathlaw04_DiskNone_8) (y := c_towpathlaw04_DiskNone_12) (by kernel_rfl) (by kernel_rfl) (fun hb => ?_) (fun hb => ?_)
    · replace h := h.1 hb
      refine wpE_seq (x := c_towpathlaw04_DiskNone_9) (y := c_towpathlaw04_DiskNone_11) (by kernel_rfl) ?_
      refine wpE_region (id := 2) (ops := r_towpathlaw04_DiskNone_9) (by kernel_rfl) ?_
      refine reg_run [.plain] 1 [(2, [], Value.bool true)] (by kernel_rfl) (by kernel_rfl) ?_
      refine reg_end [(2, Value.bool true)] (by kernel_rfl) (by kernel_rfl) ?_
      change WpE _ _ c_towpathlaw04_DiskNone_11 _ _ _
      refine wpE_ret (by kernel_rfl) ?_
      repeat (first | refine seqQ_ret ?_ | refine blockQ_ret ?_ | refine loopQ_ret ?_ | refine cutQ_ret ?_)
      exact retS (rs := [(Go.ResultVar.tmp 2)]) (v := Value.bool true) (by kernel_rfl) (⟨by kernel_rfl, trivial⟩) ⟨true, rfl, h⟩
    · replace h := h.2 hb
      refine wpE_skip (by kernel_rfl) ?_
      change WpE _ _ c_towpathlaw04_DiskNone_13 _ _ _
      refine wpE_seq (x := c_towpathlaw04_DiskNone_14) (y := c_towpathlaw04_DiskNone_16) (by kernel_rfl) ?_
      refine wpE_region (id := 3) (ops := r_towpathlaw04_DiskNone_14) (by kernel_rfl) ?_
      refine reg_run [.plain] 1 [(1, [], Value.pointer (some ⟨b_, 0, none⟩)), (3, [], Value.pointer none)] (by kernel_rfl) (by kernel_rfl) ?_
      refine reg_end [(1, Value.pointer (some ⟨b_, 0, none⟩)), (3, Value.pointer none)] (by kernel_rfl) (by kernel_rfl) ?_
      change WpE _ _ c_towpathlaw04_DiskNone_16 _ _ _
      refine wpE_seq (x := c_towpathlaw04_DiskNone_17) (y := c_towpathlaw04_DiskNone_19) (by kernel_rfl) ?_
      refine wpE_region (id := 4) (ops := r_towpathlaw04_DiskNone_17) (by kernel_rfl) ?_
      refine reg_run [.plain] 1 [(1, [], Value.pointer (some ⟨b_, 0, none⟩)), (3, [], Value.pointer none), (4, [], Value.pointer none)] (by kernel_rfl) (by kernel_rfl) ?_
      refine reg_end [(1, Value.pointer (some ⟨b_, 0, none⟩)), (3, Value.pointer none), (4, Value.pointer none)] (by kernel_rfl) (by kernel_rfl) ?_
      change WpE _ _ c_towpathlaw04_DiskNone_19 _ _ _
      refine wpE_seq (x := c_towpathlaw04_DiskNone_20) (y := c_towpathlaw04_DiskNone_22) (by kernel_rfl) ?_
      refine wpE_region (id := 5) (ops := r_towpathlaw04_DiskNone_20) (by kernel_rfl) ?_
      refine reg_run [.plain] 1 [(1, [], Value.pointer (some ⟨b_, 0, none⟩)), (3, [], Value.pointer none), (4, [], Value.pointer none), (9, [], Value.agg #[Value.bool false, Value.int .i64 0, Value.slice none 0 0, Value.slice none 0 0, Value.int .i64 0, Value.bool false, Value.int .i64 0])] (by kernel_rfl) (by kernel_rfl) ?_
      refine reg_new (op := (Go.Op.box 51 (Go.Operand.tmp 9))) (ty := 47) (dst := some 10) (fun bb => Value.pointer (some ⟨bb, 0, none⟩)) (Obj.cells ([Value.bool false, Value.int .i64 0, Value.slice none 0 0, Value.slice none 0 0, Value.int .i64 0, Value.bool false, Value.int .i64 0]).toArray ty_disk_Disk (0, 0)) (by kernel_rfl) (by kernel_rfl) (fun b_2 w4 hb hw => ?_)
      replace h := h b_2 w4 hb hw
      clear hb hw
      refine reg_run [.plain] 3 [(1, [], Value.pointer (some ⟨b_, 0, none⟩)), (3, [], Value.pointer none), (4, [], Value.pointer none), (5, [], Value.pointer (some ⟨b_2, 0, none⟩))] (by kernel_rfl) (by kernel_rfl) ?_
      refine reg_end [(1, Value.pointer (some ⟨b_, 0, none⟩)), (3, Value.pointer none), (4, Value.pointer none), (5, Value.pointer (some ⟨b_2, 0, none⟩))] (by kernel_rfl) (by kernel_rfl) ?_
      change WpE _ _ c_towpathlaw04_DiskNone_22 _ _ _
      refine wpE_seq (x := c_towpathlaw04_DiskNone_23) (y := c_towpathlaw04_DiskNone_25) (by kernel_rfl) ?_
      refine wpE_region (id := 6) (ops := r_towpathlaw04_DiskNone_23) (by kernel_rfl) ?_
      refine reg_run [.plain, .plain] 2 [(1, [], Value.pointer (some ⟨b_, 0, none⟩)), (3, [], Value.pointer none), (4, [], Value.pointer none), (5, [], Value.pointer (some ⟨b_2, 0, none⟩)), (11, [], Value.pointer none), (12, [], Value.pointer none)] (by kernel_rfl) (by kernel_rfl) ?_
      obtain ⟨v13, hc, h⟩ := h
      refine reg_loadN (t := 44) (a := (Go.Operand.tmp 1)) (b := b_) (o := 0) (ty := 44) (dst := some 13) [Value.int .u8 v13.Kind, Value.int .i64 v13.Slot, Value.int .i64 v13.At, Value.slice v13.B.ptr v13.B.len v13.B.cap, Value.int .i64 v13.N] (by kernel_rfl) (by kernel_rfl) (by kernel_rfl) (k := 5) (by kernel_rfl) (by kernel_rfl) hc ?_
      refine reg_run [] 3 [(1, [], Value.pointer (some ⟨b_, 0, none⟩)), (3, [], Value.pointer none), (4, [], Value.pointer none), (5, [], Value.pointer (some ⟨b_2, 0, none⟩)), (11, [], Value.pointer none), (12, [], Value.pointer none), (13, [], Value.agg #[Value.int .u8 v13.Kind, Value.int .i64 v13.Slot, Value.int .i64 v13.At, Value.slice v13.B.ptr v13.B.len v13.B.cap, Value.int .i64 v13.N])] (by kernel_rfl) (by kernel_rfl) ?_
      refine reg_enter (op := (Go.Op.call (Go.Call.mk (Go.Callee.value (Go.Operand.func 22)) #[(Go.Operand.tmp 11), (Go.Operand.tmp 12), (Go.Operand.tmp 13)] #[47, 48, 44]))) (ty := 4) (dst := some 14) 22 #[Value.pointer none, Value.pointer none, Value.agg #[Value.int .u8 v13.Kind, Value.int .i64 v13.Slot, Value.int .i64 v13.At, Value.slice v13.B.ptr v13.B.len v13.B.cap, Value.int .i64 v13.N]] (by kernel_rfl) (fun ww => by kernel_rfl) (Calls.mono h ?_)
      rintro _ w5 ⟨v14, rfl, h⟩
      refine ⟨_, rfl, ?_⟩
      refine reg_run [.plain, .plain, .plain] 7 [(1, [], Value.pointer (some ⟨b_, 0, none⟩)), (3, [], Value.pointer none), (4, [], Value.pointer none), (5, [], Value.pointer (some ⟨b_2, 0, none⟩)), (15, [], Value.bool v14), (16, [(15, true)], Value.pointer (some ⟨b_2, 0, none⟩)), (17, [(15, true)], Value.pointer none)] (by kernel_rfl) (by kernel_rfl) ?_
      refine reg_split 15 v14 (by kernel_rfl) (fun hb => ?_) (fun hb => ?_)
      · replace h := h.1 hb
        refine reg_run [] 7 [(1, [], Value.pointer (some ⟨b_, 0, none⟩)), (3, [], Value.pointer none), (4, [], Value.pointer none), (5, [], Value.pointer (some ⟨b_2, 0, none⟩)), (15, [], Value.bool true), (16, [], Value.pointer (some ⟨b_2, 0, none⟩)), (17, [], Value.pointer none)] (by kernel_rfl) (by kernel_rfl) ?_
        refine reg_run [] 7 [(1, [], Value.pointer (some ⟨b_, 0, none⟩)), (3, [], Value.pointer none), (4, [], Value.pointer none), (5, [], Value.pointer (some ⟨b_2, 0, none⟩)), (15, [], Value.bool true), (16, [], Value.pointer (some ⟨b_2, 0, none⟩)), (17, [], Value.pointer none)] (by kernel_rfl) (by kernel_rfl) ?_
        obtain ⟨v18, hc, h⟩ := h
        refine reg_loadN (t := 44) (a := (Go.Operand.tmp 1)) (b := b_) (o := 0) (ty := 44) (dst := some 18) [Value.int .u8 v18.Kind, Value.int .i64 v18.Slot, Value.int .i64 v18.At, Value.slice v18.B.ptr v18.B.len v18.B.cap, Value.int .i64 v18.N] (by kernel_rfl) (by kernel_rfl) (by kernel_rfl) (k := 5) (by kernel_rfl) (by kernel_rfl) hc ?_
        refine reg_run [] 8 [(3, [], Value.pointer none), (4, [], Value.pointer none), (5, [], Value.pointer (some ⟨b_2, 0, none⟩)), (15, [], Value.bool true), (16, [], Value.pointer (some ⟨b_2, 0, none⟩)), (17, [], Value.pointer none), (18, [], Value.agg #[Value.int .u8 v18.Kind, Value.int .i64 v18.Slot, Value.int .i64 v18.At, Value.slice v18.B.ptr v18.B.len v18.B.cap, Value.int .i64 v18.N])] (by kernel_rfl) (by kernel_rfl) ?_
        refine reg_enter (op := (Go.Op.call (Go.Call.mk (Go.Callee.value (Go.Operand.func 22)) #[(Go.Operand.tmp 16), (Go.Operand.tmp 17), (Go.Operand.tmp 18)] #[47, 48, 44]))) (ty := 4) (dst := some 19) 22 #[Value.pointer (some ⟨b_2, 0, none⟩), Value.pointer none, Value.agg #[Value.int .u8 v18.Kind, Value.int .i64 v18.Slot, Value.int .i64 v18.At, Value.slice v18.B.ptr v18.B.len v18.B.cap, Value.int .i64 v18.N]] (by kernel_rfl) (fun ww => by kernel_rfl) (Calls.mono h ?_)
        rintro _ w6 ⟨v19, rfl, h⟩
        refine ⟨_, rfl, ?_⟩
        refine reg_run [.plain, .plain, .plain, .plain] 13 [(4, [], Value.pointer none), (5, [], Value.pointer (some ⟨b_2, 0, none⟩)), (21, [], Value.bool v19), (22, [(21, true)], Value.pointer none), (23, [(21, true)], Value.pointer none)] (by kernel_rfl) (by kernel_rfl) ?_
        refine reg_split 21 v19 (by kernel_rfl) (fun hb => ?_) (fun hb => ?_)
        · replace h := h.1 hb
          refine reg_run [] 13 [(4, [], Value.pointer none), (5, [], Value.pointer (some ⟨b_2, 0, none⟩)), (21, [], Value.bool true), (22, [], Value.pointer none), (23, [], Value.pointer none)] (by kernel_rfl) (by kernel_rfl) ?_
          refine reg_run [] 13 [(4, [], Value.pointer none), (5, [], Value.pointer (some ⟨b_2, 0, none⟩)), (21, [], Value.bool true), (22, [], Value.pointer none), (23, [], Value.pointer none)] (by kernel_rfl) (by kernel_rfl) ?_
          refine reg_enter (op := (Go.Op.call (Go.Call.mk (Go.Callee.value (Go.Operand.func 23)) #[(Go.Operand.tmp 22), (Go.Operand.tmp 23)] #[47, 48]))) (ty := 4) (dst := some 24) 23 #[Value.pointer none, Value.pointer none] (by kernel_rfl) (fun ww => by kernel_rfl) (Calls.mono h ?_)
          rintro _ w7 ⟨v24, rfl, h⟩
          refine ⟨_, rfl, ?_⟩
          refine reg_run [.plain, .plain, .plain, .plain] 18 [(26, [], Value.bool v24), (27, [(26, true)], Value.pointer (some ⟨b_2, 0, none⟩)), (28, [(26, true)], Value.pointer none)] (by kernel_rfl) (by kernel_rfl) ?_
          refine reg_split 26 v24 (by kernel_rfl) (fun hb => ?_) (fun hb => ?_)
          · replace h := h.1 hb
            refine reg_run [] 18 [(26, [], Value.bool true), (27, [], Value.pointer (some ⟨b_2, 0, none⟩)), (28, [], Value.pointer none)] (by kernel_rfl) (by kernel_rfl) ?_
            refine reg_run [] 18 [(26, [], Value.bool true), (27, [], Value.pointer (some ⟨b_2, 0, none⟩)), (28, [], Value.pointer none)] (by kernel_rfl) (by kernel_rfl) ?_
            refine reg_enter (op := (Go.Op.call (Go.Call.mk (Go.Callee.value (Go.Operand.func 23)) #[(Go.Operand.tmp 27), (Go.Operand.tmp 28)] #[47, 48]))) (ty := 4) (dst := some 29) 23 #[Value.pointer (some ⟨b_2, 0, none⟩), Value.pointer none] (by kernel_rfl) (fun ww => by kernel_rfl) (Calls.mono h ?_)
            rintro _ w8 ⟨v29, rfl, h⟩
            refine ⟨_, rfl, ?_⟩
            refine reg_run [.plain, .plain] 21 [(2, [], Value.bool v29)] (by kernel_rfl) (by kernel_rfl) ?_
            refine reg_end [(2, Value.bool v29)] (by kernel_rfl) (by kernel_rfl) ?_
            change WpE _ _ c_towpathlaw04_DiskNone_25 _ _ _
            refine wpE_ret (by kernel_rfl) ?_
            repeat (first | refine seqQ_ret ?_ | refine blockQ_ret ?_ | refine loopQ_ret ?_ | refine cutQ_ret ?_)
            exact retS (rs := [(Go.ResultVar.tmp 2)]) (v := Value.bool v29) (by kernel_rfl) (⟨by kernel_rfl, trivial⟩) ⟨v29, rfl, h⟩
          · replace h := h.2 hb
            refine reg_run [] 18 [(26, [], Value.bool false), (27, [], undef), (28, [], undef)] (by kernel_rfl) (by kernel_rfl) ?_
            refine reg_run [.skip, .plain, .plain] 21 [(2, [], Value.bool false)] (by kernel_rfl) (by kernel_rfl) ?_
            refine reg_end [(2, Value.bool false)] (by kernel_rfl) (by kernel_rfl) ?_
            change WpE _ _ c_towpathlaw04_DiskNone_25 _ _ _
            refine wpE_ret (by kernel_rfl) ?_
            repeat (first | refine seqQ_ret ?_ | refine blockQ_ret ?_ | refine loopQ_ret ?_ | refine cutQ_ret ?_)
            exact retS (rs := [(Go.ResultVar.tmp 2)]) (v := Value.bool false) (by kernel_rfl) (⟨by kernel_rfl, trivial⟩) ⟨false, rfl, h⟩
        · replace h := h.2 hb
          refine reg_run [] 13 [(4, [], Value.pointer none), (5, [], Value.pointer (some ⟨b_2, 0, none⟩)), (21, [], Value.bool false), (22, [], undef), (23, [], undef)] (by kernel_rfl) (by kernel_rfl) ?_
          refine reg_run [.skip, .plain, .plain, .skip, .skip, .skip, .plain, .plain] 21 [(2, [], Value.bool false)] (by kernel_rfl) (by kernel_rfl) ?_
          refine reg_end [(2, Value.bool false)] (by kernel_rfl) (by kernel_rfl) ?_
          change WpE _ _ c_towpathlaw04_DiskNone_25 _ _ _
          refine wpE_ret (by kernel_rfl) ?_
          repeat (first | refine seqQ_ret ?_ | refine blockQ_ret ?_ | refine loopQ_ret ?_ | refine cutQ_ret ?_)
          exact retS (rs := [(Go.ResultVar.tmp 2)]) (v := Value.bool false) (by kernel_rfl) (⟨by kernel_rfl, trivial⟩) ⟨false, rfl, h⟩
      · replace h := h.2 hb
        refine reg_run [] 7 [(1, [], Value.pointer (some ⟨b_, 0, none⟩)), (3, [], Value.pointer none), (4, [], Value.pointer none), (5, [], Value.pointer (some ⟨b_2, 0, none⟩)), (15, [], Value.bool false), (16, [], undef), (17, [], undef)] (by kernel_rfl) (by kernel_rfl) ?_
        refine reg_run [.skip, .skip, .plain, .plain, .skip, .skip, .skip, .plain, .plain, .skip, .skip, .skip, .plain, .plain] 21 [(2, [], Value.bool false)] (by kernel_rfl) (by kernel_rfl) ?_
        refine reg_end [(2, Value.bool false)] (by kernel_rfl) (by kernel_rfl) ?_
        change WpE _ _ c_towpathlaw04_DiskNone_25 _ _ _
        refine wpE_ret (by kernel_rfl) ?_
        repeat (first | refine seqQ_ret ?_ | refine blockQ_ret ?_ | refine loopQ_ret ?_ | refine cutQ_ret ?_)
        exact retS (rs := [(Go.ResultVar.tmp 2)]) (v := Value.bool false) (by kernel_rfl) (⟨by kernel_rfl, trivial⟩) ⟨false, rfl, h⟩
  · rintro e w' ⟨v, rfl, r0, rfl, h⟩; exact ⟨r0, rfl, h⟩
end Go.Proofs.Ytckmganidgbpgaa
