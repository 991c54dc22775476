/- WRITTEN BY PROGRAM (dec.py): for each Go function the clean formula F, the call's contract C, and the proof S that F gives C. -/
import Derived.Test.YtfmkemmgakdddaaRows
import Derived.Test.YtfmkemmgakdddaaGF
namespace Go.Proofs.Ytfmkemmgakdddaa
open Go
set_option linter.unusedVariables false

/-! ### towpath/towpathlaw05.alive (function 34) -/
noncomputable def c_towpathlaw05_alive_0 : Code := (Try.f34.body).getD Code.skip
noncomputable def c_towpathlaw05_alive_1 : Code := Code.l c_towpathlaw05_alive_0
noncomputable def r_towpathlaw05_alive_1 : Array Oper := Code.ops c_towpathlaw05_alive_1
noncomputable def c_towpathlaw05_alive_3 : Code := Code.r c_towpathlaw05_alive_0
noncomputable def c_towpathlaw05_alive_4 : Code := Code.l c_towpathlaw05_alive_3
noncomputable def r_towpathlaw05_alive_4 : Array Oper := Code.ops c_towpathlaw05_alive_4
noncomputable def c_towpathlaw05_alive_6 : Code := Code.r c_towpathlaw05_alive_3
noncomputable def c_towpathlaw05_alive_7 : Code := Code.l c_towpathlaw05_alive_6
noncomputable def r_towpathlaw05_alive_7 : Array Oper := Code.ops c_towpathlaw05_alive_7
noncomputable def c_towpathlaw05_alive_9 : Code := Code.r c_towpathlaw05_alive_6
noncomputable def c_towpathlaw05_alive_10 : Code := Code.l c_towpathlaw05_alive_9
noncomputable def r_towpathlaw05_alive_10 : Array Oper := Code.ops c_towpathlaw05_alive_10
noncomputable def c_towpathlaw05_alive_12 : Code := Code.r c_towpathlaw05_alive_9
noncomputable def c_towpathlaw05_alive_13 : Code := Code.l c_towpathlaw05_alive_12
noncomputable def r_towpathlaw05_alive_13 : Array Oper := Code.ops c_towpathlaw05_alive_13
noncomputable def c_towpathlaw05_alive_15 : Code := Code.r c_towpathlaw05_alive_12

set_option maxRecDepth 100000 in
set_option maxHeartbeats 4000000 in
theorem S_towpathlaw05_alive {w : World} {R : Bool → World → Prop} (h : F_towpathlaw05_alive R w) : C_towpathlaw05_alive w R := by
  unfold F_towpathlaw05_alive at h
  unfold C_towpathlaw05_alive
  refine Calls.mono (calls_of_wpE (args := []) (R := fun v w' => ∃ (r0 : Bool), v = Value.bool r0 ∧ R r0 w') Try.func34 (c := c_towpathlaw05_alive_0) (by kernel_rfl) 40 (by kernel_rfl) (by kernel_rfl) [] (by kernel_rfl) ?_) ?_
  · refine wpE_seq (x := c_towpathlaw05_alive_1) (y := c_towpathlaw05_alive_3) (by kernel_rfl) ?_
    refine wpE_region (id := 0) (ops := r_towpathlaw05_alive_1) (by kernel_rfl) ?_
    refine reg_run [.plain] 1 [] (by kernel_rfl) (by kernel_rfl) ?_
    refine reg_end [] (by kernel_rfl) (by kernel_rfl) ?_
    change WpE _ _ c_towpathlaw05_alive_3 _ _ _
    refine wpE_seq (x := c_towpathlaw05_alive_4) (y := c_towpathlaw05_alive_6) (by kernel_rfl) ?_
    refine wpE_region (id := 1) (ops := r_towpathlaw05_alive_4) (by kernel_rfl) ?_
    refine reg_run [.plain, .plain] 2 [(8, [], Value.agg #[Value.string (ByteArray.mk #[97]), Value.string (ByteArray.mk #[120]), Value.bool false]), (9, [], Value.agg #[Value.string (ByteArray.mk #[98]), Value.string ByteArray.empty, Value.bool true])] (by kernel_rfl) (by kernel_rfl) ?_
    refine reg_new (op := (Go.Op.buildSlice 25 2 #[(0, (Go.Operand.tmp 8)), (1, (Go.Operand.tmp 9))])) (ty := 25) (dst := some 10) (fun bb => Value.slice (some ⟨bb, 0, none⟩) 2 2) (Obj.cells ([Value.string (ByteArray.mk #[97]), Value.string (ByteArray.mk #[120]), Value.bool false, Value.string (ByteArray.mk #[98]), Value.string ByteArray.empty, Value.bool true]).toArray ty_api_Write (0, 0)) (by kernel_rfl) (by kernel_rfl) (fun b_ w1 hb hw => ?_)
    replace h := h b_ w1 hb hw
    clear hb hw
    refine reg_run [.plain] 4 [(11, [], Value.agg #[Value.int .i64 1, Value.slice (some ⟨b_, 0, none⟩) 2 2])] (by kernel_rfl) (by kernel_rfl) ?_
    refine reg_enter (op := (Go.Op.call (Go.Call.mk (Go.Callee.value (Go.Operand.func 35)) #[(Go.Operand.tmp 11)] #[27]))) (ty := 77) (dst := some 12) 35 #[Value.agg #[Value.int .i64 1, Value.slice (some ⟨b_, 0, none⟩) 2 2]] (by kernel_rfl) (fun ww => by kernel_rfl) (Calls.mono h ?_)
    rintro _ w2 ⟨b_1, e, rfl, h⟩
    refine ⟨_, rfl, ?_⟩
    refine reg_run [.plain, .plain, .plain, .plain, .plain] 10 [(1, [], Value.slice b_1.ptr b_1.len b_1.cap), (2, [], Value.int .i64 e)] (by kernel_rfl) (by kernel_rfl) ?_
    refine reg_end [(1, Value.slice b_1.ptr b_1.len b_1.cap), (2, Value.int .i64 e)] (by kernel_rfl) (by kernel_rfl) ?_
    change WpE _ _ c_towpathlaw05_alive_6 _ _ _
    refine wpE_seq (x := c_towpathlaw05_alive_7) (y := c_towpathlaw05_alive_9) (by kernel_rfl) ?_
    refine wpE_region (id := 2) (ops := r_towpathlaw05_alive_7) (by kernel_rfl) ?_
    refine reg_run [.plain] 1 [(1, [], Value.slice b_1.ptr b_1.len b_1.cap), (2, [], Value.int .i64 e), (16, [], Value.agg #[Value.int .i64 0, Value.slice none 0 0])] (by kernel_rfl) (by kernel_rfl) ?_
    refine reg_enter (op := (Go.Op.call (Go.Call.mk (Go.Callee.value (Go.Operand.func 35)) #[(Go.Operand.tmp 16)] #[27]))) (ty := 77) (dst := some 17) 35 #[Value.agg #[Value.int .i64 0, Value.slice none 0 0]] (by kernel_rfl) (fun ww => by kernel_rfl) (Calls.mono h ?_)
    rintro _ w3 ⟨v17, f, rfl, h⟩
    refine ⟨_, rfl, ?_⟩
    refine reg_run [.plain, .plain, .plain, .plain, .plain] 7 [(1, [], Value.slice b_1.ptr b_1.len b_1.cap), (2, [], Value.int .i64 e), (4, [], Value.int .i64 f)] (by kernel_rfl) (by kernel_rfl) ?_
    refine reg_end [(1, Value.slice b_1.ptr b_1.len b_1.cap), (2, Value.int .i64 e), (4, Value.int .i64 f)] (by kernel_rfl) (by kernel_rfl) ?_
    change WpE _ _ c_towpathlaw05_alive_9 _ _ _
    refine wpE_seq (x := c_towpathlaw05_alive_10) (y := c_towpathlaw05_alive_12) (by kernel_rfl) ?_
    refine wpE_region (id := 3) (ops := r_towpathlaw05_alive_10) (by kernel_rfl) ?_
    refine reg_run [] 0 [(1, [], Value.slice b_1.ptr b_1.len b_1.cap), (2, [], Value.int .i64 e), (4, [], Value.int .i64 f)] (by kernel_rfl) (by kernel_rfl) ?_
    refine reg_new (op := (Go.Op.buildSlice 22 2 #[(0, (Go.Operand.const (Go.Value.int Go.IntKind.u8 1))), (1, (Go.Operand.const (Go.Value.int Go.IntKind.u8 33)))])) (ty := 22) (dst := some 21) (fun bb => Value.slice (some ⟨bb, 0, none⟩) 2 2) (Obj.cells ([Value.int .u8 1, Value.int .u8 33]).toArray ty_uint8 (0, 0)) (by kernel_rfl) (by kernel_rfl) (fun b_2 w4 hb hw => ?_)
    replace h := h b_2 w4 hb hw
    clear hb hw
    refine reg_run [] 1 [(1, [], Value.slice b_1.ptr b_1.len b_1.cap), (2, [], Value.int .i64 e), (4, [], Value.int .i64 f), (21, [], Value.slice (some ⟨b_2, 0, none⟩) 2 2)] (by kernel_rfl) (by kernel_rfl) ?_
    refine reg_enter (op := (Go.Op.call (Go.Call.mk (Go.Callee.value (Go.Operand.func 12)) #[(Go.Operand.tmp 21)] #[22]))) (ty := 29) (dst := some 22) 12 #[Value.slice (some ⟨b_2, 0, none⟩) 2 2] (by kernel_rfl) (fun ww => by kernel_rfl) (Calls.mono h ?_)
    rintro _ w5 ⟨v22, g, rfl, h⟩
    refine ⟨_, rfl, ?_⟩
    refine reg_run [.plain, .plain, .plain] 5 [(1, [], Value.slice b_1.ptr b_1.len b_1.cap), (2, [], Value.int .i64 e), (4, [], Value.int .i64 f), (23, [], Value.agg #[Value.int .i64 v22.Number, Value.slice v22.Writes.ptr v22.Writes.len v22.Writes.cap]), (24, [], Value.int .i64 g)] (by kernel_rfl) (by kernel_rfl) ?_
    refine reg_new (op := (Go.Op.alloc 27)) (ty := 0) (dst := some 5) (fun bb => Value.pointer (some ⟨bb, 0, none⟩)) (Obj.cells ([Value.int .i64 0, Value.slice none 0 0]).toArray ty_api_Txn (0, 0)) (by kernel_rfl) (by kernel_rfl) (fun b_3 w6 hb hw => ?_)
    replace h := h b_3 w6 hb hw
    clear hb hw
    refine reg_run [] 6 [(1, [], Value.slice b_1.ptr b_1.len b_1.cap), (2, [], Value.int .i64 e), (4, [], Value.int .i64 f), (5, [], Value.pointer (some ⟨b_3, 0, none⟩)), (23, [], Value.agg #[Value.int .i64 v22.Number, Value.slice v22.Writes.ptr v22.Writes.len v22.Writes.cap]), (24, [], Value.int .i64 g)] (by kernel_rfl) (by kernel_rfl) ?_
    obtain ⟨hc, h⟩ := h
    refine reg_store (t := 27) (a := (Go.Operand.tmp 5)) (x := (Go.Operand.tmp 23)) (b := b_3) (o := 0) (ty := 0) (dst := none) [Value.int .i64 v22.Number, Value.slice v22.Writes.ptr v22.Writes.len v22.Writes.cap] (by kernel_rfl) (by kernel_rfl) (by kernel_rfl) (k := 2) (by kernel_rfl) (by kernel_rfl) (by kernel_rfl) hc (fun w7 hw => ?_)
    replace h := h w7 hw
    clear hw
    refine reg_run [.plain] 8 [(1, [], Value.slice b_1.ptr b_1.len b_1.cap), (2, [], Value.int .i64 e), (4, [], Value.int .i64 f), (6, [], Value.int .i64 g)] (by kernel_rfl) (by kernel_rfl) ?_
    refine reg_end [(1, Value.slice b_1.ptr b_1.len b_1.cap), (2, Value.int .i64 e), (4, Value.int .i64 f), (6, Value.int .i64 g)] (by kernel_rfl) (by kernel_rfl) ?_
    change WpE _ _ c_towpathlaw05_alive_12 _ _ _
    refine wpE_seq (x := c_towpathlaw05_alive_13) (y := c_towpathlaw05_alive_15) (by kernel_rfl) ?_
    refine wpE_region (id := 4) (ops := r_towpathlaw05_alive_13) (by kernel_rfl) ?_
    refine reg_run [.plain, .plain, .plain, .plain, .plain, .pick, .plain, .plain, .plain, .pick, .plain, .plain] 12 [(35, [], Value.bool (((e == 0) && (f == 1)) && (g == 3))), (36, [(35, true)], Value.slice b_1.ptr b_1.len b_1.cap)] (by kernel_rfl) (by kernel_rfl) ?_
    refine reg_split 35 (((e == 0) && (f == 1)) && (g == 3)) (by kernel_rfl) (fun hb => ?_) (fun hb => ?_)
    · replace h := h.1 hb
      refine reg_run [] 12 [(35, [], Value.bool true), (36, [], Value.slice b_1.ptr b_1.len b_1.cap)] (by kernel_rfl) (by kernel_rfl) ?_
      refine reg_run [] 12 [(35, [], Value.bool true), (36, [], Value.slice b_1.ptr b_1.len b_1.cap)] (by kernel_rfl) (by kernel_rfl) ?_
      refine reg_new (op := (Go.Op.buildSlice 22 10 #[(0, (Go.Operand.const (Go.Value.int Go.IntKind.u8 1))), (1, (Go.Operand.const (Go.Value.int Go.IntKind.u8 2))), (2, (Go.Operand.const (Go.Value.int Go.IntKind.u8 1))), (3, (Go.Operand.const (Go.Value.int Go.IntKind.u8 97))), (4, (Go.Operand.const (Go.Value.int Go.IntKind.u8 0))), (5, (Go.Operand.const (Go.Value.int Go.IntKind.u8 1))), (6, (Go.Operand.const (Go.Value.int Go.IntKind.u8 120))), (7, (Go.Operand.const (Go.Value.int Go.IntKind.u8 1))), (8, (Go.Operand.const (Go.Value.int Go.IntKind.u8 98))), (9, (Go.Operand.const (Go.Value.int Go.IntKind.u8 1)))])) (ty := 22) (dst := some 37) (fun bb => Value.slice (some ⟨bb, 0, none⟩) 10 10) (Obj.cells ([Value.int .u8 1, Value.int .u8 2, Value.int .u8 1, Value.int .u8 97, Value.int .u8 0, Value.int .u8 1, Value.int .u8 120, Value.int .u8 1, Value.int .u8 98, Value.int .u8 1]).toArray ty_uint8 (0, 0)) (by kernel_rfl) (by kernel_rfl) (fun b_4 w8 hb hw => ?_)
      replace h := h b_4 w8 hb hw
      clear hb hw
      refine reg_run [] 13 [(35, [], Value.bool true), (36, [], Value.slice b_1.ptr b_1.len b_1.cap), (37, [], Value.slice (some ⟨b_4, 0, none⟩) 10 10)] (by kernel_rfl) (by kernel_rfl) ?_
      refine reg_enter (op := (Go.Op.call (Go.Call.mk (Go.Callee.value (Go.Operand.func 36)) #[(Go.Operand.tmp 36), (Go.Operand.tmp 37)] #[22, 22]))) (ty := 4) (dst := some 38) 36 #[Value.slice b_1.ptr b_1.len b_1.cap, Value.slice (some ⟨b_4, 0, none⟩) 10 10] (by kernel_rfl) (fun ww => by kernel_rfl) (Calls.mono h ?_)
      rintro _ w9 ⟨v38, rfl, h⟩
      refine ⟨_, rfl, ?_⟩
      refine reg_run [.plain, .plain] 16 [(0, [], Value.bool v38)] (by kernel_rfl) (by kernel_rfl) ?_
      refine reg_end [(0, Value.bool v38)] (by kernel_rfl) (by kernel_rfl) ?_
      change WpE _ _ c_towpathlaw05_alive_15 _ _ _
      refine wpE_ret (by kernel_rfl) ?_
      repeat (first | refine seqQ_ret ?_ | refine blockQ_ret ?_ | refine loopQ_ret ?_ | refine cutQ_ret ?_)
      exact retS (rs := [(Go.ResultVar.tmp 0)]) (v := Value.bool v38) (by kernel_rfl) (⟨by kernel_rfl, trivial⟩) ⟨v38, rfl, h⟩
    · replace h := h.2 hb
      refine reg_run [] 12 [(35, [], Value.bool false), (36, [], undef)] (by kernel_rfl) (by kernel_rfl) ?_
      refine reg_run [.skip, .skip, .plain, .plain] 16 [(0, [], Value.bool false)] (by kernel_rfl) (by kernel_rfl) ?_
      refine reg_end [(0, Value.bool false)] (by kernel_rfl) (by kernel_rfl) ?_
      change WpE _ _ c_towpathlaw05_alive_15 _ _ _
      refine wpE_ret (by kernel_rfl) ?_
      repeat (first | refine seqQ_ret ?_ | refine blockQ_ret ?_ | refine loopQ_ret ?_ | refine cutQ_ret ?_)
      exact retS (rs := [(Go.ResultVar.tmp 0)]) (v := Value.bool false) (by kernel_rfl) (⟨by kernel_rfl, trivial⟩) ⟨false, rfl, h⟩
  · rintro e w' ⟨v, rfl, r0, rfl, h⟩; exact ⟨r0, rfl, h⟩
end Go.Proofs.Ytfmkemmgakdddaa
