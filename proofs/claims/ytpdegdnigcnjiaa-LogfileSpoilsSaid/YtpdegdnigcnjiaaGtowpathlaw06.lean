/- WRITTEN BY PROGRAM (dec.py): for each Go function the clean formula F, the call's contract C, and the proof S that F gives C. -/
import Derived.Test.YtpdegdnigcnjiaaRows
import Derived.Test.YtpdegdnigcnjiaaGF
namespace Go.Proofs.Ytpdegdnigcnjiaa
open Go
set_option linter.unusedVariables false

/-! ### towpath/towpathlaw06.alive (function 15) -/
noncomputable def c_towpathlaw06_alive_0 : Code := (Try.f15.body).getD Code.skip
noncomputable def c_towpathlaw06_alive_1 : Code := Code.l c_towpathlaw06_alive_0
noncomputable def r_towpathlaw06_alive_1 : Array Oper := Code.ops c_towpathlaw06_alive_1
noncomputable def c_towpathlaw06_alive_3 : Code := Code.r c_towpathlaw06_alive_0
noncomputable def c_towpathlaw06_alive_4 : Code := Code.l c_towpathlaw06_alive_3
noncomputable def r_towpathlaw06_alive_4 : Array Oper := Code.ops c_towpathlaw06_alive_4
noncomputable def c_towpathlaw06_alive_6 : Code := Code.r c_towpathlaw06_alive_3
noncomputable def c_towpathlaw06_alive_7 : Code := Code.l c_towpathlaw06_alive_6
noncomputable def r_towpathlaw06_alive_7 : Array Oper := Code.ops c_towpathlaw06_alive_7
noncomputable def c_towpathlaw06_alive_9 : Code := Code.r c_towpathlaw06_alive_6
noncomputable def c_towpathlaw06_alive_10 : Code := Code.l c_towpathlaw06_alive_9
noncomputable def r_towpathlaw06_alive_10 : Array Oper := Code.ops c_towpathlaw06_alive_10
noncomputable def c_towpathlaw06_alive_12 : Code := Code.r c_towpathlaw06_alive_9

set_option maxRecDepth 100000 in
set_option maxHeartbeats 4000000 in
theorem S_towpathlaw06_alive {w : World} {R : Bool → World → Prop} (h : F_towpathlaw06_alive R w) : C_towpathlaw06_alive w R := by
  unfold F_towpathlaw06_alive at h
  unfold C_towpathlaw06_alive
  refine Calls.mono (calls_of_wpE (args := []) (R := fun v w' => ∃ (r0 : Bool), v = Value.bool r0 ∧ R r0 w') Try.func15 (c := c_towpathlaw06_alive_0) (by kernel_rfl) 50 (by kernel_rfl) (by kernel_rfl) [] (by kernel_rfl) ?_) ?_
  · refine wpE_seq (x := c_towpathlaw06_alive_1) (y := c_towpathlaw06_alive_3) (by kernel_rfl) ?_
    refine wpE_region (id := 0) (ops := r_towpathlaw06_alive_1) (by kernel_rfl) ?_
    refine reg_run [.plain] 1 [] (by kernel_rfl) (by kernel_rfl) ?_
    refine reg_end [] (by kernel_rfl) (by kernel_rfl) ?_
    change WpE _ _ c_towpathlaw06_alive_3 _ _ _
    refine wpE_seq (x := c_towpathlaw06_alive_4) (y := c_towpathlaw06_alive_6) (by kernel_rfl) ?_
    refine wpE_region (id := 1) (ops := r_towpathlaw06_alive_4) (by kernel_rfl) ?_
    refine reg_run [.plain] 1 [(7, [], Value.agg #[Value.string (ByteArray.mk #[97]), Value.string (ByteArray.mk #[120]), Value.bool false])] (by kernel_rfl) (by kernel_rfl) ?_
    refine reg_new (op := (Go.Op.buildSlice 47 1 #[(0, (Go.Operand.tmp 7))])) (ty := 47) (dst := some 8) (fun bb => Value.slice (some ⟨bb, 0, none⟩) 1 1) (Obj.cells ([Value.string (ByteArray.mk #[97]), Value.string (ByteArray.mk #[120]), Value.bool false]).toArray ty_api_Write (0, 0)) (by kernel_rfl) (by kernel_rfl) (fun b_ w1 hb hw => ?_)
    replace h := h b_ w1 hb hw
    clear hb hw
    refine reg_run [.plain, .plain] 4 [(9, [], Value.agg #[Value.int .i64 1, Value.slice (some ⟨b_, 0, none⟩) 1 1]), (10, [], Value.agg #[Value.int .i64 2, Value.slice none 0 0])] (by kernel_rfl) (by kernel_rfl) ?_
    refine reg_new (op := (Go.Op.buildSlice 37 2 #[(0, (Go.Operand.tmp 9)), (1, (Go.Operand.tmp 10))])) (ty := 37) (dst := some 11) (fun bb => Value.slice (some ⟨bb, 0, none⟩) 2 2) (Obj.cells ([Value.int .i64 1, Value.slice (some ⟨b_, 0, none⟩) 1 1, Value.int .i64 2, Value.slice none 0 0]).toArray ty_api_Txn (0, 0)) (by kernel_rfl) (by kernel_rfl) (fun b_1 w2 hb hw => ?_)
    replace h := h b_1 w2 hb hw
    clear hb hw
    refine reg_run [] 5 [(11, [], Value.slice (some ⟨b_1, 0, none⟩) 2 2)] (by kernel_rfl) (by kernel_rfl) ?_
    refine reg_enter (op := (Go.Op.call (Go.Call.mk (Go.Callee.value (Go.Operand.func 17)) #[(Go.Operand.tmp 11)] #[37]))) (ty := 32) (dst := some 12) 17 #[Value.slice (some ⟨b_1, 0, none⟩) 2 2] (by kernel_rfl) (fun ww => by kernel_rfl) (Calls.mono h ?_)
    rintro _ w3 ⟨b_2, e, rfl, h⟩
    refine ⟨_, rfl, ?_⟩
    refine reg_run [.plain, .plain, .plain, .plain, .plain] 11 [(1, [], Value.slice b_2.ptr b_2.len b_2.cap), (2, [], Value.int .i64 e)] (by kernel_rfl) (by kernel_rfl) ?_
    refine reg_end [(1, Value.slice b_2.ptr b_2.len b_2.cap), (2, Value.int .i64 e)] (by kernel_rfl) (by kernel_rfl) ?_
    change WpE _ _ c_towpathlaw06_alive_6 _ _ _
    refine wpE_seq (x := c_towpathlaw06_alive_7) (y := c_towpathlaw06_alive_9) (by kernel_rfl) ?_
    refine wpE_region (id := 2) (ops := r_towpathlaw06_alive_7) (by kernel_rfl) ?_
    refine reg_run [] 0 [(1, [], Value.slice b_2.ptr b_2.len b_2.cap), (2, [], Value.int .i64 e)] (by kernel_rfl) (by kernel_rfl) ?_
    refine reg_new (op := (Go.Op.buildSlice 22 1 #[(0, (Go.Operand.const (Go.Value.int Go.IntKind.u8 0)))])) (ty := 22) (dst := some 16) (fun bb => Value.slice (some ⟨bb, 0, none⟩) 1 1) (Obj.cells ([Value.int .u8 0]).toArray ty_uint8 (0, 0)) (by kernel_rfl) (by kernel_rfl) (fun b_3 w4 hb hw => ?_)
    replace h := h b_3 w4 hb hw
    clear hb hw
    refine reg_run [] 1 [(1, [], Value.slice b_2.ptr b_2.len b_2.cap), (2, [], Value.int .i64 e), (16, [], Value.slice (some ⟨b_3, 0, none⟩) 1 1)] (by kernel_rfl) (by kernel_rfl) ?_
    refine reg_enter (op := (Go.Op.call (Go.Call.mk (Go.Callee.value (Go.Operand.func 19)) #[(Go.Operand.tmp 16)] #[22]))) (ty := 42) (dst := some 17) 19 #[Value.slice (some ⟨b_3, 0, none⟩) 1 1] (by kernel_rfl) (fun ww => by kernel_rfl) (Calls.mono h ?_)
    rintro _ w5 ⟨v17, v17_1, f, rfl, h⟩
    refine ⟨_, rfl, ?_⟩
    refine reg_run [.plain, .plain, .plain, .plain, .plain, .plain, .plain] 9 [(1, [], Value.slice b_2.ptr b_2.len b_2.cap), (2, [], Value.int .i64 e), (5, [], Value.int .i64 f)] (by kernel_rfl) (by kernel_rfl) ?_
    refine reg_end [(1, Value.slice b_2.ptr b_2.len b_2.cap), (2, Value.int .i64 e), (5, Value.int .i64 f)] (by kernel_rfl) (by kernel_rfl) ?_
    change WpE _ _ c_towpathlaw06_alive_9 _ _ _
    refine wpE_seq (x := c_towpathlaw06_alive_10) (y := c_towpathlaw06_alive_12) (by kernel_rfl) ?_
    refine wpE_region (id := 3) (ops := r_towpathlaw06_alive_10) (by kernel_rfl) ?_
    refine reg_run [.plain, .plain, .plain, .plain, .plain, .pick, .plain, .plain, .plain, .plain, .pick, .plain, .plain] 13 [(1, [], Value.slice b_2.ptr b_2.len b_2.cap), (32, [], Value.bool (((e == 0) && (f == 5)) && (((b_2.len : Nat) : Int) == 19))), (33, [(32, true)], Value.slice b_2.ptr b_2.len b_2.cap)] (by kernel_rfl) (by kernel_rfl) ?_
    refine reg_split 32 (((e == 0) && (f == 5)) && (((b_2.len : Nat) : Int) == 19)) (by kernel_rfl) (fun hb => ?_) (fun hb => ?_)
    · replace h := h.1 hb
      refine reg_run [] 13 [(1, [], Value.slice b_2.ptr b_2.len b_2.cap), (32, [], Value.bool true), (33, [], Value.slice b_2.ptr b_2.len b_2.cap)] (by kernel_rfl) (by kernel_rfl) ?_
      refine reg_run [] 13 [(1, [], Value.slice b_2.ptr b_2.len b_2.cap), (32, [], Value.bool true), (33, [], Value.slice b_2.ptr b_2.len b_2.cap)] (by kernel_rfl) (by kernel_rfl) ?_
      obtain ⟨hp_0, h⟩ := h
      refine reg_conv [(1, [], Value.slice b_2.ptr b_2.len b_2.cap), (32, [], Value.bool true), (33, [], Value.slice (some ⟨(pblk b_2.ptr), (poff b_2.ptr), none⟩) b_2.len b_2.cap)] (congrArg (fun pp => ([(1, [], Value.slice b_2.ptr b_2.len b_2.cap), (32, [], Value.bool true), (33, [], Value.slice pp b_2.len b_2.cap)] : GEnv)) hp_0) ?_
      obtain ⟨h0, h1, h⟩ := h
      refine reg_indexS1 (t := 22) (e := 5) (x := (Go.Operand.tmp 33)) (ix := (Go.Operand.const (Go.Value.int Go.IntKind.i64 0))) (b := (pblk b_2.ptr)) (o := (poff b_2.ptr)) (l := b_2.len) (c := b_2.cap) (k := .i64) (j := 0) (ty := 0) (dst := some 34) (by kernel_rfl) (by kernel_rfl) (by kernel_rfl) (by kernel_rfl) (by kernel_rfl) h0 h1 ?_
      refine reg_run [] 14 [(1, [], Value.slice b_2.ptr b_2.len b_2.cap), (32, [], Value.bool true), (34, [], Value.pointer (some ⟨(pblk b_2.ptr), (poff b_2.ptr), none⟩))] (by kernel_rfl) (by kernel_rfl) ?_
      obtain ⟨v35, hc, h⟩ := h
      refine reg_load1 (t := 5) (a := (Go.Operand.tmp 34)) (b := (pblk b_2.ptr)) (o := (poff b_2.ptr)) (ty := 5) (dst := some 35) (by kernel_rfl) (by kernel_rfl) (by kernel_rfl) hc ?_
      refine reg_run [.sure, .plain, .plain, .plain] 19 [(38, [], Value.bool (v35 == 7)), (39, [(38, true)], Value.slice b_2.ptr b_2.len b_2.cap)] (by kernel_rfl) (by kernel_rfl) ?_
      refine reg_split 38 (v35 == 7) (by kernel_rfl) (fun hb => ?_) (fun hb => ?_)
      · replace h := h.1 hb
        refine reg_run [] 19 [(38, [], Value.bool true), (39, [], Value.slice b_2.ptr b_2.len b_2.cap)] (by kernel_rfl) (by kernel_rfl) ?_
        refine reg_run [] 19 [(38, [], Value.bool true), (39, [], Value.slice b_2.ptr b_2.len b_2.cap)] (by kernel_rfl) (by kernel_rfl) ?_
        obtain ⟨hp_1, h⟩ := h
        refine reg_conv [(38, [], Value.bool true), (39, [], Value.slice (some ⟨(pblk b_2.ptr), (poff b_2.ptr), none⟩) b_2.len b_2.cap)] (congrArg (fun pp => ([(38, [], Value.bool true), (39, [], Value.slice pp b_2.len b_2.cap)] : GEnv)) hp_1) ?_
        obtain ⟨h0, h1, h⟩ := h
        refine reg_indexS1 (t := 22) (e := 5) (x := (Go.Operand.tmp 39)) (ix := (Go.Operand.const (Go.Value.int Go.IntKind.i64 12))) (b := (pblk b_2.ptr)) (o := (poff b_2.ptr)) (l := b_2.len) (c := b_2.cap) (k := .i64) (j := 12) (ty := 0) (dst := some 40) (by kernel_rfl) (by kernel_rfl) (by kernel_rfl) (by kernel_rfl) (by kernel_rfl) h0 h1 ?_
        refine reg_run [] 20 [(38, [], Value.bool true), (40, [], Value.pointer (some ⟨(pblk b_2.ptr), (poff b_2.ptr) + 12, none⟩))] (by kernel_rfl) (by kernel_rfl) ?_
        obtain ⟨v41, hc, h⟩ := h
        refine reg_load1 (t := 5) (a := (Go.Operand.tmp 40)) (b := (pblk b_2.ptr)) (o := ((poff b_2.ptr) + 12)) (ty := 5) (dst := some 41) (by kernel_rfl) (by kernel_rfl) (by kernel_rfl) hc ?_
        refine reg_run [.sure, .plain, .plain, .plain] 25 [(44, [], Value.bool (v41 == 2)), (45, [(44, true)], Value.agg #[Value.int .i64 2, Value.slice none 0 0])] (by kernel_rfl) (by kernel_rfl) ?_
        refine reg_split 44 (v41 == 2) (by kernel_rfl) (fun hb => ?_) (fun hb => ?_)
        · replace h := h.1 hb
          refine reg_run [] 25 [(44, [], Value.bool true), (45, [], Value.agg #[Value.int .i64 2, Value.slice none 0 0])] (by kernel_rfl) (by kernel_rfl) ?_
          refine reg_run [] 25 [(44, [], Value.bool true), (45, [], Value.agg #[Value.int .i64 2, Value.slice none 0 0])] (by kernel_rfl) (by kernel_rfl) ?_
          refine reg_new (op := (Go.Op.buildSlice 37 1 #[(0, (Go.Operand.tmp 45))])) (ty := 37) (dst := some 46) (fun bb => Value.slice (some ⟨bb, 0, none⟩) 1 1) (Obj.cells ([Value.int .i64 2, Value.slice none 0 0]).toArray ty_api_Txn (0, 0)) (by kernel_rfl) (by kernel_rfl) (fun b_4 w6 hb hw => ?_)
          replace h := h b_4 w6 hb hw
          clear hb hw
          refine reg_run [] 26 [(44, [], Value.bool true), (46, [], Value.slice (some ⟨b_4, 0, none⟩) 1 1)] (by kernel_rfl) (by kernel_rfl) ?_
          refine reg_enter (op := (Go.Op.call (Go.Call.mk (Go.Callee.value (Go.Operand.func 18)) #[(Go.Operand.tmp 46)] #[37]))) (ty := 29) (dst := some 47) 18 #[Value.slice (some ⟨b_4, 0, none⟩) 1 1] (by kernel_rfl) (fun ww => by kernel_rfl) (Calls.mono h ?_)
          rintro _ w7 ⟨v47, rfl, h⟩
          refine ⟨_, rfl, ?_⟩
          refine reg_run [.sure, .plain, .plain] 30 [(0, [], Value.bool (v47 == 6))] (by kernel_rfl) (by kernel_rfl) ?_
          refine reg_end [(0, Value.bool (v47 == 6))] (by kernel_rfl) (by kernel_rfl) ?_
          change WpE _ _ c_towpathlaw06_alive_12 _ _ _
          refine wpE_ret (by kernel_rfl) ?_
          repeat (first | refine seqQ_ret ?_ | refine blockQ_ret ?_ | refine loopQ_ret ?_ | refine cutQ_ret ?_)
          exact retS (rs := [(Go.ResultVar.tmp 0)]) (v := Value.bool (v47 == 6)) (by kernel_rfl) (⟨by kernel_rfl, trivial⟩) ⟨(v47 == 6), rfl, h⟩
        · replace h := h.2 hb
          refine reg_run [] 25 [(44, [], Value.bool false), (45, [], undef)] (by kernel_rfl) (by kernel_rfl) ?_
          refine reg_run [.skip, .skip, .skip, .plain, .plain] 30 [(0, [], Value.bool false)] (by kernel_rfl) (by kernel_rfl) ?_
          refine reg_end [(0, Value.bool false)] (by kernel_rfl) (by kernel_rfl) ?_
          change WpE _ _ c_towpathlaw06_alive_12 _ _ _
          refine wpE_ret (by kernel_rfl) ?_
          repeat (first | refine seqQ_ret ?_ | refine blockQ_ret ?_ | refine loopQ_ret ?_ | refine cutQ_ret ?_)
          exact retS (rs := [(Go.ResultVar.tmp 0)]) (v := Value.bool false) (by kernel_rfl) (⟨by kernel_rfl, trivial⟩) ⟨false, rfl, h⟩
      · replace h := h.2 hb
        refine reg_run [] 19 [(38, [], Value.bool false), (39, [], undef)] (by kernel_rfl) (by kernel_rfl) ?_
        refine reg_run [.skip, .skip, .skip, .plain, .plain, .skip, .skip, .skip, .skip, .plain, .plain] 30 [(0, [], Value.bool false)] (by kernel_rfl) (by kernel_rfl) ?_
        refine reg_end [(0, Value.bool false)] (by kernel_rfl) (by kernel_rfl) ?_
        change WpE _ _ c_towpathlaw06_alive_12 _ _ _
        refine wpE_ret (by kernel_rfl) ?_
        repeat (first | refine seqQ_ret ?_ | refine blockQ_ret ?_ | refine loopQ_ret ?_ | refine cutQ_ret ?_)
        exact retS (rs := [(Go.ResultVar.tmp 0)]) (v := Value.bool false) (by kernel_rfl) (⟨by kernel_rfl, trivial⟩) ⟨false, rfl, h⟩
    · replace h := h.2 hb
      refine reg_run [] 13 [(1, [], Value.slice b_2.ptr b_2.len b_2.cap), (32, [], Value.bool false), (33, [], undef)] (by kernel_rfl) (by kernel_rfl) ?_
      refine reg_run [.skip, .skip, .skip, .plain, .plain, .skip, .skip, .skip, .skip, .plain, .plain, .skip, .skip, .skip, .skip, .plain, .plain] 30 [(0, [], Value.bool false)] (by kernel_rfl) (by kernel_rfl) ?_
      refine reg_end [(0, Value.bool false)] (by kernel_rfl) (by kernel_rfl) ?_
      change WpE _ _ c_towpathlaw06_alive_12 _ _ _
      refine wpE_ret (by kernel_rfl) ?_
      repeat (first | refine seqQ_ret ?_ | refine blockQ_ret ?_ | refine loopQ_ret ?_ | refine cutQ_ret ?_)
      exact retS (rs := [(Go.ResultVar.tmp 0)]) (v := Value.bool false) (by kernel_rfl) (⟨by kernel_rfl, trivial⟩) ⟨false, rfl, h⟩
  · rintro e w' ⟨v, rfl, r0, rfl, h⟩; exact ⟨r0, rfl, h⟩
end Go.Proofs.Ytpdegdnigcnjiaa
