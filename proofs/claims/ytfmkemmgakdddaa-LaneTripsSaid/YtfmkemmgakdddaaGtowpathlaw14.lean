/- WRITTEN BY PROGRAM (dec.py): for each Go function the clean formula F, the call's contract C, and the proof S that F gives C. -/
import Derived.Test.YtfmkemmgakdddaaRows
import Derived.Test.YtfmkemmgakdddaaGF
namespace Go.Proofs.Ytfmkemmgakdddaa
open Go
set_option linter.unusedVariables false

/-! ### towpath/towpathlaw14.alive (function 20) -/
noncomputable def c_towpathlaw14_alive_0 : Code := (Try.f20.body).getD Code.skip
noncomputable def c_towpathlaw14_alive_1 : Code := Code.l c_towpathlaw14_alive_0
noncomputable def r_towpathlaw14_alive_1 : Array Oper := Code.ops c_towpathlaw14_alive_1
noncomputable def c_towpathlaw14_alive_3 : Code := Code.r c_towpathlaw14_alive_0
noncomputable def c_towpathlaw14_alive_4 : Code := Code.l c_towpathlaw14_alive_3
noncomputable def r_towpathlaw14_alive_4 : Array Oper := Code.ops c_towpathlaw14_alive_4
noncomputable def c_towpathlaw14_alive_6 : Code := Code.r c_towpathlaw14_alive_3
noncomputable def c_towpathlaw14_alive_7 : Code := Code.l c_towpathlaw14_alive_6
noncomputable def r_towpathlaw14_alive_7 : Array Oper := Code.ops c_towpathlaw14_alive_7
noncomputable def c_towpathlaw14_alive_9 : Code := Code.r c_towpathlaw14_alive_6
noncomputable def c_towpathlaw14_alive_10 : Code := Code.l c_towpathlaw14_alive_9
noncomputable def r_towpathlaw14_alive_10 : Array Oper := Code.ops c_towpathlaw14_alive_10
noncomputable def c_towpathlaw14_alive_12 : Code := Code.r c_towpathlaw14_alive_9
noncomputable def c_towpathlaw14_alive_13 : Code := Code.l c_towpathlaw14_alive_12
noncomputable def c_towpathlaw14_alive_14 : Code := Code.l c_towpathlaw14_alive_13
noncomputable def r_towpathlaw14_alive_14 : Array Oper := Code.ops c_towpathlaw14_alive_14
noncomputable def c_towpathlaw14_alive_16 : Code := Code.r c_towpathlaw14_alive_13
noncomputable def c_towpathlaw14_alive_17 : Code := Code.l c_towpathlaw14_alive_16
noncomputable def c_towpathlaw14_alive_18 : Code := Code.l c_towpathlaw14_alive_17
noncomputable def r_towpathlaw14_alive_18 : Array Oper := Code.ops c_towpathlaw14_alive_18
noncomputable def c_towpathlaw14_alive_20 : Code := Code.r c_towpathlaw14_alive_17
noncomputable def c_towpathlaw14_alive_21 : Code := Code.r c_towpathlaw14_alive_16
noncomputable def c_towpathlaw14_alive_22 : Code := Code.r c_towpathlaw14_alive_12
noncomputable def c_towpathlaw14_alive_23 : Code := Code.l c_towpathlaw14_alive_22
noncomputable def r_towpathlaw14_alive_23 : Array Oper := Code.ops c_towpathlaw14_alive_23
noncomputable def c_towpathlaw14_alive_25 : Code := Code.r c_towpathlaw14_alive_22
noncomputable def c_towpathlaw14_alive_26 : Code := Code.l c_towpathlaw14_alive_25
noncomputable def r_towpathlaw14_alive_26 : Array Oper := Code.ops c_towpathlaw14_alive_26
noncomputable def c_towpathlaw14_alive_28 : Code := Code.r c_towpathlaw14_alive_25
noncomputable def c_towpathlaw14_alive_29 : Code := Code.l c_towpathlaw14_alive_28
noncomputable def r_towpathlaw14_alive_29 : Array Oper := Code.ops c_towpathlaw14_alive_29
noncomputable def c_towpathlaw14_alive_31 : Code := Code.r c_towpathlaw14_alive_28

set_option maxRecDepth 100000 in
set_option maxHeartbeats 4000000 in
theorem S_towpathlaw14_alive {w : World} {R : Bool → World → Prop} (h : F_towpathlaw14_alive R w) : C_towpathlaw14_alive w R := by
  unfold F_towpathlaw14_alive at h
  unfold C_towpathlaw14_alive
  refine Calls.mono (calls_of_wpE (args := []) (R := fun v w' => ∃ (r0 : Bool), v = Value.bool r0 ∧ R r0 w') Try.func20 (c := c_towpathlaw14_alive_0) (by kernel_rfl) 84 (by kernel_rfl) (by kernel_rfl) [] (by kernel_rfl) ?_) ?_
  · refine wpE_seq (x := c_towpathlaw14_alive_1) (y := c_towpathlaw14_alive_3) (by kernel_rfl) ?_
    refine wpE_region (id := 0) (ops := r_towpathlaw14_alive_1) (by kernel_rfl) ?_
    refine reg_run [.plain] 1 [] (by kernel_rfl) (by kernel_rfl) ?_
    refine reg_end [] (by kernel_rfl) (by kernel_rfl) ?_
    change WpE _ _ c_towpathlaw14_alive_3 _ _ _
    refine wpE_seq (x := c_towpathlaw14_alive_4) (y := c_towpathlaw14_alive_6) (by kernel_rfl) ?_
    refine wpE_region (id := 1) (ops := r_towpathlaw14_alive_4) (by kernel_rfl) ?_
    refine reg_run [.plain] 1 [(11, [], Value.agg #[Value.int .i64 1, Value.int .i64 1, Value.int .i64 1, Value.int .i64 1])] (by kernel_rfl) (by kernel_rfl) ?_
    refine reg_new (op := (Go.Op.alloc 35)) (ty := 0) (dst := some 1) (fun bb => Value.pointer (some ⟨bb, 0, none⟩)) (Obj.cells ([Value.int .i64 0, Value.int .i64 0, Value.int .i64 0, Value.int .i64 0]).toArray ty_api_Config (0, 0)) (by kernel_rfl) (by kernel_rfl) (fun b_ w1 hb hw => ?_)
    replace h := h b_ w1 hb hw
    clear hb hw
    refine reg_run [] 2 [(1, [], Value.pointer (some ⟨b_, 0, none⟩)), (11, [], Value.agg #[Value.int .i64 1, Value.int .i64 1, Value.int .i64 1, Value.int .i64 1])] (by kernel_rfl) (by kernel_rfl) ?_
    obtain ⟨hc, h⟩ := h
    refine reg_store (t := 35) (a := (Go.Operand.tmp 1)) (x := (Go.Operand.tmp 11)) (b := b_) (o := 0) (ty := 0) (dst := none) [Value.int .i64 1, Value.int .i64 1, Value.int .i64 1, Value.int .i64 1] (by kernel_rfl) (by kernel_rfl) (by kernel_rfl) (k := 4) (by kernel_rfl) (by kernel_rfl) (by kernel_rfl) hc (fun w2 hw => ?_)
    replace h := h w2 hw
    clear hw
    refine reg_end [(1, Value.pointer (some ⟨b_, 0, none⟩))] (by kernel_rfl) (by kernel_rfl) ?_
    change WpE _ _ c_towpathlaw14_alive_6 _ _ _
    refine wpE_seq (x := c_towpathlaw14_alive_7) (y := c_towpathlaw14_alive_9) (by kernel_rfl) ?_
    refine wpE_region (id := 2) (ops := r_towpathlaw14_alive_7) (by kernel_rfl) ?_
    refine reg_run [] 0 [(1, [], Value.pointer (some ⟨b_, 0, none⟩))] (by kernel_rfl) (by kernel_rfl) ?_
    obtain ⟨v13, hc, h⟩ := h
    refine reg_loadN (t := 35) (a := (Go.Operand.tmp 1)) (b := b_) (o := 0) (ty := 35) (dst := some 13) [Value.int .i64 v13.Lanes, Value.int .i64 v13.Shards, Value.int .i64 v13.Window, Value.int .i64 v13.Queue] (by kernel_rfl) (by kernel_rfl) (by kernel_rfl) (k := 4) (by kernel_rfl) (by kernel_rfl) hc ?_
    refine reg_run [] 1 [(1, [], Value.pointer (some ⟨b_, 0, none⟩)), (13, [], Value.agg #[Value.int .i64 v13.Lanes, Value.int .i64 v13.Shards, Value.int .i64 v13.Window, Value.int .i64 v13.Queue])] (by kernel_rfl) (by kernel_rfl) ?_
    refine reg_enter (op := (Go.Op.call (Go.Call.mk (Go.Callee.value (Go.Operand.func 17)) #[(Go.Operand.const (Go.Value.int Go.IntKind.i64 1)), (Go.Operand.tmp 13)] #[3, 35]))) (ty := 39) (dst := some 14) 17 #[Value.int .i64 1, Value.agg #[Value.int .i64 v13.Lanes, Value.int .i64 v13.Shards, Value.int .i64 v13.Window, Value.int .i64 v13.Queue]] (by kernel_rfl) (fun ww => by kernel_rfl) (Calls.mono h ?_)
    rintro _ w3 ⟨l_, e, rfl, h⟩
    refine ⟨_, rfl, ?_⟩
    refine reg_run [.plain, .plain, .plain, .plain, .plain] 7 [(1, [], Value.pointer (some ⟨b_, 0, none⟩)), (2, [], Value.pointer l_), (3, [], Value.int .i64 e)] (by kernel_rfl) (by kernel_rfl) ?_
    refine reg_end [(1, Value.pointer (some ⟨b_, 0, none⟩)), (2, Value.pointer l_), (3, Value.int .i64 e)] (by kernel_rfl) (by kernel_rfl) ?_
    change WpE _ _ c_towpathlaw14_alive_9 _ _ _
    refine wpE_seq (x := c_towpathlaw14_alive_10) (y := c_towpathlaw14_alive_12) (by kernel_rfl) ?_
    refine wpE_region (id := 3) (ops := r_towpathlaw14_alive_10) (by kernel_rfl) ?_
    refine reg_run [] 0 [(1, [], Value.pointer (some ⟨b_, 0, none⟩)), (2, [], Value.pointer l_), (3, [], Value.int .i64 e)] (by kernel_rfl) (by kernel_rfl) ?_
    obtain ⟨v18, hc, h⟩ := h
    refine reg_loadN (t := 35) (a := (Go.Operand.tmp 1)) (b := b_) (o := 0) (ty := 35) (dst := some 18) [Value.int .i64 v18.Lanes, Value.int .i64 v18.Shards, Value.int .i64 v18.Window, Value.int .i64 v18.Queue] (by kernel_rfl) (by kernel_rfl) (by kernel_rfl) (k := 4) (by kernel_rfl) (by kernel_rfl) hc ?_
    refine reg_run [] 1 [(2, [], Value.pointer l_), (3, [], Value.int .i64 e), (18, [], Value.agg #[Value.int .i64 v18.Lanes, Value.int .i64 v18.Shards, Value.int .i64 v18.Window, Value.int .i64 v18.Queue])] (by kernel_rfl) (by kernel_rfl) ?_
    refine reg_enter (op := (Go.Op.call (Go.Call.mk (Go.Callee.value (Go.Operand.func 17)) #[(Go.Operand.const (Go.Value.int Go.IntKind.i64 2)), (Go.Operand.tmp 18)] #[3, 35]))) (ty := 39) (dst := some 19) 17 #[Value.int .i64 2, Value.agg #[Value.int .i64 v18.Lanes, Value.int .i64 v18.Shards, Value.int .i64 v18.Window, Value.int .i64 v18.Queue]] (by kernel_rfl) (fun ww => by kernel_rfl) (Calls.mono h ?_)
    rintro _ w4 ⟨v19, f, rfl, h⟩
    refine ⟨_, rfl, ?_⟩
    refine reg_run [.plain, .plain, .plain, .plain, .plain] 7 [(2, [], Value.pointer l_), (3, [], Value.int .i64 e), (5, [], Value.int .i64 f)] (by kernel_rfl) (by kernel_rfl) ?_
    refine reg_end [(2, Value.pointer l_), (3, Value.int .i64 e), (5, Value.int .i64 f)] (by kernel_rfl) (by kernel_rfl) ?_
    change WpE _ _ c_towpathlaw14_alive_12 _ _ _
    refine wpE_seq (x := c_towpathlaw14_alive_13) (y := c_towpathlaw14_alive_22) (by kernel_rfl) ?_
    refine wpE_seq_cut (x := c_towpathlaw14_alive_14) (y := c_towpathlaw14_alive_16) (by kernel_rfl) (fun l w => ∃ (t42 : Bool), l = [(2, Value.pointer l_), (42, Value.bool t42)] ∧ F_towpathlaw14_alive_k0 R l_ t42 w) ?_ ?_
    · refine wpE_region (id := 4) (ops := r_towpathlaw14_alive_14) (by kernel_rfl) ?_
      refine reg_run [.plain, .plain, .plain, .plain, .plain, .pick, .plain, .plain] 8 [(2, [], Value.pointer l_), (28, [], Value.bool ((e != 0) || (f != 1))), (29, [(28, false)], Value.pointer l_)] (by kernel_rfl) (by kernel_rfl) ?_
      refine reg_split 28 ((e != 0) || (f != 1)) (by kernel_rfl) (fun hb => ?_) (fun hb => ?_)
      · replace h := h.1 hb
        refine reg_run [] 8 [(2, [], Value.pointer l_), (28, [], Value.bool true), (29, [], undef)] (by kernel_rfl) (by kernel_rfl) ?_
        refine reg_run [.skip, .skip, .plain, .plain, .skip, .skip, .skip, .skip, .skip, .skip, .skip, .skip, .plain] 21 [(2, [], Value.pointer l_), (42, [], Value.bool true)] (by kernel_rfl) (by kernel_rfl) ?_
        refine reg_end [(2, Value.pointer l_), (42, Value.bool true)] (by kernel_rfl) (by kernel_rfl) ?_
        exact ⟨[(2, Value.pointer l_), (42, Value.bool true)], Sub.mk (by kernel_rfl), true, rfl, h⟩
      · replace h := h.2 hb
        refine reg_run [] 8 [(2, [], Value.pointer l_), (28, [], Value.bool false), (29, [], Value.pointer l_)] (by kernel_rfl) (by kernel_rfl) ?_
        refine reg_run [] 8 [(2, [], Value.pointer l_), (28, [], Value.bool false), (29, [], Value.pointer l_)] (by kernel_rfl) (by kernel_rfl) ?_
        refine reg_enter (op := (Go.Op.call (Go.Call.mk (Go.Callee.value (Go.Operand.func 29)) #[(Go.Operand.tmp 29)] #[38]))) (ty := 28) (dst := some 30) 29 #[Value.pointer l_] (by kernel_rfl) (fun ww => by kernel_rfl) (Calls.mono h ?_)
        rintro _ w11 ⟨v30, rfl, h⟩
        refine ⟨_, rfl, ?_⟩
        refine reg_run [.sure, .plain, .plain, .plain, .plain, .plain, .plain] 16 [(2, [], Value.pointer l_), (33, [], Value.bool (v30 != 9)), (34, [(33, false)], Value.pointer l_), (35, [(33, false)], Value.agg #[Value.string (ByteArray.mk #[97]), Value.string (ByteArray.mk #[49]), Value.bool false]), (36, [(33, false)], Value.agg #[Value.string (ByteArray.mk #[98]), Value.string (ByteArray.mk #[50]), Value.bool false]), (37, [(33, false)], Value.agg #[Value.string (ByteArray.mk #[97]), Value.string ByteArray.empty, Value.bool true])] (by kernel_rfl) (by kernel_rfl) ?_
        refine reg_split 33 (v30 != 9) (by kernel_rfl) (fun hb => ?_) (fun hb => ?_)
        · replace h := h.1 hb
          refine reg_run [] 16 [(2, [], Value.pointer l_), (33, [], Value.bool true), (34, [], undef), (35, [], undef), (36, [], undef), (37, [], undef)] (by kernel_rfl) (by kernel_rfl) ?_
          refine reg_run [.skip, .skip, .skip, .skip, .plain] 21 [(2, [], Value.pointer l_), (42, [], Value.bool true)] (by kernel_rfl) (by kernel_rfl) ?_
          refine reg_end [(2, Value.pointer l_), (42, Value.bool true)] (by kernel_rfl) (by kernel_rfl) ?_
          exact ⟨[(2, Value.pointer l_), (42, Value.bool true)], Sub.mk (by kernel_rfl), true, rfl, h⟩
        · replace h := h.2 hb
          refine reg_run [] 16 [(2, [], Value.pointer l_), (33, [], Value.bool false), (34, [], Value.pointer l_), (35, [], Value.agg #[Value.string (ByteArray.mk #[97]), Value.string (ByteArray.mk #[49]), Value.bool false]), (36, [], Value.agg #[Value.string (ByteArray.mk #[98]), Value.string (ByteArray.mk #[50]), Value.bool false]), (37, [], Value.agg #[Value.string (ByteArray.mk #[97]), Value.string ByteArray.empty, Value.bool true])] (by kernel_rfl) (by kernel_rfl) ?_
          refine reg_run [] 16 [(2, [], Value.pointer l_), (33, [], Value.bool false), (34, [], Value.pointer l_), (35, [], Value.agg #[Value.string (ByteArray.mk #[97]), Value.string (ByteArray.mk #[49]), Value.bool false]), (36, [], Value.agg #[Value.string (ByteArray.mk #[98]), Value.string (ByteArray.mk #[50]), Value.bool false]), (37, [], Value.agg #[Value.string (ByteArray.mk #[97]), Value.string ByteArray.empty, Value.bool true])] (by kernel_rfl) (by kernel_rfl) ?_
          refine reg_new (op := (Go.Op.buildSlice 25 3 #[(0, (Go.Operand.tmp 35)), (1, (Go.Operand.tmp 36)), (2, (Go.Operand.tmp 37))])) (ty := 25) (dst := some 38) (fun bb => Value.slice (some ⟨bb, 0, none⟩) 3 3) (Obj.cells ([Value.string (ByteArray.mk #[97]), Value.string (ByteArray.mk #[49]), Value.bool false, Value.string (ByteArray.mk #[98]), Value.string (ByteArray.mk #[50]), Value.bool false, Value.string (ByteArray.mk #[97]), Value.string ByteArray.empty, Value.bool true]).toArray ty_api_Write (0, 0)) (by kernel_rfl) (by kernel_rfl) (fun b_2 w12 hb hw => ?_)
          replace h := h b_2 w12 hb hw
          clear hb hw
          refine reg_run [.sure] 18 [(2, [], Value.pointer l_), (33, [], Value.bool false), (34, [], Value.pointer l_), (39, [], Value.agg #[Value.int .i64 4, Value.slice (some ⟨b_2, 0, none⟩) 3 3])] (by kernel_rfl) (by kernel_rfl) ?_
          refine reg_enter (op := (Go.Op.call (Go.Call.mk (Go.Callee.value (Go.Operand.func 23)) #[(Go.Operand.tmp 34), (Go.Operand.tmp 39)] #[38, 27]))) (ty := 28) (dst := some 40) 23 #[Value.pointer l_, Value.agg #[Value.int .i64 4, Value.slice (some ⟨b_2, 0, none⟩) 3 3]] (by kernel_rfl) (fun ww => by kernel_rfl) (Calls.mono h ?_)
          rintro _ w13 ⟨v40, rfl, h⟩
          refine ⟨_, rfl, ?_⟩
          refine reg_run [.sure, .plain] 21 [(2, [], Value.pointer l_), (42, [], Value.bool (v40 != 0))] (by kernel_rfl) (by kernel_rfl) ?_
          refine reg_end [(2, Value.pointer l_), (42, Value.bool (v40 != 0))] (by kernel_rfl) (by kernel_rfl) ?_
          exact ⟨[(2, Value.pointer l_), (42, Value.bool (v40 != 0))], Sub.mk (by kernel_rfl), (v40 != 0), rfl, h⟩
    · rintro _ w5 ⟨t42, rfl, h⟩
      unfold F_towpathlaw14_alive_k0 at h
      refine wpE_cond (o := (Operand.tmp 42)) (b := t42) (x := c_towpathlaw14_alive_17) (y := c_towpathlaw14_alive_21) (by kernel_rfl) (by kernel_rfl) (fun hb => ?_) (fun hb => ?_)
      · replace h := h.1 hb
        refine wpE_seq (x := c_towpathlaw14_alive_18) (y := c_towpathlaw14_alive_20) (by kernel_rfl) ?_
        refine wpE_region (id := 5) (ops := r_towpathlaw14_alive_18) (by kernel_rfl) ?_
        refine reg_run [.plain] 1 [(0, [], Value.bool false)] (by kernel_rfl) (by kernel_rfl) ?_
        refine reg_end [(0, Value.bool false)] (by kernel_rfl) (by kernel_rfl) ?_
        change WpE _ _ c_towpathlaw14_alive_20 _ _ _
        refine wpE_ret (by kernel_rfl) ?_
        repeat (first | refine seqQ_ret ?_ | refine blockQ_ret ?_ | refine loopQ_ret ?_ | refine cutQ_ret ?_)
        exact retS (rs := [(Go.ResultVar.tmp 0)]) (v := Value.bool false) (by kernel_rfl) (⟨by kernel_rfl, trivial⟩) ⟨false, rfl, h⟩
      · replace h := h.2 hb
        refine wpE_skip (by kernel_rfl) ?_
        change WpE _ _ c_towpathlaw14_alive_22 _ _ _
        refine wpE_seq (x := c_towpathlaw14_alive_23) (y := c_towpathlaw14_alive_25) (by kernel_rfl) ?_
        refine wpE_region (id := 6) (ops := r_towpathlaw14_alive_23) (by kernel_rfl) ?_
        refine reg_run [.plain] 1 [(2, [], Value.pointer l_), (44, [], Value.pointer l_)] (by kernel_rfl) (by kernel_rfl) ?_
        refine reg_enter (op := (Go.Op.call (Go.Call.mk (Go.Callee.value (Go.Operand.func 26)) #[(Go.Operand.tmp 44)] #[38]))) (ty := 66) (dst := some 45) 26 #[Value.pointer l_] (by kernel_rfl) (fun ww => by kernel_rfl) (Calls.mono h ?_)
        rintro _ w6 ⟨s, v45_1, ok, rfl, h⟩
        refine ⟨_, rfl, ?_⟩
        refine reg_run [.plain, .plain, .plain, .plain] 6 [(2, [], Value.pointer l_), (46, [], Value.int .i64 s), (47, [], Value.agg #[Value.int .u8 v45_1.Kind, Value.int .i64 v45_1.From, Value.int .i64 v45_1.Number, Value.string v45_1.Write.Key, Value.string v45_1.Write.Val, Value.bool v45_1.Write.Drop, Value.string v45_1.Key, Value.string v45_1.End, Value.slice v45_1.Beyond.ptr v45_1.Beyond.len v45_1.Beyond.cap]), (48, [], Value.bool ok)] (by kernel_rfl) (by kernel_rfl) ?_
        refine reg_new (op := (Go.Op.alloc 65)) (ty := 0) (dst := some 7) (fun bb => Value.pointer (some ⟨bb, 0, none⟩)) (Obj.cells ([Value.int .u8 0, Value.int .i64 0, Value.int .i64 0, Value.string ByteArray.empty, Value.string ByteArray.empty, Value.bool false, Value.string ByteArray.empty, Value.string ByteArray.empty, Value.slice none 0 0]).toArray ty_api_Req (0, 0)) (by kernel_rfl) (by kernel_rfl) (fun b_1 w7 hb hw => ?_)
        replace h := h b_1 w7 hb hw
        clear hb hw
        refine reg_run [.plain] 8 [(2, [], Value.pointer l_), (6, [], Value.int .i64 s), (7, [], Value.pointer (some ⟨b_1, 0, none⟩)), (47, [], Value.agg #[Value.int .u8 v45_1.Kind, Value.int .i64 v45_1.From, Value.int .i64 v45_1.Number, Value.string v45_1.Write.Key, Value.string v45_1.Write.Val, Value.bool v45_1.Write.Drop, Value.string v45_1.Key, Value.string v45_1.End, Value.slice v45_1.Beyond.ptr v45_1.Beyond.len v45_1.Beyond.cap]), (48, [], Value.bool ok)] (by kernel_rfl) (by kernel_rfl) ?_
        obtain ⟨hc, h⟩ := h
        refine reg_store (t := 65) (a := (Go.Operand.tmp 7)) (x := (Go.Operand.tmp 47)) (b := b_1) (o := 0) (ty := 0) (dst := none) [Value.int .u8 v45_1.Kind, Value.int .i64 v45_1.From, Value.int .i64 v45_1.Number, Value.string v45_1.Write.Key, Value.string v45_1.Write.Val, Value.bool v45_1.Write.Drop, Value.string v45_1.Key, Value.string v45_1.End, Value.slice v45_1.Beyond.ptr v45_1.Beyond.len v45_1.Beyond.cap] (by kernel_rfl) (by kernel_rfl) (by kernel_rfl) (k := 9) (by kernel_rfl) (by kernel_rfl) (by kernel_rfl) hc (fun w8 hw => ?_)
        replace h := h w8 hw
        clear hw
        refine reg_run [.plain] 10 [(2, [], Value.pointer l_), (6, [], Value.int .i64 s), (7, [], Value.pointer (some ⟨b_1, 0, none⟩)), (8, [], Value.bool ok)] (by kernel_rfl) (by kernel_rfl) ?_
        refine reg_end [(2, Value.pointer l_), (6, Value.int .i64 s), (7, Value.pointer (some ⟨b_1, 0, none⟩)), (8, Value.bool ok)] (by kernel_rfl) (by kernel_rfl) ?_
        change WpE _ _ c_towpathlaw14_alive_25 _ _ _
        refine wpE_seq (x := c_towpathlaw14_alive_26) (y := c_towpathlaw14_alive_28) (by kernel_rfl) ?_
        refine wpE_region (id := 7) (ops := r_towpathlaw14_alive_26) (by kernel_rfl) ?_
        refine reg_run [.plain] 1 [(2, [], Value.pointer l_), (6, [], Value.int .i64 s), (7, [], Value.pointer (some ⟨b_1, 0, none⟩)), (8, [], Value.bool ok), (50, [], Value.pointer l_)] (by kernel_rfl) (by kernel_rfl) ?_
        refine reg_enter (op := (Go.Op.call (Go.Call.mk (Go.Callee.value (Go.Operand.func 31)) #[(Go.Operand.tmp 50)] #[38]))) (ty := 68) (dst := some 51) 31 #[Value.pointer l_] (by kernel_rfl) (fun ww => by kernel_rfl) (Calls.mono h ?_)
        rintro _ w9 ⟨v51, g, rfl, h⟩
        refine ⟨_, rfl, ?_⟩
        refine reg_run [.plain, .plain, .plain, .plain, .plain] 7 [(2, [], Value.pointer l_), (6, [], Value.int .i64 s), (7, [], Value.pointer (some ⟨b_1, 0, none⟩)), (8, [], Value.bool ok), (10, [], Value.int .i64 g)] (by kernel_rfl) (by kernel_rfl) ?_
        refine reg_end [(2, Value.pointer l_), (6, Value.int .i64 s), (7, Value.pointer (some ⟨b_1, 0, none⟩)), (8, Value.bool ok), (10, Value.int .i64 g)] (by kernel_rfl) (by kernel_rfl) ?_
        change WpE _ _ c_towpathlaw14_alive_28 _ _ _
        refine wpE_seq (x := c_towpathlaw14_alive_29) (y := c_towpathlaw14_alive_31) (by kernel_rfl) ?_
        refine wpE_region (id := 8) (ops := r_towpathlaw14_alive_29) (by kernel_rfl) ?_
        refine reg_run [.plain, .plain, .plain, .plain, .pick, .plain, .plain] 7 [(2, [], Value.pointer l_), (7, [], Value.pointer (some ⟨b_1, 0, none⟩)), (10, [], Value.int .i64 g), (59, [], Value.bool (ok && (s == 0))), (60, [(59, true)], Value.pointer (some ⟨b_1, 3, none⟩))] (by kernel_rfl) (by kernel_rfl) ?_
        refine reg_split 59 (ok && (s == 0)) (by kernel_rfl) (fun hb => ?_) (fun hb => ?_)
        · replace h := h.1 hb
          refine reg_run [] 7 [(2, [], Value.pointer l_), (7, [], Value.pointer (some ⟨b_1, 0, none⟩)), (10, [], Value.int .i64 g), (59, [], Value.bool true), (60, [], Value.pointer (some ⟨b_1, 3, none⟩))] (by kernel_rfl) (by kernel_rfl) ?_
          refine reg_run [] 7 [(2, [], Value.pointer l_), (7, [], Value.pointer (some ⟨b_1, 0, none⟩)), (10, [], Value.int .i64 g), (59, [], Value.bool true), (60, [], Value.pointer (some ⟨b_1, 3, none⟩))] (by kernel_rfl) (by kernel_rfl) ?_
          obtain ⟨v61, hc, h⟩ := h
          refine reg_loadN (t := 61) (a := (Go.Operand.tmp 60)) (b := b_1) (o := 3) (ty := 61) (dst := some 61) [Value.string v61.Key, Value.string v61.Val, Value.bool v61.Drop] (by kernel_rfl) (by kernel_rfl) (by kernel_rfl) (k := 3) (by kernel_rfl) (by kernel_rfl) hc ?_
          refine reg_run [.sure] 9 [(2, [], Value.pointer l_), (7, [], Value.pointer (some ⟨b_1, 0, none⟩)), (10, [], Value.int .i64 g), (59, [], Value.bool true), (61, [], Value.agg #[Value.string v61.Key, Value.string v61.Val, Value.bool v61.Drop]), (62, [], Value.agg #[Value.string (ByteArray.mk #[98]), Value.string (ByteArray.mk #[50]), Value.bool false])] (by kernel_rfl) (by kernel_rfl) ?_
          refine reg_val (op := (Go.Op.binOp Go.BinOp.eql 61 (Go.Operand.tmp 61) (Go.Operand.tmp 62) 61)) (ty := 4) (dst := some 63) (Value.bool (((v61.Key == (ByteArray.mk #[98])) && (v61.Val == (ByteArray.mk #[50]))) && (v61.Drop == false))) (by kernel_rfl) (fun ww => run_struct_eql (xs := [Value.string v61.Key, Value.string v61.Val, Value.bool v61.Drop]) (ys := [Value.string (ByteArray.mk #[98]), Value.string (ByteArray.mk #[50]), Value.bool false]) (by kernel_rfl) (by kernel_rfl) (by kernel_rfl) (by kernel_rfl) (by kernel_rfl) ww) ?_
          refine reg_run [.plain, .plain, .plain] 13 [(2, [], Value.pointer l_), (7, [], Value.pointer (some ⟨b_1, 0, none⟩)), (10, [], Value.int .i64 g), (65, [], Value.bool (((v61.Key == (ByteArray.mk #[98])) && (v61.Val == (ByteArray.mk #[50]))) && (v61.Drop == false))), (66, [(65, true)], Value.pointer (some ⟨b_1, 1, none⟩))] (by kernel_rfl) (by kernel_rfl) ?_
          refine reg_split 65 (((v61.Key == (ByteArray.mk #[98])) && (v61.Val == (ByteArray.mk #[50]))) && (v61.Drop == false)) (by kernel_rfl) (fun hb => ?_) (fun hb => ?_)
          · replace h := h.1 hb
            refine reg_run [] 13 [(2, [], Value.pointer l_), (7, [], Value.pointer (some ⟨b_1, 0, none⟩)), (10, [], Value.int .i64 g), (65, [], Value.bool true), (66, [], Value.pointer (some ⟨b_1, 1, none⟩))] (by kernel_rfl) (by kernel_rfl) ?_
            refine reg_run [] 13 [(2, [], Value.pointer l_), (7, [], Value.pointer (some ⟨b_1, 0, none⟩)), (10, [], Value.int .i64 g), (65, [], Value.bool true), (66, [], Value.pointer (some ⟨b_1, 1, none⟩))] (by kernel_rfl) (by kernel_rfl) ?_
            obtain ⟨v67, hc, h⟩ := h
            refine reg_load1 (t := 3) (a := (Go.Operand.tmp 66)) (b := b_1) (o := 1) (ty := 3) (dst := some 67) (by kernel_rfl) (by kernel_rfl) (by kernel_rfl) hc ?_
            refine reg_run [.sure, .plain, .plain, .plain] 18 [(2, [], Value.pointer l_), (10, [], Value.int .i64 g), (70, [], Value.bool (v67 == 1)), (71, [(70, true)], Value.pointer (some ⟨b_1, 2, none⟩))] (by kernel_rfl) (by kernel_rfl) ?_
            refine reg_split 70 (v67 == 1) (by kernel_rfl) (fun hb => ?_) (fun hb => ?_)
            · replace h := h.1 hb
              refine reg_run [] 18 [(2, [], Value.pointer l_), (10, [], Value.int .i64 g), (70, [], Value.bool true), (71, [], Value.pointer (some ⟨b_1, 2, none⟩))] (by kernel_rfl) (by kernel_rfl) ?_
              refine reg_run [] 18 [(2, [], Value.pointer l_), (10, [], Value.int .i64 g), (70, [], Value.bool true), (71, [], Value.pointer (some ⟨b_1, 2, none⟩))] (by kernel_rfl) (by kernel_rfl) ?_
              obtain ⟨v72, hc, h⟩ := h
              refine reg_load1 (t := 3) (a := (Go.Operand.tmp 71)) (b := b_1) (o := 2) (ty := 3) (dst := some 72) (by kernel_rfl) (by kernel_rfl) (by kernel_rfl) hc ?_
              refine reg_run [.sure, .plain, .plain, .plain] 23 [(10, [], Value.int .i64 g), (75, [], Value.bool (v72 == 4)), (76, [(75, true)], Value.pointer l_)] (by kernel_rfl) (by kernel_rfl) ?_
              refine reg_split 75 (v72 == 4) (by kernel_rfl) (fun hb => ?_) (fun hb => ?_)
              · replace h := h.1 hb
                refine reg_run [] 23 [(10, [], Value.int .i64 g), (75, [], Value.bool true), (76, [], Value.pointer l_)] (by kernel_rfl) (by kernel_rfl) ?_
                refine reg_run [] 23 [(10, [], Value.int .i64 g), (75, [], Value.bool true), (76, [], Value.pointer l_)] (by kernel_rfl) (by kernel_rfl) ?_
                refine reg_enter (op := (Go.Op.call (Go.Call.mk (Go.Callee.value (Go.Operand.func 25)) #[(Go.Operand.tmp 76)] #[38]))) (ty := 3) (dst := some 77) 25 #[Value.pointer l_] (by kernel_rfl) (fun ww => by kernel_rfl) (Calls.mono h ?_)
                rintro _ w10 ⟨v77, rfl, h⟩
                refine ⟨_, rfl, ?_⟩
                refine reg_run [.sure, .plain, .plain, .plain, .plain, .pick, .plain] 31 [(0, [], Value.bool ((v77 == 4) && (g == 10)))] (by kernel_rfl) (by kernel_rfl) ?_
                refine reg_end [(0, Value.bool ((v77 == 4) && (g == 10)))] (by kernel_rfl) (by kernel_rfl) ?_
                change WpE _ _ c_towpathlaw14_alive_31 _ _ _
                refine wpE_ret (by kernel_rfl) ?_
                repeat (first | refine seqQ_ret ?_ | refine blockQ_ret ?_ | refine loopQ_ret ?_ | refine cutQ_ret ?_)
                exact retS (rs := [(Go.ResultVar.tmp 0)]) (v := Value.bool ((v77 == 4) && (g == 10))) (by kernel_rfl) (⟨by kernel_rfl, trivial⟩) ⟨((v77 == 4) && (g == 10)), rfl, h⟩
              · replace h := h.2 hb
                refine reg_run [] 23 [(10, [], Value.int .i64 g), (75, [], Value.bool false), (76, [], undef)] (by kernel_rfl) (by kernel_rfl) ?_
                refine reg_run [.skip, .skip, .plain, .plain, .skip, .skip, .plain, .plain] 31 [(0, [], Value.bool false)] (by kernel_rfl) (by kernel_rfl) ?_
                refine reg_end [(0, Value.bool false)] (by kernel_rfl) (by kernel_rfl) ?_
                change WpE _ _ c_towpathlaw14_alive_31 _ _ _
                refine wpE_ret (by kernel_rfl) ?_
                repeat (first | refine seqQ_ret ?_ | refine blockQ_ret ?_ | refine loopQ_ret ?_ | refine cutQ_ret ?_)
                exact retS (rs := [(Go.ResultVar.tmp 0)]) (v := Value.bool false) (by kernel_rfl) (⟨by kernel_rfl, trivial⟩) ⟨false, rfl, h⟩
            · replace h := h.2 hb
              refine reg_run [] 18 [(2, [], Value.pointer l_), (10, [], Value.int .i64 g), (70, [], Value.bool false), (71, [], undef)] (by kernel_rfl) (by kernel_rfl) ?_
              refine reg_run [.skip, .skip, .plain, .plain, .skip, .skip, .skip, .plain, .plain, .skip, .skip, .plain, .plain] 31 [(0, [], Value.bool false)] (by kernel_rfl) (by kernel_rfl) ?_
              refine reg_end [(0, Value.bool false)] (by kernel_rfl) (by kernel_rfl) ?_
              change WpE _ _ c_towpathlaw14_alive_31 _ _ _
              refine wpE_ret (by kernel_rfl) ?_
              repeat (first | refine seqQ_ret ?_ | refine blockQ_ret ?_ | refine loopQ_ret ?_ | refine cutQ_ret ?_)
              exact retS (rs := [(Go.ResultVar.tmp 0)]) (v := Value.bool false) (by kernel_rfl) (⟨by kernel_rfl, trivial⟩) ⟨false, rfl, h⟩
          · replace h := h.2 hb
            refine reg_run [] 13 [(2, [], Value.pointer l_), (7, [], Value.pointer (some ⟨b_1, 0, none⟩)), (10, [], Value.int .i64 g), (65, [], Value.bool false), (66, [], undef)] (by kernel_rfl) (by kernel_rfl) ?_
            refine reg_run [.skip, .skip, .plain, .plain, .skip, .skip, .skip, .plain, .plain, .skip, .skip, .skip, .plain, .plain, .skip, .skip, .plain, .plain] 31 [(0, [], Value.bool false)] (by kernel_rfl) (by kernel_rfl) ?_
            refine reg_end [(0, Value.bool false)] (by kernel_rfl) (by kernel_rfl) ?_
            change WpE _ _ c_towpathlaw14_alive_31 _ _ _
            refine wpE_ret (by kernel_rfl) ?_
            repeat (first | refine seqQ_ret ?_ | refine blockQ_ret ?_ | refine loopQ_ret ?_ | refine cutQ_ret ?_)
            exact retS (rs := [(Go.ResultVar.tmp 0)]) (v := Value.bool false) (by kernel_rfl) (⟨by kernel_rfl, trivial⟩) ⟨false, rfl, h⟩
        · replace h := h.2 hb
          refine reg_run [] 7 [(2, [], Value.pointer l_), (7, [], Value.pointer (some ⟨b_1, 0, none⟩)), (10, [], Value.int .i64 g), (59, [], Value.bool false), (60, [], undef)] (by kernel_rfl) (by kernel_rfl) ?_
          refine reg_run [.skip, .skip, .skip, .plain, .plain, .skip, .skip, .skip, .plain, .plain, .skip, .skip, .skip, .plain, .plain, .skip, .skip, .skip, .plain, .plain, .skip, .skip, .plain, .plain] 31 [(0, [], Value.bool false)] (by kernel_rfl) (by kernel_rfl) ?_
          refine reg_end [(0, Value.bool false)] (by kernel_rfl) (by kernel_rfl) ?_
          change WpE _ _ c_towpathlaw14_alive_31 _ _ _
          refine wpE_ret (by kernel_rfl) ?_
          repeat (first | refine seqQ_ret ?_ | refine blockQ_ret ?_ | refine loopQ_ret ?_ | refine cutQ_ret ?_)
          exact retS (rs := [(Go.ResultVar.tmp 0)]) (v := Value.bool false) (by kernel_rfl) (⟨by kernel_rfl, trivial⟩) ⟨false, rfl, h⟩
  · rintro e w' ⟨v, rfl, r0, rfl, h⟩; exact ⟨r0, rfl, h⟩
end Go.Proofs.Ytfmkemmgakdddaa
