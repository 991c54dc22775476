/- WRITTEN BY PROGRAM (dec.py): for each Go function the clean formula F, the call's contract C, and the proof S that F gives C. -/
import Derived.Test.YtcgfmkpddhhmgaaRows
import Derived.Test.YtcgfmkpddhhmgaaGF
namespace Go.Proofs.Ytcgfmkpddhhmgaa
open Go
set_option linter.unusedVariables false

/-! ### towpath/towpathlaw08.alive (function 7) -/
noncomputable def c_towpathlaw08_alive_0 : Code := (Try.f7.body).getD Code.skip
noncomputable def c_towpathlaw08_alive_1 : Code := Code.l c_towpathlaw08_alive_0
noncomputable def r_towpathlaw08_alive_1 : Array Oper := Code.ops c_towpathlaw08_alive_1
noncomputable def c_towpathlaw08_alive_3 : Code := Code.r c_towpathlaw08_alive_0
noncomputable def c_towpathlaw08_alive_4 : Code := Code.l c_towpathlaw08_alive_3
noncomputable def r_towpathlaw08_alive_4 : Array Oper := Code.ops c_towpathlaw08_alive_4
noncomputable def c_towpathlaw08_alive_6 : Code := Code.r c_towpathlaw08_alive_3
noncomputable def c_towpathlaw08_alive_7 : Code := Code.l c_towpathlaw08_alive_6
noncomputable def r_towpathlaw08_alive_7 : Array Oper := Code.ops c_towpathlaw08_alive_7
noncomputable def c_towpathlaw08_alive_9 : Code := Code.r c_towpathlaw08_alive_6
noncomputable def c_towpathlaw08_alive_10 : Code := Code.l c_towpathlaw08_alive_9
noncomputable def r_towpathlaw08_alive_10 : Array Oper := Code.ops c_towpathlaw08_alive_10
noncomputable def c_towpathlaw08_alive_12 : Code := Code.r c_towpathlaw08_alive_9
noncomputable def c_towpathlaw08_alive_13 : Code := Code.l c_towpathlaw08_alive_12
noncomputable def r_towpathlaw08_alive_13 : Array Oper := Code.ops c_towpathlaw08_alive_13
noncomputable def c_towpathlaw08_alive_15 : Code := Code.r c_towpathlaw08_alive_12
noncomputable def c_towpathlaw08_alive_16 : Code := Code.l c_towpathlaw08_alive_15
noncomputable def r_towpathlaw08_alive_16 : Array Oper := Code.ops c_towpathlaw08_alive_16
noncomputable def c_towpathlaw08_alive_18 : Code := Code.r c_towpathlaw08_alive_15

set_option maxRecDepth 100000 in
set_option maxHeartbeats 4000000 in
theorem S_towpathlaw08_alive {w : World} {R : Bool → World → Prop} (h : F_towpathlaw08_alive R w) : C_towpathlaw08_alive w R := by
  unfold F_towpathlaw08_alive at h
  unfold C_towpathlaw08_alive
  refine Calls.mono (calls_of_wpE (args := []) (R := fun v w' => ∃ (r0 : Bool), v = Value.bool r0 ∧ R r0 w') Try.func7 (c := c_towpathlaw08_alive_0) (by kernel_rfl) 95 (by kernel_rfl) (by kernel_rfl) [] (by kernel_rfl) ?_) ?_
  · refine wpE_seq (x := c_towpathlaw08_alive_1) (y := c_towpathlaw08_alive_3) (by kernel_rfl) ?_
    refine wpE_region (id := 0) (ops := r_towpathlaw08_alive_1) (by kernel_rfl) ?_
    refine reg_run [.plain] 1 [] (by kernel_rfl) (by kernel_rfl) ?_
    refine reg_end [] (by kernel_rfl) (by kernel_rfl) ?_
    change WpE _ _ c_towpathlaw08_alive_3 _ _ _
    refine wpE_seq (x := c_towpathlaw08_alive_4) (y := c_towpathlaw08_alive_6) (by kernel_rfl) ?_
    refine wpE_region (id := 1) (ops := r_towpathlaw08_alive_4) (by kernel_rfl) ?_
    refine reg_run [] 0 [] (by kernel_rfl) (by kernel_rfl) ?_
    refine reg_enter (op := (Go.Op.call (Go.Call.mk (Go.Callee.value (Go.Operand.func 16)) #[] #[]))) (ty := 22) (dst := some 14) 16 #[] (by kernel_rfl) (fun ww => by kernel_rfl) (Calls.mono h ?_)
    rintro _ w1 ⟨v14, rfl, h⟩
    refine ⟨_, rfl, ?_⟩
    refine reg_run [.plain] 2 [(14, [], Value.slice v14.ptr v14.len v14.cap), (15, [], Value.agg #[Value.int .i64 5, Value.string (ByteArray.mk #[122]), Value.bool false])] (by kernel_rfl) (by kernel_rfl) ?_
    refine reg_enter (op := (Go.Op.call (Go.Call.mk (Go.Callee.value (Go.Operand.func 10)) #[(Go.Operand.tmp 14), (Go.Operand.tmp 15)] #[22, 30]))) (ty := 27) (dst := some 16) 10 #[Value.slice v14.ptr v14.len v14.cap, Value.agg #[Value.int .i64 5, Value.string (ByteArray.mk #[122]), Value.bool false]] (by kernel_rfl) (fun ww => by kernel_rfl) (Calls.mono h ?_)
    rintro _ w2 ⟨l_, ok, e, rfl, h⟩
    refine ⟨_, rfl, ?_⟩
    refine reg_run [.plain, .plain, .plain, .plain, .plain, .plain, .plain] 10 [(1, [], Value.slice l_.ptr l_.len l_.cap), (2, [], Value.bool ok), (3, [], Value.int .i64 e)] (by kernel_rfl) (by kernel_rfl) ?_
    refine reg_end [(1, Value.slice l_.ptr l_.len l_.cap), (2, Value.bool ok), (3, Value.int .i64 e)] (by kernel_rfl) (by kernel_rfl) ?_
    change WpE _ _ c_towpathlaw08_alive_6 _ _ _
    refine wpE_seq (x := c_towpathlaw08_alive_7) (y := c_towpathlaw08_alive_9) (by kernel_rfl) ?_
    refine wpE_region (id := 2) (ops := r_towpathlaw08_alive_7) (by kernel_rfl) ?_
    refine reg_run [] 0 [(1, [], Value.slice l_.ptr l_.len l_.cap), (2, [], Value.bool ok), (3, [], Value.int .i64 e)] (by kernel_rfl) (by kernel_rfl) ?_
    refine reg_enter (op := (Go.Op.call (Go.Call.mk (Go.Callee.value (Go.Operand.func 16)) #[] #[]))) (ty := 22) (dst := some 21) 16 #[] (by kernel_rfl) (fun ww => by kernel_rfl) (Calls.mono h ?_)
    rintro _ w3 ⟨v21, rfl, h⟩
    refine ⟨_, rfl, ?_⟩
    refine reg_run [.plain] 2 [(1, [], Value.slice l_.ptr l_.len l_.cap), (2, [], Value.bool ok), (3, [], Value.int .i64 e), (21, [], Value.slice v21.ptr v21.len v21.cap), (22, [], Value.agg #[Value.int .i64 4, Value.string (ByteArray.mk #[122]), Value.bool false])] (by kernel_rfl) (by kernel_rfl) ?_
    refine reg_enter (op := (Go.Op.call (Go.Call.mk (Go.Callee.value (Go.Operand.func 10)) #[(Go.Operand.tmp 21), (Go.Operand.tmp 22)] #[22, 30]))) (ty := 27) (dst := some 23) 10 #[Value.slice v21.ptr v21.len v21.cap, Value.agg #[Value.int .i64 4, Value.string (ByteArray.mk #[122]), Value.bool false]] (by kernel_rfl) (fun ww => by kernel_rfl) (Calls.mono h ?_)
    rintro _ w4 ⟨v23, no, f, rfl, h⟩
    refine ⟨_, rfl, ?_⟩
    refine reg_run [.plain, .plain, .plain, .plain, .plain, .plain, .plain] 10 [(1, [], Value.slice l_.ptr l_.len l_.cap), (2, [], Value.bool ok), (3, [], Value.int .i64 e), (5, [], Value.bool no), (6, [], Value.int .i64 f)] (by kernel_rfl) (by kernel_rfl) ?_
    refine reg_end [(1, Value.slice l_.ptr l_.len l_.cap), (2, Value.bool ok), (3, Value.int .i64 e), (5, Value.bool no), (6, Value.int .i64 f)] (by kernel_rfl) (by kernel_rfl) ?_
    change WpE _ _ c_towpathlaw08_alive_9 _ _ _
    refine wpE_seq (x := c_towpathlaw08_alive_10) (y := c_towpathlaw08_alive_12) (by kernel_rfl) ?_
    refine wpE_region (id := 3) (ops := r_towpathlaw08_alive_10) (by kernel_rfl) ?_
    refine reg_run [] 0 [(1, [], Value.slice l_.ptr l_.len l_.cap), (2, [], Value.bool ok), (3, [], Value.int .i64 e), (5, [], Value.bool no), (6, [], Value.int .i64 f)] (by kernel_rfl) (by kernel_rfl) ?_
    refine reg_enter (op := (Go.Op.call (Go.Call.mk (Go.Callee.value (Go.Operand.func 16)) #[] #[]))) (ty := 22) (dst := some 28) 16 #[] (by kernel_rfl) (fun ww => by kernel_rfl) (Calls.mono h ?_)
    rintro _ w5 ⟨v28, rfl, h⟩
    refine ⟨_, rfl, ?_⟩
    refine reg_run [] 1 [(1, [], Value.slice l_.ptr l_.len l_.cap), (2, [], Value.bool ok), (3, [], Value.int .i64 e), (5, [], Value.bool no), (6, [], Value.int .i64 f), (28, [], Value.slice v28.ptr v28.len v28.cap)] (by kernel_rfl) (by kernel_rfl) ?_
    refine reg_enter (op := (Go.Op.call (Go.Call.mk (Go.Callee.value (Go.Operand.func 13)) #[(Go.Operand.tmp 28), (Go.Operand.const (Go.Value.int Go.IntKind.i64 3))] #[22, 3]))) (ty := 33) (dst := some 29) 13 #[Value.slice v28.ptr v28.len v28.cap, Value.int .i64 3] (by kernel_rfl) (fun ww => by kernel_rfl) (Calls.mono h ?_)
    rintro _ w6 ⟨v29, is, g, rfl, h⟩
    refine ⟨_, rfl, ?_⟩
    refine reg_run [.plain, .plain, .plain, .plain] 6 [(1, [], Value.slice l_.ptr l_.len l_.cap), (2, [], Value.bool ok), (3, [], Value.int .i64 e), (5, [], Value.bool no), (6, [], Value.int .i64 f), (30, [], Value.agg #[Value.int .i64 v29.Number, Value.string v29.Val, Value.bool v29.Drop]), (31, [], Value.bool is), (32, [], Value.int .i64 g)] (by kernel_rfl) (by kernel_rfl) ?_
    refine reg_new (op := (Go.Op.alloc 30)) (ty := 0) (dst := some 7) (fun bb => Value.pointer (some ⟨bb, 0, none⟩)) (Obj.cells ([Value.int .i64 0, Value.string ByteArray.empty, Value.bool false]).toArray ty_api_Version (0, 0)) (by kernel_rfl) (by kernel_rfl) (fun b_ w7 hb hw => ?_)
    replace h := h b_ w7 hb hw
    clear hb hw
    refine reg_run [] 7 [(1, [], Value.slice l_.ptr l_.len l_.cap), (2, [], Value.bool ok), (3, [], Value.int .i64 e), (5, [], Value.bool no), (6, [], Value.int .i64 f), (7, [], Value.pointer (some ⟨b_, 0, none⟩)), (30, [], Value.agg #[Value.int .i64 v29.Number, Value.string v29.Val, Value.bool v29.Drop]), (31, [], Value.bool is), (32, [], Value.int .i64 g)] (by kernel_rfl) (by kernel_rfl) ?_
    obtain ⟨hc, h⟩ := h
    refine reg_store (t := 30) (a := (Go.Operand.tmp 7)) (x := (Go.Operand.tmp 30)) (b := b_) (o := 0) (ty := 0) (dst := none) [Value.int .i64 v29.Number, Value.string v29.Val, Value.bool v29.Drop] (by kernel_rfl) (by kernel_rfl) (by kernel_rfl) (k := 3) (by kernel_rfl) (by kernel_rfl) (by kernel_rfl) hc (fun w8 hw => ?_)
    replace h := h w8 hw
    clear hw
    refine reg_run [.plain, .plain] 10 [(1, [], Value.slice l_.ptr l_.len l_.cap), (2, [], Value.bool ok), (3, [], Value.int .i64 e), (5, [], Value.bool no), (6, [], Value.int .i64 f), (7, [], Value.pointer (some ⟨b_, 0, none⟩)), (8, [], Value.bool is), (9, [], Value.int .i64 g)] (by kernel_rfl) (by kernel_rfl) ?_
    refine reg_end [(1, Value.slice l_.ptr l_.len l_.cap), (2, Value.bool ok), (3, Value.int .i64 e), (5, Value.bool no), (6, Value.int .i64 f), (7, Value.pointer (some ⟨b_, 0, none⟩)), (8, Value.bool is), (9, Value.int .i64 g)] (by kernel_rfl) (by kernel_rfl) ?_
    change WpE _ _ c_towpathlaw08_alive_12 _ _ _
    refine wpE_seq (x := c_towpathlaw08_alive_13) (y := c_towpathlaw08_alive_15) (by kernel_rfl) ?_
    refine wpE_region (id := 4) (ops := r_towpathlaw08_alive_13) (by kernel_rfl) ?_
    refine reg_run [] 0 [(1, [], Value.slice l_.ptr l_.len l_.cap), (2, [], Value.bool ok), (3, [], Value.int .i64 e), (5, [], Value.bool no), (6, [], Value.int .i64 f), (7, [], Value.pointer (some ⟨b_, 0, none⟩)), (8, [], Value.bool is), (9, [], Value.int .i64 g)] (by kernel_rfl) (by kernel_rfl) ?_
    refine reg_enter (op := (Go.Op.call (Go.Call.mk (Go.Callee.value (Go.Operand.func 16)) #[] #[]))) (ty := 22) (dst := some 34) 16 #[] (by kernel_rfl) (fun ww => by kernel_rfl) (Calls.mono h ?_)
    rintro _ w9 ⟨v34, rfl, h⟩
    refine ⟨_, rfl, ?_⟩
    refine reg_run [] 1 [(1, [], Value.slice l_.ptr l_.len l_.cap), (2, [], Value.bool ok), (3, [], Value.int .i64 e), (5, [], Value.bool no), (6, [], Value.int .i64 f), (7, [], Value.pointer (some ⟨b_, 0, none⟩)), (8, [], Value.bool is), (9, [], Value.int .i64 g), (34, [], Value.slice v34.ptr v34.len v34.cap)] (by kernel_rfl) (by kernel_rfl) ?_
    refine reg_enter (op := (Go.Op.call (Go.Call.mk (Go.Callee.value (Go.Operand.func 14)) #[(Go.Operand.tmp 34), (Go.Operand.const (Go.Value.int Go.IntKind.i64 9))] #[22, 3]))) (ty := 37) (dst := some 35) 14 #[Value.slice v34.ptr v34.len v34.cap, Value.int .i64 9] (by kernel_rfl) (fun ww => by kernel_rfl) (Calls.mono h ?_)
    rintro _ w10 ⟨x, n_, h_, rfl, h⟩
    refine ⟨_, rfl, ?_⟩
    refine reg_run [.plain, .plain, .plain, .plain, .plain, .plain, .plain] 9 [(1, [], Value.slice l_.ptr l_.len l_.cap), (2, [], Value.bool ok), (3, [], Value.int .i64 e), (5, [], Value.bool no), (6, [], Value.int .i64 f), (7, [], Value.pointer (some ⟨b_, 0, none⟩)), (8, [], Value.bool is), (9, [], Value.int .i64 g), (10, [], Value.slice x.ptr x.len x.cap), (11, [], Value.int .i64 n_), (12, [], Value.int .i64 h_)] (by kernel_rfl) (by kernel_rfl) ?_
    refine reg_end [(1, Value.slice l_.ptr l_.len l_.cap), (2, Value.bool ok), (3, Value.int .i64 e), (5, Value.bool no), (6, Value.int .i64 f), (7, Value.pointer (some ⟨b_, 0, none⟩)), (8, Value.bool is), (9, Value.int .i64 g), (10, Value.slice x.ptr x.len x.cap), (11, Value.int .i64 n_), (12, Value.int .i64 h_)] (by kernel_rfl) (by kernel_rfl) ?_
    change WpE _ _ c_towpathlaw08_alive_15 _ _ _
    refine wpE_seq (x := c_towpathlaw08_alive_16) (y := c_towpathlaw08_alive_18) (by kernel_rfl) ?_
    refine wpE_region (id := 5) (ops := r_towpathlaw08_alive_16) (by kernel_rfl) ?_
    refine reg_run [.plain, .plain, .plain, .plain, .pick, .plain, .plain, .pick, .plain, .plain, .plain, .pick, .plain, .plain, .plain, .pick, .plain, .plain, .plain, .pick, .plain, .plain, .plain, .pick, .plain, .plain, .plain, .plain, .pick, .plain, .plain] 31 [(7, [], Value.pointer (some ⟨b_, 0, none⟩)), (10, [], Value.slice x.ptr x.len x.cap), (11, [], Value.int .i64 n_), (68, [], Value.bool (((((((ok && (!no)) && is) && (e == 0)) && (f == 0)) && (g == 0)) && (h_ == 0)) && (((l_.len : Nat) : Int) == 4))), (69, [(68, true)], Value.slice l_.ptr l_.len l_.cap)] (by kernel_rfl) (by kernel_rfl) ?_
    refine reg_split 68 (((((((ok && (!no)) && is) && (e == 0)) && (f == 0)) && (g == 0)) && (h_ == 0)) && (((l_.len : Nat) : Int) == 4)) (by kernel_rfl) (fun hb => ?_) (fun hb => ?_)
    · replace h := h.1 hb
      refine reg_run [] 31 [(7, [], Value.pointer (some ⟨b_, 0, none⟩)), (10, [], Value.slice x.ptr x.len x.cap), (11, [], Value.int .i64 n_), (68, [], Value.bool true), (69, [], Value.slice l_.ptr l_.len l_.cap)] (by kernel_rfl) (by kernel_rfl) ?_
      refine reg_run [] 31 [(7, [], Value.pointer (some ⟨b_, 0, none⟩)), (10, [], Value.slice x.ptr x.len x.cap), (11, [], Value.int .i64 n_), (68, [], Value.bool true), (69, [], Value.slice l_.ptr l_.len l_.cap)] (by kernel_rfl) (by kernel_rfl) ?_
      obtain ⟨hp_0, h⟩ := h
      refine reg_conv [(7, [], Value.pointer (some ⟨b_, 0, none⟩)), (10, [], Value.slice x.ptr x.len x.cap), (11, [], Value.int .i64 n_), (68, [], Value.bool true), (69, [], Value.slice (some ⟨(pblk l_.ptr), (poff l_.ptr), none⟩) l_.len l_.cap)] (congrArg (fun pp => ([(7, [], Value.pointer (some ⟨b_, 0, none⟩)), (10, [], Value.slice x.ptr x.len x.cap), (11, [], Value.int .i64 n_), (68, [], Value.bool true), (69, [], Value.slice pp l_.len l_.cap)] : GEnv)) hp_0) ?_
      obtain ⟨h0, h1, h⟩ := h
      refine reg_indexS (t := 22) (e := 30) (x := (Go.Operand.tmp 69)) (ix := (Go.Operand.const (Go.Value.int Go.IntKind.i64 2))) (b := (pblk l_.ptr)) (o := (poff l_.ptr)) (l := l_.len) (c := l_.cap) (k := .i64) (j := 2) (ty := 0) (dst := some 70) (sz := 3) (by kernel_rfl) (by kernel_rfl) (by kernel_rfl) (by kernel_rfl) (by kernel_rfl) h0 h1 ?_
      refine reg_run [.sure] 33 [(7, [], Value.pointer (some ⟨b_, 0, none⟩)), (10, [], Value.slice x.ptr x.len x.cap), (11, [], Value.int .i64 n_), (68, [], Value.bool true), (71, [], Value.pointer (some ⟨(pblk l_.ptr), (poff l_.ptr) + 7, none⟩))] (by kernel_rfl) (by kernel_rfl) ?_
      obtain ⟨v72, hc, h⟩ := h
      refine reg_load1 (t := 9) (a := (Go.Operand.tmp 71)) (b := (pblk l_.ptr)) (o := ((poff l_.ptr) + 7)) (ty := 9) (dst := some 72) (by kernel_rfl) (by kernel_rfl) (by kernel_rfl) hc ?_
      refine reg_run [.sure, .plain, .plain, .plain] 38 [(10, [], Value.slice x.ptr x.len x.cap), (11, [], Value.int .i64 n_), (75, [], Value.bool (v72.toList == (ByteArray.mk #[122]).toList)), (76, [(75, true)], Value.pointer (some ⟨b_, 1, none⟩))] (by kernel_rfl) (by kernel_rfl) ?_
      refine reg_split 75 (v72.toList == (ByteArray.mk #[122]).toList) (by kernel_rfl) (fun hb => ?_) (fun hb => ?_)
      · replace h := h.1 hb
        refine reg_run [] 38 [(10, [], Value.slice x.ptr x.len x.cap), (11, [], Value.int .i64 n_), (75, [], Value.bool true), (76, [], Value.pointer (some ⟨b_, 1, none⟩))] (by kernel_rfl) (by kernel_rfl) ?_
        refine reg_run [] 38 [(10, [], Value.slice x.ptr x.len x.cap), (11, [], Value.int .i64 n_), (75, [], Value.bool true), (76, [], Value.pointer (some ⟨b_, 1, none⟩))] (by kernel_rfl) (by kernel_rfl) ?_
        obtain ⟨v77, hc, h⟩ := h
        refine reg_load1 (t := 9) (a := (Go.Operand.tmp 76)) (b := b_) (o := 1) (ty := 9) (dst := some 77) (by kernel_rfl) (by kernel_rfl) (by kernel_rfl) hc ?_
        refine reg_run [.sure, .plain, .plain, .plain, .plain, .pick, .plain, .plain, .plain, .plain, .pick, .plain, .plain] 52 [(89, [], Value.bool (((v77.toList == (ByteArray.mk #[120]).toList) && (n_ == 2)) && (((x.len : Nat) : Int) == 1))), (90, [(89, true)], Value.agg #[Value.int .i64 0, Value.string ByteArray.empty, Value.bool false])] (by kernel_rfl) (by kernel_rfl) ?_
        refine reg_split 89 (((v77.toList == (ByteArray.mk #[120]).toList) && (n_ == 2)) && (((x.len : Nat) : Int) == 1)) (by kernel_rfl) (fun hb => ?_) (fun hb => ?_)
        · replace h := h.1 hb
          refine reg_run [] 52 [(89, [], Value.bool true), (90, [], Value.agg #[Value.int .i64 0, Value.string ByteArray.empty, Value.bool false])] (by kernel_rfl) (by kernel_rfl) ?_
          refine reg_run [] 52 [(89, [], Value.bool true), (90, [], Value.agg #[Value.int .i64 0, Value.string ByteArray.empty, Value.bool false])] (by kernel_rfl) (by kernel_rfl) ?_
          refine reg_new (op := (Go.Op.buildSlice 22 1 #[(0, (Go.Operand.tmp 90))])) (ty := 22) (dst := some 91) (fun bb => Value.slice (some ⟨bb, 0, none⟩) 1 1) (Obj.cells ([Value.int .i64 0, Value.string ByteArray.empty, Value.bool false]).toArray ty_api_Version (0, 0)) (by kernel_rfl) (by kernel_rfl) (fun b_1 w11 hb hw => ?_)
          replace h := h b_1 w11 hb hw
          clear hb hw
          refine reg_run [] 53 [(89, [], Value.bool true), (91, [], Value.slice (some ⟨b_1, 0, none⟩) 1 1)] (by kernel_rfl) (by kernel_rfl) ?_
          refine reg_enter (op := (Go.Op.call (Go.Call.mk (Go.Callee.value (Go.Operand.func 11)) #[(Go.Operand.tmp 91)] #[22]))) (ty := 26) (dst := some 92) 11 #[Value.slice (some ⟨b_1, 0, none⟩) 1 1] (by kernel_rfl) (fun ww => by kernel_rfl) (Calls.mono h ?_)
          rintro _ w12 ⟨v92, rfl, h⟩
          refine ⟨_, rfl, ?_⟩
          refine reg_run [.sure, .plain, .plain] 57 [(0, [], Value.bool (v92 == 1))] (by kernel_rfl) (by kernel_rfl) ?_
          refine reg_end [(0, Value.bool (v92 == 1))] (by kernel_rfl) (by kernel_rfl) ?_
          change WpE _ _ c_towpathlaw08_alive_18 _ _ _
          refine wpE_ret (by kernel_rfl) ?_
          repeat (first | refine seqQ_ret ?_ | refine blockQ_ret ?_ | refine loopQ_ret ?_ | refine cutQ_ret ?_)
          exact retS (rs := [(Go.ResultVar.tmp 0)]) (v := Value.bool (v92 == 1)) (by kernel_rfl) (⟨by kernel_rfl, trivial⟩) ⟨(v92 == 1), rfl, h⟩
        · replace h := h.2 hb
          refine reg_run [] 52 [(89, [], Value.bool false), (90, [], undef)] (by kernel_rfl) (by kernel_rfl) ?_
          refine reg_run [.skip, .skip, .skip, .plain, .plain] 57 [(0, [], Value.bool false)] (by kernel_rfl) (by kernel_rfl) ?_
          refine reg_end [(0, Value.bool false)] (by kernel_rfl) (by kernel_rfl) ?_
          change WpE _ _ c_towpathlaw08_alive_18 _ _ _
          refine wpE_ret (by kernel_rfl) ?_
          repeat (first | refine seqQ_ret ?_ | refine blockQ_ret ?_ | refine loopQ_ret ?_ | refine cutQ_ret ?_)
          exact retS (rs := [(Go.ResultVar.tmp 0)]) (v := Value.bool false) (by kernel_rfl) (⟨by kernel_rfl, trivial⟩) ⟨false, rfl, h⟩
      · replace h := h.2 hb
        refine reg_run [] 38 [(10, [], Value.slice x.ptr x.len x.cap), (11, [], Value.int .i64 n_), (75, [], Value.bool false), (76, [], undef)] (by kernel_rfl) (by kernel_rfl) ?_
        refine reg_run [.skip, .skip, .plain, .plain, .skip, .skip, .plain, .plain, .skip, .skip, .skip, .plain, .plain, .skip, .skip, .skip, .skip, .plain, .plain] 57 [(0, [], Value.bool false)] (by kernel_rfl) (by kernel_rfl) ?_
        refine reg_end [(0, Value.bool false)] (by kernel_rfl) (by kernel_rfl) ?_
        change WpE _ _ c_towpathlaw08_alive_18 _ _ _
        refine wpE_ret (by kernel_rfl) ?_
        repeat (first | refine seqQ_ret ?_ | refine blockQ_ret ?_ | refine loopQ_ret ?_ | refine cutQ_ret ?_)
        exact retS (rs := [(Go.ResultVar.tmp 0)]) (v := Value.bool false) (by kernel_rfl) (⟨by kernel_rfl, trivial⟩) ⟨false, rfl, h⟩
    · replace h := h.2 hb
      refine reg_run [] 31 [(7, [], Value.pointer (some ⟨b_, 0, none⟩)), (10, [], Value.slice x.ptr x.len x.cap), (11, [], Value.int .i64 n_), (68, [], Value.bool false), (69, [], undef)] (by kernel_rfl) (by kernel_rfl) ?_
      refine reg_run [.skip, .skip, .skip, .skip, .plain, .plain, .skip, .skip, .skip, .plain, .plain, .skip, .skip, .plain, .plain, .skip, .skip, .skip, .plain, .plain, .skip, .skip, .skip, .skip, .plain, .plain] 57 [(0, [], Value.bool false)] (by kernel_rfl) (by kernel_rfl) ?_
      refine reg_end [(0, Value.bool false)] (by kernel_rfl) (by kernel_rfl) ?_
      change WpE _ _ c_towpathlaw08_alive_18 _ _ _
      refine wpE_ret (by kernel_rfl) ?_
      repeat (first | refine seqQ_ret ?_ | refine blockQ_ret ?_ | refine loopQ_ret ?_ | refine cutQ_ret ?_)
      exact retS (rs := [(Go.ResultVar.tmp 0)]) (v := Value.bool false) (by kernel_rfl) (⟨by kernel_rfl, trivial⟩) ⟨false, rfl, h⟩
  · rintro e w' ⟨v, rfl, r0, rfl, h⟩; exact ⟨r0, rfl, h⟩

/-! ### towpath/towpathlaw08.list (function 16) -/
noncomputable def c_towpathlaw08_list_0 : Code := (Try.f16.body).getD Code.skip
noncomputable def c_towpathlaw08_list_1 : Code := Code.l c_towpathlaw08_list_0
noncomputable def r_towpathlaw08_list_1 : Array Oper := Code.ops c_towpathlaw08_list_1
noncomputable def c_towpathlaw08_list_3 : Code := Code.r c_towpathlaw08_list_0
noncomputable def c_towpathlaw08_list_4 : Code := Code.l c_towpathlaw08_list_3
noncomputable def r_towpathlaw08_list_4 : Array Oper := Code.ops c_towpathlaw08_list_4
noncomputable def c_towpathlaw08_list_6 : Code := Code.r c_towpathlaw08_list_3

set_option maxRecDepth 100000 in
set_option maxHeartbeats 4000000 in
theorem S_towpathlaw08_list {w : World} {R : Slc → World → Prop} (h : F_towpathlaw08_list R w) : C_towpathlaw08_list w R := by
  unfold F_towpathlaw08_list at h
  unfold C_towpathlaw08_list
  refine Calls.mono (calls_of_wpE (args := []) (R := fun v w' => ∃ (r0 : Slc), v = Value.slice r0.ptr r0.len r0.cap ∧ R r0 w') Try.func16 (c := c_towpathlaw08_list_0) (by kernel_rfl) 5 (by kernel_rfl) (by kernel_rfl) [] (by kernel_rfl) ?_) ?_
  · refine wpE_seq (x := c_towpathlaw08_list_1) (y := c_towpathlaw08_list_3) (by kernel_rfl) ?_
    refine wpE_region (id := 0) (ops := r_towpathlaw08_list_1) (by kernel_rfl) ?_
    refine reg_run [.plain] 1 [] (by kernel_rfl) (by kernel_rfl) ?_
    refine reg_end [] (by kernel_rfl) (by kernel_rfl) ?_
    change WpE _ _ c_towpathlaw08_list_3 _ _ _
    refine wpE_seq (x := c_towpathlaw08_list_4) (y := c_towpathlaw08_list_6) (by kernel_rfl) ?_
    refine wpE_region (id := 1) (ops := r_towpathlaw08_list_4) (by kernel_rfl) ?_
    refine reg_run [.plain, .plain, .plain] 3 [(1, [], Value.agg #[Value.int .i64 2, Value.string (ByteArray.mk #[120]), Value.bool false]), (2, [], Value.agg #[Value.int .i64 4, Value.string ByteArray.empty, Value.bool true]), (3, [], Value.agg #[Value.int .i64 6, Value.string (ByteArray.mk #[121]), Value.bool false])] (by kernel_rfl) (by kernel_rfl) ?_
    refine reg_new (op := (Go.Op.buildSlice 22 3 #[(0, (Go.Operand.tmp 1)), (1, (Go.Operand.tmp 2)), (2, (Go.Operand.tmp 3))])) (ty := 22) (dst := some 4) (fun bb => Value.slice (some ⟨bb, 0, none⟩) 3 3) (Obj.cells ([Value.int .i64 2, Value.string (ByteArray.mk #[120]), Value.bool false, Value.int .i64 4, Value.string ByteArray.empty, Value.bool true, Value.int .i64 6, Value.string (ByteArray.mk #[121]), Value.bool false]).toArray ty_api_Version (0, 0)) (by kernel_rfl) (by kernel_rfl) (fun b_ w1 hb hw => ?_)
    replace h := h b_ w1 hb hw
    clear hb hw
    refine reg_run [.plain] 5 [(0, [], Value.slice (some ⟨b_, 0, none⟩) 3 3)] (by kernel_rfl) (by kernel_rfl) ?_
    refine reg_end [(0, Value.slice (some ⟨b_, 0, none⟩) 3 3)] (by kernel_rfl) (by kernel_rfl) ?_
    change WpE _ _ c_towpathlaw08_list_6 _ _ _
    refine wpE_ret (by kernel_rfl) ?_
    repeat (first | refine seqQ_ret ?_ | refine blockQ_ret ?_ | refine loopQ_ret ?_ | refine cutQ_ret ?_)
    exact retS (rs := [(Go.ResultVar.tmp 0)]) (v := Value.slice (some ⟨b_, 0, none⟩) 3 3) (by kernel_rfl) (⟨by kernel_rfl, trivial⟩) ⟨(Slc.mk (some ⟨b_, 0, none⟩) 3 3), rfl, h⟩
  · rintro e w' ⟨v, rfl, r0, rfl, h⟩; exact ⟨r0, rfl, h⟩
end Go.Proofs.Ytcgfmkpddhhmgaa
