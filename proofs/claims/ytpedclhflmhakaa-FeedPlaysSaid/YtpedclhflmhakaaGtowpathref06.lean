/- WRITTEN BY PROGRAM (dec.py): for each Go function the clean formula F, the call's contract C, and the proof S that F gives C. -/
import Derived.Test.YtpedclhflmhakaaRows
import Derived.Test.YtpedclhflmhakaaGF
namespace Go.Proofs.Ytpedclhflmhakaa
open Go
set_option linter.unusedVariables false

/-! ### towpath/towpathref06.New (function 41) -/
noncomputable def c_towpathref06_New_0 : Code := (Try.f41.body).getD Code.skip
noncomputable def c_towpathref06_New_1 : Code := Code.l c_towpathref06_New_0
noncomputable def r_towpathref06_New_1 : Array Oper := Code.ops c_towpathref06_New_1
noncomputable def c_towpathref06_New_3 : Code := Code.r c_towpathref06_New_0
noncomputable def c_towpathref06_New_4 : Code := Code.l c_towpathref06_New_3
noncomputable def r_towpathref06_New_4 : Array Oper := Code.ops c_towpathref06_New_4
noncomputable def c_towpathref06_New_6 : Code := Code.r c_towpathref06_New_3
noncomputable def c_towpathref06_New_7 : Code := Code.l c_towpathref06_New_6
noncomputable def c_towpathref06_New_8 : Code := Code.l c_towpathref06_New_7
noncomputable def r_towpathref06_New_8 : Array Oper := Code.ops c_towpathref06_New_8
noncomputable def c_towpathref06_New_10 : Code := Code.r c_towpathref06_New_7
noncomputable def c_towpathref06_New_11 : Code := Code.l c_towpathref06_New_10
noncomputable def c_towpathref06_New_12 : Code := Code.l c_towpathref06_New_11
noncomputable def r_towpathref06_New_12 : Array Oper := Code.ops c_towpathref06_New_12
noncomputable def c_towpathref06_New_14 : Code := Code.r c_towpathref06_New_11
noncomputable def c_towpathref06_New_15 : Code := Code.r c_towpathref06_New_10
noncomputable def c_towpathref06_New_16 : Code := Code.r c_towpathref06_New_6
noncomputable def c_towpathref06_New_17 : Code := Code.l c_towpathref06_New_16
noncomputable def r_towpathref06_New_17 : Array Oper := Code.ops c_towpathref06_New_17
noncomputable def c_towpathref06_New_19 : Code := Code.r c_towpathref06_New_16
noncomputable def c_towpathref06_New_20 : Code := Code.l c_towpathref06_New_19
noncomputable def c_towpathref06_New_21 : Code := Code.l c_towpathref06_New_20
noncomputable def r_towpathref06_New_21 : Array Oper := Code.ops c_towpathref06_New_21
noncomputable def c_towpathref06_New_23 : Code := Code.r c_towpathref06_New_20
noncomputable def c_towpathref06_New_24 : Code := Code.l c_towpathref06_New_23
noncomputable def c_towpathref06_New_25 : Code := Code.l c_towpathref06_New_24
noncomputable def c_towpathref06_New_26 : Code := Code.l c_towpathref06_New_25
noncomputable def c_towpathref06_New_27 : Code := Code.l c_towpathref06_New_26
noncomputable def r_towpathref06_New_27 : Array Oper := Code.ops c_towpathref06_New_27
noncomputable def c_towpathref06_New_29 : Code := Code.r c_towpathref06_New_26
noncomputable def c_towpathref06_New_30 : Code := Code.l c_towpathref06_New_29
noncomputable def c_towpathref06_New_31 : Code := Code.r c_towpathref06_New_29
noncomputable def c_towpathref06_New_32 : Code := Code.r c_towpathref06_New_25
noncomputable def c_towpathref06_New_33 : Code := Code.l c_towpathref06_New_32
noncomputable def c_towpathref06_New_34 : Code := Code.l c_towpathref06_New_33
noncomputable def r_towpathref06_New_34 : Array Oper := Code.ops c_towpathref06_New_34
noncomputable def c_towpathref06_New_36 : Code := Code.r c_towpathref06_New_32
noncomputable def r_towpathref06_New_36 : Array Oper := Code.ops c_towpathref06_New_36
noncomputable def c_towpathref06_New_38 : Code := Code.r c_towpathref06_New_19
noncomputable def c_towpathref06_New_39 : Code := Code.l c_towpathref06_New_38
noncomputable def r_towpathref06_New_39 : Array Oper := Code.ops c_towpathref06_New_39
noncomputable def c_towpathref06_New_41 : Code := Code.r c_towpathref06_New_38

set_option maxRecDepth 100000 in
set_option maxHeartbeats 4000000 in
theorem S_towpathref06_New {l_ : Slc} {w : World} {R : Option Addr → Int → World → Prop} (h : F_towpathref06_New l_ R w) : C_towpathref06_New l_ w R := by
  unfold F_towpathref06_New at h
  unfold C_towpathref06_New
  refine Calls.mono (calls_of_wpE (args := [Value.slice l_.ptr l_.len l_.cap]) (R := fun v w' => ∃ (r0 : Option Addr) (r1 : Int), v = Value.tuple #[Value.pointer r0, Value.int .i64 r1] ∧ R r0 r1 w') Try.func41 (c := c_towpathref06_New_0) (by kernel_rfl) 29 (by kernel_rfl) (by kernel_rfl) [(0, Value.slice l_.ptr l_.len l_.cap)] (by kernel_rfl) ?_) ?_
  · refine wpE_seq (x := c_towpathref06_New_1) (y := c_towpathref06_New_3) (by kernel_rfl) ?_
    refine wpE_region (id := 0) (ops := r_towpathref06_New_1) (by kernel_rfl) ?_
    refine reg_run [.plain, .plain] 2 [(0, [], Value.slice l_.ptr l_.len l_.cap)] (by kernel_rfl) (by kernel_rfl) ?_
    refine reg_end [(0, Value.slice l_.ptr l_.len l_.cap)] (by kernel_rfl) (by kernel_rfl) ?_
    change WpE _ _ c_towpathref06_New_3 _ _ _
    refine wpE_seq (x := c_towpathref06_New_4) (y := c_towpathref06_New_6) (by kernel_rfl) ?_
    refine wpE_region (id := 1) (ops := r_towpathref06_New_4) (by kernel_rfl) ?_
    refine reg_run [.plain] 1 [(0, [], Value.slice l_.ptr l_.len l_.cap), (7, [], Value.slice l_.ptr l_.len l_.cap)] (by kernel_rfl) (by kernel_rfl) ?_
    refine reg_enter (op := (Go.Op.call (Go.Call.mk (Go.Callee.value (Go.Operand.func 82)) #[(Go.Operand.tmp 7)] #[22]))) (ty := 32) (dst := some 8) 82 #[Value.slice l_.ptr l_.len l_.cap] (by kernel_rfl) (fun ww => by kernel_rfl) (Calls.mono h ?_)
    rintro _ w1 ⟨v8, rfl, h⟩
    refine ⟨_, rfl, ?_⟩
    refine reg_run [.plain] 3 [(0, [], Value.slice l_.ptr l_.len l_.cap), (4, [], Value.int .i64 v8)] (by kernel_rfl) (by kernel_rfl) ?_
    refine reg_end [(0, Value.slice l_.ptr l_.len l_.cap), (4, Value.int .i64 v8)] (by kernel_rfl) (by kernel_rfl) ?_
    change WpE _ _ c_towpathref06_New_6 _ _ _
    refine wpE_seq (x := c_towpathref06_New_7) (y := c_towpathref06_New_16) (by kernel_rfl) ?_
    refine wpE_seq (x := c_towpathref06_New_8) (y := c_towpathref06_New_10) (by kernel_rfl) ?_
    refine wpE_region (id := 2) (ops := r_towpathref06_New_8) (by kernel_rfl) ?_
    refine reg_run [.plain, .plain] 2 [(0, [], Value.slice l_.ptr l_.len l_.cap), (4, [], Value.int .i64 v8), (10, [], Value.bool (v8 != 0))] (by kernel_rfl) (by kernel_rfl) ?_
    refine reg_end [(0, Value.slice l_.ptr l_.len l_.cap), (4, Value.int .i64 v8), (10, Value.bool (v8 != 0))] (by kernel_rfl) (by kernel_rfl) ?_
    change WpE _ _ c_towpathref06_New_10 _ _ _
    refine wpE_cond (o := (Operand.tmp 10)) (b := (v8 != 0)) (x := c_towpathref06_New_11) (y := c_towpathref06_New_15) (by kernel_rfl) (by kernel_rfl) (fun hb => ?_) (fun hb => ?_)
    · replace h := h.1 hb
      refine wpE_seq (x := c_towpathref06_New_12) (y := c_towpathref06_New_14) (by kernel_rfl) ?_
      refine wpE_region (id := 3) (ops := r_towpathref06_New_12) (by kernel_rfl) ?_
      refine reg_run [.plain, .plain, .plain] 3 [(2, [], Value.pointer none), (3, [], Value.int .i64 v8)] (by kernel_rfl) (by kernel_rfl) ?_
      refine reg_end [(2, Value.pointer none), (3, Value.int .i64 v8)] (by kernel_rfl) (by kernel_rfl) ?_
      change WpE _ _ c_towpathref06_New_14 _ _ _
      refine wpE_ret (by kernel_rfl) ?_
      repeat (first | refine seqQ_ret ?_ | refine blockQ_ret ?_ | refine loopQ_ret ?_ | refine cutQ_ret ?_)
      exact retT (rs := [(Go.ResultVar.tmp 2), (Go.ResultVar.tmp 3)]) (vs := [Value.pointer none, Value.int .i64 v8]) (by kernel_rfl) (⟨by kernel_rfl, ⟨by kernel_rfl, trivial⟩⟩) (by kernel_rfl) ⟨none, v8, rfl, h⟩
    · replace h := h.2 hb
      refine wpE_skip (by kernel_rfl) ?_
      change WpE _ _ c_towpathref06_New_16 _ _ _
      refine wpE_seq (x := c_towpathref06_New_17) (y := c_towpathref06_New_19) (by kernel_rfl) ?_
      refine wpE_region (id := 4) (ops := r_towpathref06_New_17) (by kernel_rfl) ?_
      refine reg_run [.plain] 1 [(0, [], Value.slice l_.ptr l_.len l_.cap), (5, [], Value.slice none 0 0)] (by kernel_rfl) (by kernel_rfl) ?_
      refine reg_end [(0, Value.slice l_.ptr l_.len l_.cap), (5, Value.slice none 0 0)] (by kernel_rfl) (by kernel_rfl) ?_
      change WpE _ _ c_towpathref06_New_19 _ _ _
      refine wpE_seq (x := c_towpathref06_New_20) (y := c_towpathref06_New_38) (by kernel_rfl) ?_
      refine wpE_seq (x := c_towpathref06_New_21) (y := c_towpathref06_New_23) (by kernel_rfl) ?_
      refine wpE_region (id := 5) (ops := r_towpathref06_New_21) (by kernel_rfl) ?_
      refine reg_run [.plain] 1 [(0, [], Value.slice l_.ptr l_.len l_.cap), (5, [], Value.slice none 0 0), (6, [], Value.int .i64 0)] (by kernel_rfl) (by kernel_rfl) ?_
      refine reg_end [(0, Value.slice l_.ptr l_.len l_.cap), (5, Value.slice none 0 0), (6, Value.int .i64 0)] (by kernel_rfl) (by kernel_rfl) ?_
      change WpE _ _ c_towpathref06_New_23 _ _ _
      refine wpE_block (id := 0) (x := c_towpathref06_New_24) (by kernel_rfl) ?_
      obtain ⟨I, μ, h0, hr⟩ := h
      refine wpE_loop (x := c_towpathref06_New_25) (by kernel_rfl) (fun m l w => ∃ (own : Slc) (i : Int), l = [(0, Value.slice l_.ptr l_.len l_.cap), (5, Value.slice own.ptr own.len own.cap), (6, Value.int .i64 i)] ∧ I own i w ∧ μ own i w = m) (l' := [(0, Value.slice l_.ptr l_.len l_.cap), (5, Value.slice none 0 0), (6, Value.int .i64 0)]) (Sub.mk (by kernel_rfl)) ⟨(Slc.mk none 0 0), 0, rfl, h0, rfl⟩ ?_
      rintro _ _ w2 ⟨own, i, rfl, hI, rfl⟩
      obtain ⟨again_, again__h, h⟩ : ∃ again_ : Slc → Int → World → Prop, (∀ own' i' w', again_ own' i' w' → I own' i' w' ∧ μ own' i' w' < μ own i w2) ∧ F_towpathref06_New_L0 l_ R again_ own i w2 := ⟨_, fun _ _ _ h => h, hr own i w2 hI⟩
      clear h0 hI
      unfold F_towpathref06_New_L0 at h
      refine wpE_seq (x := c_towpathref06_New_26) (y := c_towpathref06_New_32) (by kernel_rfl) ?_
      refine wpE_seq (x := c_towpathref06_New_27) (y := c_towpathref06_New_29) (by kernel_rfl) ?_
      refine wpE_region (id := 6) (ops := r_towpathref06_New_27) (by kernel_rfl) ?_
      refine reg_run [.plain, .plain, .plain, .plain] 4 [(0, [], Value.slice l_.ptr l_.len l_.cap), (5, [], Value.slice own.ptr own.len own.cap), (6, [], Value.int .i64 i), (15, [], Value.bool (decide (i < ((l_.len : Nat) : Int))))] (by kernel_rfl) (by kernel_rfl) ?_
      refine reg_end [(0, Value.slice l_.ptr l_.len l_.cap), (5, Value.slice own.ptr own.len own.cap), (6, Value.int .i64 i), (15, Value.bool (decide (i < ((l_.len : Nat) : Int))))] (by kernel_rfl) (by kernel_rfl) ?_
      change WpE _ _ c_towpathref06_New_29 _ _ _
      refine wpE_cond (o := (Operand.tmp 15)) (b := (decide (i < ((l_.len : Nat) : Int)))) (x := c_towpathref06_New_30) (y := c_towpathref06_New_31) (by kernel_rfl) (by kernel_rfl) (fun hb => ?_) (fun hb => ?_)
      · replace h := h.1 hb
        refine wpE_skip (by kernel_rfl) ?_
        change WpE _ _ c_towpathref06_New_32 _ _ _
        refine wpE_seq (x := c_towpathref06_New_33) (y := c_towpathref06_New_36) (by kernel_rfl) ?_
        refine wpE_block (id := 1) (x := c_towpathref06_New_34) (by kernel_rfl) ?_
        refine wpE_region (id := 8) (ops := r_towpathref06_New_34) (by kernel_rfl) ?_
        refine reg_run [.plain, .plain, .plain] 3 [(0, [], Value.slice l_.ptr l_.len l_.cap), (5, [], Value.slice own.ptr own.len own.cap), (6, [], Value.int .i64 i), (18, [], Value.slice own.ptr own.len own.cap), (19, [], Value.slice l_.ptr l_.len l_.cap), (20, [], Value.int .i64 i)] (by kernel_rfl) (by kernel_rfl) ?_
        obtain ⟨hp_3, h⟩ := h
        refine reg_conv [(0, [], Value.slice l_.ptr l_.len l_.cap), (5, [], Value.slice own.ptr own.len own.cap), (6, [], Value.int .i64 i), (18, [], Value.slice own.ptr own.len own.cap), (19, [], Value.slice (some ⟨(pblk l_.ptr), (poff l_.ptr), none⟩) l_.len l_.cap), (20, [], Value.int .i64 i)] (congrArg (fun pp => ([(0, [], Value.slice l_.ptr l_.len l_.cap), (5, [], Value.slice own.ptr own.len own.cap), (6, [], Value.int .i64 i), (18, [], Value.slice own.ptr own.len own.cap), (19, [], Value.slice pp l_.len l_.cap), (20, [], Value.int .i64 i)] : GEnv)) hp_3) ?_
        obtain ⟨h0, h1, h⟩ := h
        refine reg_indexS (t := 22) (e := 42) (x := (Go.Operand.tmp 19)) (ix := (Go.Operand.tmp 20)) (b := (pblk l_.ptr)) (o := (poff l_.ptr)) (l := l_.len) (c := l_.cap) (k := .i64) (j := i) (ty := 0) (dst := some 21) (sz := 2) (by kernel_rfl) (by kernel_rfl) (by kernel_rfl) (by kernel_rfl) (by kernel_rfl) h0 h1 ?_
        refine reg_run [] 4 [(0, [], Value.slice l_.ptr l_.len l_.cap), (5, [], Value.slice own.ptr own.len own.cap), (6, [], Value.int .i64 i), (18, [], Value.slice own.ptr own.len own.cap), (21, [], Value.pointer (some ⟨(pblk l_.ptr), (poff l_.ptr) + i.toNat * 2, none⟩))] (by kernel_rfl) (by kernel_rfl) ?_
        obtain ⟨v22, hc, h⟩ := h
        refine reg_loadN (t := 42) (a := (Go.Operand.tmp 21)) (b := (pblk l_.ptr)) (o := ((poff l_.ptr) + i.toNat * 2)) (ty := 42) (dst := some 22) [Value.int .i64 v22.Number, Value.slice v22.Writes.ptr v22.Writes.len v22.Writes.cap] (by kernel_rfl) (by kernel_rfl) (by kernel_rfl) (k := 2) (by kernel_rfl) (by kernel_rfl) hc ?_
        refine reg_run [] 5 [(0, [], Value.slice l_.ptr l_.len l_.cap), (5, [], Value.slice own.ptr own.len own.cap), (6, [], Value.int .i64 i), (18, [], Value.slice own.ptr own.len own.cap), (22, [], Value.agg #[Value.int .i64 v22.Number, Value.slice v22.Writes.ptr v22.Writes.len v22.Writes.cap])] (by kernel_rfl) (by kernel_rfl) ?_
        refine reg_enter (op := (Go.Op.call (Go.Call.mk (Go.Callee.value (Go.Operand.func 83)) #[(Go.Operand.tmp 22)] #[42]))) (ty := 42) (dst := some 23) 83 #[Value.agg #[Value.int .i64 v22.Number, Value.slice v22.Writes.ptr v22.Writes.len v22.Writes.cap]] (by kernel_rfl) (fun ww => by kernel_rfl) (Calls.mono h ?_)
        rintro _ w3 ⟨v23, rfl, h⟩
        refine ⟨_, rfl, ?_⟩
        refine reg_run [] 6 [(0, [], Value.slice l_.ptr l_.len l_.cap), (5, [], Value.slice own.ptr own.len own.cap), (6, [], Value.int .i64 i), (18, [], Value.slice own.ptr own.len own.cap), (23, [], Value.agg #[Value.int .i64 v23.Number, Value.slice v23.Writes.ptr v23.Writes.len v23.Writes.cap])] (by kernel_rfl) (by kernel_rfl) ?_
        refine reg_new (op := (Go.Op.buildSlice 22 1 #[(0, (Go.Operand.tmp 23))])) (ty := 22) (dst := some 24) (fun bb => Value.slice (some ⟨bb, 0, none⟩) 1 1) (Obj.cells ([Value.int .i64 v23.Number, Value.slice v23.Writes.ptr v23.Writes.len v23.Writes.cap]).toArray ty_api_Txn (0, 0)) (by kernel_rfl) (by kernel_rfl) (fun b_ w4 hb hw => ?_)
        replace h := h b_ w4 hb hw
        clear hb hw
        refine reg_run [] 7 [(0, [], Value.slice l_.ptr l_.len l_.cap), (5, [], Value.slice own.ptr own.len own.cap), (6, [], Value.int .i64 i), (18, [], Value.slice own.ptr own.len own.cap), (24, [], Value.slice (some ⟨b_, 0, none⟩) 1 1)] (by kernel_rfl) (by kernel_rfl) ?_
        obtain ⟨src, hs, h⟩ := h
        refine reg_append (t := 22) (tx := 22) (e := 42) (a := (Go.Operand.tmp 18)) (xo := (Go.Operand.tmp 24)) (s := own) (x := (Slc.mk (some ⟨b_, 0, none⟩) 1 1)) (sz := 2) (by_ := 32) (zs := [Value.int .i64 0, Value.slice none 0 0]) (ty := 22) (dst := some 25)  src (by kernel_rfl) (by kernel_rfl) (by kernel_rfl) (by kernel_rfl) (by kernel_rfl) (by kernel_rfl) (by kernel_rfl) (by kernel_rfl) (by kernel_rfl) hs (AppendW.mono h (fun own1 w5 h => ?_))
        refine reg_run [.plain] 9 [(0, [], Value.slice l_.ptr l_.len l_.cap), (5, [], Value.slice own1.ptr own1.len own1.cap), (6, [], Value.int .i64 i)] (by kernel_rfl) (by kernel_rfl) ?_
        refine reg_end [(0, Value.slice l_.ptr l_.len l_.cap), (5, Value.slice own1.ptr own1.len own1.cap), (6, Value.int .i64 i)] (by kernel_rfl) (by kernel_rfl) ?_
        change WpE _ _ c_towpathref06_New_36 _ _ _
        refine wpE_region (id := 7) (ops := r_towpathref06_New_36) (by kernel_rfl) ?_
        refine reg_run [.plain, .plain, .plain] 3 [(0, [], Value.slice l_.ptr l_.len l_.cap), (5, [], Value.slice own1.ptr own1.len own1.cap), (6, [], Value.int .i64 (IntKind.i64.wrap (i + 1)))] (by kernel_rfl) (by kernel_rfl) ?_
        refine reg_end [(0, Value.slice l_.ptr l_.len l_.cap), (5, Value.slice own1.ptr own1.len own1.cap), (6, Value.int .i64 (IntKind.i64.wrap (i + 1)))] (by kernel_rfl) (by kernel_rfl) ?_
        have hb_ := again__h _ _ _ h
        exact ⟨_, hb_.2, [(0, Value.slice l_.ptr l_.len l_.cap), (5, Value.slice own1.ptr own1.len own1.cap), (6, Value.int .i64 (IntKind.i64.wrap (i + 1)))], Sub.mk (by kernel_rfl), own1, (IntKind.i64.wrap (i + 1)), rfl, hb_.1, rfl⟩
      · replace h := h.2 hb
        refine wpE_exit (id := 0) (by kernel_rfl) ?_
        change WpE _ _ c_towpathref06_New_38 _ _ _
        refine wpE_seq (x := c_towpathref06_New_39) (y := c_towpathref06_New_41) (by kernel_rfl) ?_
        refine wpE_region (id := 9) (ops := r_towpathref06_New_39) (by kernel_rfl) ?_
        refine reg_run [.plain, .plain] 2 [(27, [], Value.agg #[Value.slice own.ptr own.len own.cap, Value.slice none 0 0])] (by kernel_rfl) (by kernel_rfl) ?_
        refine reg_new (op := (Go.Op.box 153 (Go.Operand.tmp 27))) (ty := 107) (dst := some 28) (fun bb => Value.pointer (some ⟨bb, 0, none⟩)) (Obj.cells ([Value.slice own.ptr own.len own.cap, Value.slice none 0 0]).toArray ty_towpathref06_Source (0, 0)) (by kernel_rfl) (by kernel_rfl) (fun b_1 w6 hb hw => ?_)
        replace h := h b_1 w6 hb hw
        clear hb hw
        refine reg_run [.plain, .plain] 5 [(2, [], Value.pointer (some ⟨b_1, 0, none⟩)), (3, [], Value.int .i64 0)] (by kernel_rfl) (by kernel_rfl) ?_
        refine reg_end [(2, Value.pointer (some ⟨b_1, 0, none⟩)), (3, Value.int .i64 0)] (by kernel_rfl) (by kernel_rfl) ?_
        change WpE _ _ c_towpathref06_New_41 _ _ _
        refine wpE_ret (by kernel_rfl) ?_
        repeat (first | refine seqQ_ret ?_ | refine blockQ_ret ?_ | refine loopQ_ret ?_ | refine cutQ_ret ?_)
        exact retT (rs := [(Go.ResultVar.tmp 2), (Go.ResultVar.tmp 3)]) (vs := [Value.pointer (some ⟨b_1, 0, none⟩), Value.int .i64 0]) (by kernel_rfl) (⟨by kernel_rfl, ⟨by kernel_rfl, trivial⟩⟩) (by kernel_rfl) ⟨(some ⟨b_1, 0, none⟩), 0, rfl, h⟩
  · rintro e w' ⟨v, rfl, r0, r1, rfl, h⟩; exact ⟨r0, r1, rfl, h⟩

/-! ### towpath/towpathref06.Check (function 82) -/
noncomputable def c_towpathref06_Check_0 : Code := (Try.f82.body).getD Code.skip
noncomputable def c_towpathref06_Check_1 : Code := Code.l c_towpathref06_Check_0
noncomputable def r_towpathref06_Check_1 : Array Oper := Code.ops c_towpathref06_Check_1
noncomputable def c_towpathref06_Check_3 : Code := Code.r c_towpathref06_Check_0
noncomputable def c_towpathref06_Check_4 : Code := Code.l c_towpathref06_Check_3
noncomputable def c_towpathref06_Check_5 : Code := Code.l c_towpathref06_Check_4
noncomputable def r_towpathref06_Check_5 : Array Oper := Code.ops c_towpathref06_Check_5
noncomputable def c_towpathref06_Check_7 : Code := Code.r c_towpathref06_Check_4
noncomputable def c_towpathref06_Check_8 : Code := Code.l c_towpathref06_Check_7
noncomputable def c_towpathref06_Check_9 : Code := Code.l c_towpathref06_Check_8
noncomputable def c_towpathref06_Check_10 : Code := Code.l c_towpathref06_Check_9
noncomputable def c_towpathref06_Check_11 : Code := Code.l c_towpathref06_Check_10
noncomputable def r_towpathref06_Check_11 : Array Oper := Code.ops c_towpathref06_Check_11
noncomputable def c_towpathref06_Check_13 : Code := Code.r c_towpathref06_Check_10
noncomputable def c_towpathref06_Check_14 : Code := Code.l c_towpathref06_Check_13
noncomputable def c_towpathref06_Check_15 : Code := Code.r c_towpathref06_Check_13
noncomputable def c_towpathref06_Check_16 : Code := Code.r c_towpathref06_Check_9
noncomputable def c_towpathref06_Check_17 : Code := Code.l c_towpathref06_Check_16
noncomputable def c_towpathref06_Check_18 : Code := Code.l c_towpathref06_Check_17
noncomputable def c_towpathref06_Check_19 : Code := Code.l c_towpathref06_Check_18
noncomputable def c_towpathref06_Check_20 : Code := Code.l c_towpathref06_Check_19
noncomputable def r_towpathref06_Check_20 : Array Oper := Code.ops c_towpathref06_Check_20
noncomputable def c_towpathref06_Check_22 : Code := Code.r c_towpathref06_Check_19
noncomputable def c_towpathref06_Check_23 : Code := Code.l c_towpathref06_Check_22
noncomputable def c_towpathref06_Check_24 : Code := Code.l c_towpathref06_Check_23
noncomputable def r_towpathref06_Check_24 : Array Oper := Code.ops c_towpathref06_Check_24
noncomputable def c_towpathref06_Check_26 : Code := Code.r c_towpathref06_Check_23
noncomputable def c_towpathref06_Check_27 : Code := Code.r c_towpathref06_Check_22
noncomputable def c_towpathref06_Check_28 : Code := Code.r c_towpathref06_Check_18
noncomputable def c_towpathref06_Check_29 : Code := Code.l c_towpathref06_Check_28
noncomputable def r_towpathref06_Check_29 : Array Oper := Code.ops c_towpathref06_Check_29
noncomputable def c_towpathref06_Check_31 : Code := Code.r c_towpathref06_Check_28
noncomputable def c_towpathref06_Check_32 : Code := Code.l c_towpathref06_Check_31
noncomputable def c_towpathref06_Check_33 : Code := Code.l c_towpathref06_Check_32
noncomputable def r_towpathref06_Check_33 : Array Oper := Code.ops c_towpathref06_Check_33
noncomputable def c_towpathref06_Check_35 : Code := Code.r c_towpathref06_Check_32
noncomputable def c_towpathref06_Check_36 : Code := Code.r c_towpathref06_Check_31
noncomputable def c_towpathref06_Check_37 : Code := Code.r c_towpathref06_Check_16
noncomputable def r_towpathref06_Check_37 : Array Oper := Code.ops c_towpathref06_Check_37
noncomputable def c_towpathref06_Check_39 : Code := Code.r c_towpathref06_Check_3
noncomputable def c_towpathref06_Check_40 : Code := Code.l c_towpathref06_Check_39
noncomputable def r_towpathref06_Check_40 : Array Oper := Code.ops c_towpathref06_Check_40
noncomputable def c_towpathref06_Check_42 : Code := Code.r c_towpathref06_Check_39

set_option maxRecDepth 100000 in
set_option maxHeartbeats 4000000 in
theorem S_towpathref06_Check {l_ : Slc} {w : World} {R : Int → World → Prop} (h : F_towpathref06_Check l_ R w) : C_towpathref06_Check l_ w R := by
  unfold F_towpathref06_Check at h
  unfold C_towpathref06_Check
  refine Calls.mono (calls_of_wpE (args := [Value.slice l_.ptr l_.len l_.cap]) (R := fun v w' => ∃ (r0 : Int), v = Value.int .i64 r0 ∧ R r0 w') Try.func82 (c := c_towpathref06_Check_0) (by kernel_rfl) 24 (by kernel_rfl) (by kernel_rfl) [(0, Value.slice l_.ptr l_.len l_.cap)] (by kernel_rfl) ?_) ?_
  · refine wpE_seq (x := c_towpathref06_Check_1) (y := c_towpathref06_Check_3) (by kernel_rfl) ?_
    refine wpE_region (id := 0) (ops := r_towpathref06_Check_1) (by kernel_rfl) ?_
    refine reg_run [.plain] 1 [(0, [], Value.slice l_.ptr l_.len l_.cap)] (by kernel_rfl) (by kernel_rfl) ?_
    refine reg_end [(0, Value.slice l_.ptr l_.len l_.cap)] (by kernel_rfl) (by kernel_rfl) ?_
    change WpE _ _ c_towpathref06_Check_3 _ _ _
    refine wpE_seq (x := c_towpathref06_Check_4) (y := c_towpathref06_Check_39) (by kernel_rfl) ?_
    refine wpE_seq (x := c_towpathref06_Check_5) (y := c_towpathref06_Check_7) (by kernel_rfl) ?_
    refine wpE_region (id := 1) (ops := r_towpathref06_Check_5) (by kernel_rfl) ?_
    refine reg_run [.plain] 1 [(0, [], Value.slice l_.ptr l_.len l_.cap), (3, [], Value.int .i64 0)] (by kernel_rfl) (by kernel_rfl) ?_
    refine reg_end [(0, Value.slice l_.ptr l_.len l_.cap), (3, Value.int .i64 0)] (by kernel_rfl) (by kernel_rfl) ?_
    change WpE _ _ c_towpathref06_Check_7 _ _ _
    refine wpE_block (id := 0) (x := c_towpathref06_Check_8) (by kernel_rfl) ?_
    obtain ⟨I, μ, h0, hr⟩ := h
    refine wpE_loop (x := c_towpathref06_Check_9) (by kernel_rfl) (fun m l w => ∃ (i : Int), l = [(0, Value.slice l_.ptr l_.len l_.cap), (3, Value.int .i64 i)] ∧ I i w ∧ μ i w = m) (l' := [(0, Value.slice l_.ptr l_.len l_.cap), (3, Value.int .i64 0)]) (Sub.mk (by kernel_rfl)) ⟨0, rfl, h0, rfl⟩ ?_
    rintro _ _ w1 ⟨i, rfl, hI, rfl⟩
    obtain ⟨again_, again__h, h⟩ : ∃ again_ : Int → World → Prop, (∀ i' w', again_ i' w' → I i' w' ∧ μ i' w' < μ i w1) ∧ F_towpathref06_Check_L0 l_ R again_ i w1 := ⟨_, fun _ _ h => h, hr i w1 hI⟩
    clear h0 hI
    unfold F_towpathref06_Check_L0 at h
    refine wpE_seq (x := c_towpathref06_Check_10) (y := c_towpathref06_Check_16) (by kernel_rfl) ?_
    refine wpE_seq (x := c_towpathref06_Check_11) (y := c_towpathref06_Check_13) (by kernel_rfl) ?_
    refine wpE_region (id := 2) (ops := r_towpathref06_Check_11) (by kernel_rfl) ?_
    refine reg_run [.plain, .plain, .plain, .plain] 4 [(0, [], Value.slice l_.ptr l_.len l_.cap), (3, [], Value.int .i64 i), (7, [], Value.bool (decide (i < ((l_.len : Nat) : Int))))] (by kernel_rfl) (by kernel_rfl) ?_
    refine reg_end [(0, Value.slice l_.ptr l_.len l_.cap), (3, Value.int .i64 i), (7, Value.bool (decide (i < ((l_.len : Nat) : Int))))] (by kernel_rfl) (by kernel_rfl) ?_
    change WpE _ _ c_towpathref06_Check_13 _ _ _
    refine wpE_cond (o := (Operand.tmp 7)) (b := (decide (i < ((l_.len : Nat) : Int)))) (x := c_towpathref06_Check_14) (y := c_towpathref06_Check_15) (by kernel_rfl) (by kernel_rfl) (fun hb => ?_) (fun hb => ?_)
    · replace h := h.1 hb
      refine wpE_skip (by kernel_rfl) ?_
      change WpE _ _ c_towpathref06_Check_16 _ _ _
      refine wpE_seq (x := c_towpathref06_Check_17) (y := c_towpathref06_Check_37) (by kernel_rfl) ?_
      refine wpE_block (id := 1) (x := c_towpathref06_Check_18) (by kernel_rfl) ?_
      refine wpE_seq (x := c_towpathref06_Check_19) (y := c_towpathref06_Check_28) (by kernel_rfl) ?_
      refine wpE_seq (x := c_towpathref06_Check_20) (y := c_towpathref06_Check_22) (by kernel_rfl) ?_
      refine wpE_region (id := 4) (ops := r_towpathref06_Check_20) (by kernel_rfl) ?_
      refine reg_run [.plain, .plain] 2 [(0, [], Value.slice l_.ptr l_.len l_.cap), (3, [], Value.int .i64 i), (10, [], Value.slice l_.ptr l_.len l_.cap), (11, [], Value.int .i64 i)] (by kernel_rfl) (by kernel_rfl) ?_
      obtain ⟨hp_21, h⟩ := h
      refine reg_conv [(0, [], Value.slice l_.ptr l_.len l_.cap), (3, [], Value.int .i64 i), (10, [], Value.slice (some ⟨(pblk l_.ptr), (poff l_.ptr), none⟩) l_.len l_.cap), (11, [], Value.int .i64 i)] (congrArg (fun pp => ([(0, [], Value.slice l_.ptr l_.len l_.cap), (3, [], Value.int .i64 i), (10, [], Value.slice pp l_.len l_.cap), (11, [], Value.int .i64 i)] : GEnv)) hp_21) ?_
      obtain ⟨h0, h1, h⟩ := h
      refine reg_indexS (t := 22) (e := 42) (x := (Go.Operand.tmp 10)) (ix := (Go.Operand.tmp 11)) (b := (pblk l_.ptr)) (o := (poff l_.ptr)) (l := l_.len) (c := l_.cap) (k := .i64) (j := i) (ty := 0) (dst := some 12) (sz := 2) (by kernel_rfl) (by kernel_rfl) (by kernel_rfl) (by kernel_rfl) (by kernel_rfl) h0 h1 ?_
      refine reg_run [] 3 [(0, [], Value.slice l_.ptr l_.len l_.cap), (3, [], Value.int .i64 i), (12, [], Value.pointer (some ⟨(pblk l_.ptr), (poff l_.ptr) + i.toNat * 2, none⟩))] (by kernel_rfl) (by kernel_rfl) ?_
      obtain ⟨v13, hc, h⟩ := h
      refine reg_loadN (t := 42) (a := (Go.Operand.tmp 12)) (b := (pblk l_.ptr)) (o := ((poff l_.ptr) + i.toNat * 2)) (ty := 42) (dst := some 13) [Value.int .i64 v13.Number, Value.slice v13.Writes.ptr v13.Writes.len v13.Writes.cap] (by kernel_rfl) (by kernel_rfl) (by kernel_rfl) (k := 2) (by kernel_rfl) (by kernel_rfl) hc ?_
      refine reg_run [] 4 [(0, [], Value.slice l_.ptr l_.len l_.cap), (3, [], Value.int .i64 i), (13, [], Value.agg #[Value.int .i64 v13.Number, Value.slice v13.Writes.ptr v13.Writes.len v13.Writes.cap])] (by kernel_rfl) (by kernel_rfl) ?_
      refine reg_enter (op := (Go.Op.call (Go.Call.mk (Go.Callee.value (Go.Operand.func 110)) #[(Go.Operand.tmp 13)] #[42]))) (ty := 32) (dst := some 14) 110 #[Value.agg #[Value.int .i64 v13.Number, Value.slice v13.Writes.ptr v13.Writes.len v13.Writes.cap]] (by kernel_rfl) (fun ww => by kernel_rfl) (Calls.mono h ?_)
      rintro _ w2 ⟨v14, rfl, h⟩
      refine ⟨_, rfl, ?_⟩
      refine reg_run [.plain] 6 [(0, [], Value.slice l_.ptr l_.len l_.cap), (3, [], Value.int .i64 i), (15, [], Value.bool (v14 != 0))] (by kernel_rfl) (by kernel_rfl) ?_
      refine reg_end [(0, Value.slice l_.ptr l_.len l_.cap), (3, Value.int .i64 i), (15, Value.bool (v14 != 0))] (by kernel_rfl) (by kernel_rfl) ?_
      change WpE _ _ c_towpathref06_Check_22 _ _ _
      refine wpE_cond (o := (Operand.tmp 15)) (b := (v14 != 0)) (x := c_towpathref06_Check_23) (y := c_towpathref06_Check_27) (by kernel_rfl) (by kernel_rfl) (fun hb => ?_) (fun hb => ?_)
      · replace h := h.1 hb
        refine wpE_seq (x := c_towpathref06_Check_24) (y := c_towpathref06_Check_26) (by kernel_rfl) ?_
        refine wpE_region (id := 5) (ops := r_towpathref06_Check_24) (by kernel_rfl) ?_
        refine reg_run [.plain] 1 [(2, [], Value.int .i64 1)] (by kernel_rfl) (by kernel_rfl) ?_
        refine reg_end [(2, Value.int .i64 1)] (by kernel_rfl) (by kernel_rfl) ?_
        change WpE _ _ c_towpathref06_Check_26 _ _ _
        refine wpE_ret (by kernel_rfl) ?_
        repeat (first | refine seqQ_ret ?_ | refine blockQ_ret ?_ | refine loopQ_ret ?_ | refine cutQ_ret ?_)
        exact retS (rs := [(Go.ResultVar.tmp 2)]) (v := Value.int .i64 1) (by kernel_rfl) (⟨by kernel_rfl, trivial⟩) ⟨1, rfl, h⟩
      · replace h := h.2 hb
        refine wpE_skip (by kernel_rfl) ?_
        change WpE _ _ c_towpathref06_Check_28 _ _ _
        refine wpE_seq (x := c_towpathref06_Check_29) (y := c_towpathref06_Check_31) (by kernel_rfl) ?_
        refine wpE_region (id := 6) (ops := r_towpathref06_Check_29) (by kernel_rfl) ?_
        refine reg_run [.plain, .plain] 2 [(0, [], Value.slice l_.ptr l_.len l_.cap), (3, [], Value.int .i64 i), (16, [], Value.slice l_.ptr l_.len l_.cap), (17, [], Value.int .i64 i)] (by kernel_rfl) (by kernel_rfl) ?_
        obtain ⟨hp_23, h⟩ := h
        refine reg_conv [(0, [], Value.slice l_.ptr l_.len l_.cap), (3, [], Value.int .i64 i), (16, [], Value.slice (some ⟨(pblk l_.ptr), (poff l_.ptr), none⟩) l_.len l_.cap), (17, [], Value.int .i64 i)] (congrArg (fun pp => ([(0, [], Value.slice l_.ptr l_.len l_.cap), (3, [], Value.int .i64 i), (16, [], Value.slice pp l_.len l_.cap), (17, [], Value.int .i64 i)] : GEnv)) hp_23) ?_
        obtain ⟨h0, h1, h⟩ := h
        refine reg_indexS (t := 22) (e := 42) (x := (Go.Operand.tmp 16)) (ix := (Go.Operand.tmp 17)) (b := (pblk l_.ptr)) (o := (poff l_.ptr)) (l := l_.len) (c := l_.cap) (k := .i64) (j := i) (ty := 0) (dst := some 18) (sz := 2) (by kernel_rfl) (by kernel_rfl) (by kernel_rfl) (by kernel_rfl) (by kernel_rfl) h0 h1 ?_
        refine reg_run [.plain] 4 [(0, [], Value.slice l_.ptr l_.len l_.cap), (3, [], Value.int .i64 i), (19, [], Value.pointer (some ⟨(pblk l_.ptr), (poff l_.ptr) + i.toNat * 2, none⟩))] (by kernel_rfl) (by kernel_rfl) ?_
        obtain ⟨v20, hc, h⟩ := h
        refine reg_load1 (t := 3) (a := (Go.Operand.tmp 19)) (b := (pblk l_.ptr)) (o := ((poff l_.ptr) + i.toNat * 2)) (ty := 3) (dst := some 20) (by kernel_rfl) (by kernel_rfl) (by kernel_rfl) hc ?_
        refine reg_run [.plain, .plain, .plain] 8 [(0, [], Value.slice l_.ptr l_.len l_.cap), (3, [], Value.int .i64 i), (23, [], Value.bool (v20 != (IntKind.i64.wrap (i + 1))))] (by kernel_rfl) (by kernel_rfl) ?_
        refine reg_end [(0, Value.slice l_.ptr l_.len l_.cap), (3, Value.int .i64 i), (23, Value.bool (v20 != (IntKind.i64.wrap (i + 1))))] (by kernel_rfl) (by kernel_rfl) ?_
        change WpE _ _ c_towpathref06_Check_31 _ _ _
        refine wpE_cond (o := (Operand.tmp 23)) (b := (v20 != (IntKind.i64.wrap (i + 1)))) (x := c_towpathref06_Check_32) (y := c_towpathref06_Check_36) (by kernel_rfl) (by kernel_rfl) (fun hb => ?_) (fun hb => ?_)
        · replace h := h.1 hb
          refine wpE_seq (x := c_towpathref06_Check_33) (y := c_towpathref06_Check_35) (by kernel_rfl) ?_
          refine wpE_region (id := 7) (ops := r_towpathref06_Check_33) (by kernel_rfl) ?_
          refine reg_run [.plain] 1 [(2, [], Value.int .i64 6)] (by kernel_rfl) (by kernel_rfl) ?_
          refine reg_end [(2, Value.int .i64 6)] (by kernel_rfl) (by kernel_rfl) ?_
          change WpE _ _ c_towpathref06_Check_35 _ _ _
          refine wpE_ret (by kernel_rfl) ?_
          repeat (first | refine seqQ_ret ?_ | refine blockQ_ret ?_ | refine loopQ_ret ?_ | refine cutQ_ret ?_)
          exact retS (rs := [(Go.ResultVar.tmp 2)]) (v := Value.int .i64 6) (by kernel_rfl) (⟨by kernel_rfl, trivial⟩) ⟨6, rfl, h⟩
        · replace h := h.2 hb
          refine wpE_skip (by kernel_rfl) ?_
          change WpE _ _ c_towpathref06_Check_37 _ _ _
          refine wpE_region (id := 3) (ops := r_towpathref06_Check_37) (by kernel_rfl) ?_
          refine reg_run [.plain, .plain, .plain] 3 [(0, [], Value.slice l_.ptr l_.len l_.cap), (3, [], Value.int .i64 (IntKind.i64.wrap (i + 1)))] (by kernel_rfl) (by kernel_rfl) ?_
          refine reg_end [(0, Value.slice l_.ptr l_.len l_.cap), (3, Value.int .i64 (IntKind.i64.wrap (i + 1)))] (by kernel_rfl) (by kernel_rfl) ?_
          have hb_ := again__h _ _ h
          exact ⟨_, hb_.2, [(0, Value.slice l_.ptr l_.len l_.cap), (3, Value.int .i64 (IntKind.i64.wrap (i + 1)))], Sub.mk (by kernel_rfl), (IntKind.i64.wrap (i + 1)), rfl, hb_.1, rfl⟩
    · replace h := h.2 hb
      refine wpE_exit (id := 0) (by kernel_rfl) ?_
      change WpE _ _ c_towpathref06_Check_39 _ _ _
      refine wpE_seq (x := c_towpathref06_Check_40) (y := c_towpathref06_Check_42) (by kernel_rfl) ?_
      refine wpE_region (id := 8) (ops := r_towpathref06_Check_40) (by kernel_rfl) ?_
      refine reg_run [.plain] 1 [(2, [], Value.int .i64 0)] (by kernel_rfl) (by kernel_rfl) ?_
      refine reg_end [(2, Value.int .i64 0)] (by kernel_rfl) (by kernel_rfl) ?_
      change WpE _ _ c_towpathref06_Check_42 _ _ _
      refine wpE_ret (by kernel_rfl) ?_
      repeat (first | refine seqQ_ret ?_ | refine blockQ_ret ?_ | refine loopQ_ret ?_ | refine cutQ_ret ?_)
      exact retS (rs := [(Go.ResultVar.tmp 2)]) (v := Value.int .i64 0) (by kernel_rfl) (⟨by kernel_rfl, trivial⟩) ⟨0, rfl, h⟩
  · rintro e w' ⟨v, rfl, r0, rfl, h⟩; exact ⟨r0, rfl, h⟩

/-! ### towpath/towpathref06.Own (function 83) -/
noncomputable def c_towpathref06_Own_0 : Code := (Try.f83.body).getD Code.skip
noncomputable def c_towpathref06_Own_1 : Code := Code.l c_towpathref06_Own_0
noncomputable def r_towpathref06_Own_1 : Array Oper := Code.ops c_towpathref06_Own_1
noncomputable def c_towpathref06_Own_3 : Code := Code.r c_towpathref06_Own_0
noncomputable def c_towpathref06_Own_4 : Code := Code.l c_towpathref06_Own_3
noncomputable def r_towpathref06_Own_4 : Array Oper := Code.ops c_towpathref06_Own_4
noncomputable def c_towpathref06_Own_6 : Code := Code.r c_towpathref06_Own_3
noncomputable def c_towpathref06_Own_7 : Code := Code.l c_towpathref06_Own_6
noncomputable def r_towpathref06_Own_7 : Array Oper := Code.ops c_towpathref06_Own_7
noncomputable def c_towpathref06_Own_9 : Code := Code.r c_towpathref06_Own_6
noncomputable def c_towpathref06_Own_10 : Code := Code.l c_towpathref06_Own_9
noncomputable def r_towpathref06_Own_10 : Array Oper := Code.ops c_towpathref06_Own_10
noncomputable def c_towpathref06_Own_12 : Code := Code.r c_towpathref06_Own_9

set_option maxRecDepth 100000 in
set_option maxHeartbeats 4000000 in
theorem S_towpathref06_Own {t_ : T_api_Txn} {w : World} {R : T_api_Txn → World → Prop} (h : F_towpathref06_Own t_ R w) : C_towpathref06_Own t_ w R := by
  unfold F_towpathref06_Own at h
  unfold C_towpathref06_Own
  refine Calls.mono (calls_of_wpE (args := [Value.agg #[Value.int .i64 t_.Number, Value.slice t_.Writes.ptr t_.Writes.len t_.Writes.cap]]) (R := fun v w' => ∃ (r0 : T_api_Txn), v = Value.agg #[Value.int .i64 r0.Number, Value.slice r0.Writes.ptr r0.Writes.len r0.Writes.cap] ∧ R r0 w') Try.func83 (c := c_towpathref06_Own_0) (by kernel_rfl) 12 (by kernel_rfl) (by kernel_rfl) [(0, Value.agg #[Value.int .i64 t_.Number, Value.slice t_.Writes.ptr t_.Writes.len t_.Writes.cap])] (by kernel_rfl) ?_) ?_
  · refine wpE_seq (x := c_towpathref06_Own_1) (y := c_towpathref06_Own_3) (by kernel_rfl) ?_
    refine wpE_region (id := 0) (ops := r_towpathref06_Own_1) (by kernel_rfl) ?_
    refine reg_run [] 0 [(0, [], Value.agg #[Value.int .i64 t_.Number, Value.slice t_.Writes.ptr t_.Writes.len t_.Writes.cap])] (by kernel_rfl) (by kernel_rfl) ?_
    refine reg_new (op := (Go.Op.box 42 (Go.Operand.tmp 0))) (ty := 0) (dst := some 1) (fun bb => Value.pointer (some ⟨bb, 0, none⟩)) (Obj.cells ([Value.int .i64 t_.Number, Value.slice t_.Writes.ptr t_.Writes.len t_.Writes.cap]).toArray ty_api_Txn (0, 0)) (by kernel_rfl) (by kernel_rfl) (fun b_ w1 hb hw => ?_)
    replace h := h b_ w1 hb hw
    clear hb hw
    refine reg_run [] 1 [(1, [], Value.pointer (some ⟨b_, 0, none⟩))] (by kernel_rfl) (by kernel_rfl) ?_
    refine reg_new (op := (Go.Op.alloc 42)) (ty := 0) (dst := some 2) (fun bb => Value.pointer (some ⟨bb, 0, none⟩)) (Obj.cells ([Value.int .i64 0, Value.slice none 0 0]).toArray ty_api_Txn (0, 0)) (by kernel_rfl) (by kernel_rfl) (fun b_1 w2 hb hw => ?_)
    replace h := h b_1 w2 hb hw
    clear hb hw
    refine reg_end [(1, Value.pointer (some ⟨b_, 0, none⟩)), (2, Value.pointer (some ⟨b_1, 0, none⟩))] (by kernel_rfl) (by kernel_rfl) ?_
    change WpE _ _ c_towpathref06_Own_3 _ _ _
    refine wpE_seq (x := c_towpathref06_Own_4) (y := c_towpathref06_Own_6) (by kernel_rfl) ?_
    refine wpE_region (id := 1) (ops := r_towpathref06_Own_4) (by kernel_rfl) ?_
    refine reg_run [.plain] 1 [(1, [], Value.pointer (some ⟨b_, 0, none⟩)), (2, [], Value.pointer (some ⟨b_1, 0, none⟩)), (3, [], Value.slice none 0 0)] (by kernel_rfl) (by kernel_rfl) ?_
    refine reg_end [(1, Value.pointer (some ⟨b_, 0, none⟩)), (2, Value.pointer (some ⟨b_1, 0, none⟩)), (3, Value.slice none 0 0)] (by kernel_rfl) (by kernel_rfl) ?_
    change WpE _ _ c_towpathref06_Own_6 _ _ _
    refine wpE_seq (x := c_towpathref06_Own_7) (y := c_towpathref06_Own_9) (by kernel_rfl) ?_
    refine wpE_region (id := 2) (ops := r_towpathref06_Own_7) (by kernel_rfl) ?_
    refine reg_run [.plain, .plain] 2 [(1, [], Value.pointer (some ⟨b_, 0, none⟩)), (2, [], Value.pointer (some ⟨b_1, 0, none⟩)), (3, [], Value.slice none 0 0), (4, [], Value.slice none 0 0), (5, [], Value.pointer (some ⟨b_, 1, none⟩))] (by kernel_rfl) (by kernel_rfl) ?_
    obtain ⟨v6, hc, h⟩ := h
    refine reg_load1 (t := 40) (a := (Go.Operand.tmp 5)) (b := b_) (o := 1) (ty := 40) (dst := some 6) (by kernel_rfl) (by kernel_rfl) (by kernel_rfl) hc ?_
    refine reg_run [] 3 [(1, [], Value.pointer (some ⟨b_, 0, none⟩)), (2, [], Value.pointer (some ⟨b_1, 0, none⟩)), (3, [], Value.slice none 0 0), (4, [], Value.slice none 0 0), (6, [], Value.slice v6.ptr v6.len v6.cap)] (by kernel_rfl) (by kernel_rfl) ?_
    obtain ⟨src, hs, h⟩ := h
    refine reg_append (t := 40) (tx := 40) (e := 78) (a := (Go.Operand.tmp 4)) (xo := (Go.Operand.tmp 6)) (s := (Slc.mk none 0 0)) (x := v6) (sz := 3) (by_ := 40) (zs := [Value.string ByteArray.empty, Value.string ByteArray.empty, Value.bool false]) (ty := 40) (dst := some 7)  src (by kernel_rfl) (by kernel_rfl) (by kernel_rfl) (by kernel_rfl) (by kernel_rfl) (by kernel_rfl) (by kernel_rfl) (by kernel_rfl) (by kernel_rfl) hs (AppendW.mono h (fun w_ w3 h => ?_))
    refine reg_run [.plain] 5 [(1, [], Value.pointer (some ⟨b_, 0, none⟩)), (2, [], Value.pointer (some ⟨b_1, 0, none⟩)), (3, [], Value.slice w_.ptr w_.len w_.cap)] (by kernel_rfl) (by kernel_rfl) ?_
    refine reg_end [(1, Value.pointer (some ⟨b_, 0, none⟩)), (2, Value.pointer (some ⟨b_1, 0, none⟩)), (3, Value.slice w_.ptr w_.len w_.cap)] (by kernel_rfl) (by kernel_rfl) ?_
    change WpE _ _ c_towpathref06_Own_9 _ _ _
    refine wpE_seq (x := c_towpathref06_Own_10) (y := c_towpathref06_Own_12) (by kernel_rfl) ?_
    refine wpE_region (id := 3) (ops := r_towpathref06_Own_10) (by kernel_rfl) ?_
    refine reg_run [.plain] 1 [(2, [], Value.pointer (some ⟨b_1, 0, none⟩)), (3, [], Value.slice w_.ptr w_.len w_.cap), (8, [], Value.pointer (some ⟨b_, 0, none⟩))] (by kernel_rfl) (by kernel_rfl) ?_
    obtain ⟨v9, hc, h⟩ := h
    refine reg_load1 (t := 3) (a := (Go.Operand.tmp 8)) (b := b_) (o := 0) (ty := 3) (dst := some 9) (by kernel_rfl) (by kernel_rfl) (by kernel_rfl) hc ?_
    refine reg_run [.plain, .plain] 4 [(2, [], Value.pointer (some ⟨b_1, 0, none⟩)), (11, [], Value.agg #[Value.int .i64 v9, Value.slice w_.ptr w_.len w_.cap])] (by kernel_rfl) (by kernel_rfl) ?_
    obtain ⟨hc, h⟩ := h
    refine reg_store (t := 42) (a := (Go.Operand.tmp 2)) (x := (Go.Operand.tmp 11)) (b := b_1) (o := 0) (ty := 0) (dst := none) [Value.int .i64 v9, Value.slice w_.ptr w_.len w_.cap] (by kernel_rfl) (by kernel_rfl) (by kernel_rfl) (k := 2) (by kernel_rfl) (by kernel_rfl) (by kernel_rfl) hc (fun w4 hw => ?_)
    replace h := h w4 hw
    clear hw
    refine reg_end [(2, Value.pointer (some ⟨b_1, 0, none⟩))] (by kernel_rfl) (by kernel_rfl) ?_
    change WpE _ _ c_towpathref06_Own_12 _ _ _
    refine wpE_ret (by kernel_rfl) ?_
    obtain ⟨res, hc_res, h⟩ := h
    repeat (first | refine seqQ_ret ?_ | refine blockQ_ret ?_ | refine loopQ_ret ?_ | refine cutQ_ret ?_)
    exact retS (rs := [(Go.ResultVar.cell 2 42)]) (v := Value.agg #[Value.int .i64 res.Number, Value.slice res.Writes.ptr res.Writes.len res.Writes.cap]) (by kernel_rfl) (⟨b_1, 0, [Value.int .i64 res.Number, Value.slice res.Writes.ptr res.Writes.len res.Writes.cap], by kernel_rfl, hc_res, (sizeP_of (k := 2) (by kernel_rfl) (by kernel_rfl)), .inl ⟨by kernel_rfl, rfl⟩, trivial⟩) ⟨res, rfl, h⟩
  · rintro e w' ⟨v, rfl, r0, rfl, h⟩; exact ⟨r0, rfl, h⟩

/-! ### (*towpath/towpathref06.Source).Last (function 84) -/
noncomputable def c_towpathref06_Source_Last_0 : Code := (Try.f84.body).getD Code.skip
noncomputable def c_towpathref06_Source_Last_1 : Code := Code.l c_towpathref06_Source_Last_0
noncomputable def r_towpathref06_Source_Last_1 : Array Oper := Code.ops c_towpathref06_Source_Last_1
noncomputable def c_towpathref06_Source_Last_3 : Code := Code.r c_towpathref06_Source_Last_0
noncomputable def c_towpathref06_Source_Last_4 : Code := Code.l c_towpathref06_Source_Last_3
noncomputable def c_towpathref06_Source_Last_5 : Code := Code.l c_towpathref06_Source_Last_4
noncomputable def r_towpathref06_Source_Last_5 : Array Oper := Code.ops c_towpathref06_Source_Last_5
noncomputable def c_towpathref06_Source_Last_7 : Code := Code.r c_towpathref06_Source_Last_4
noncomputable def c_towpathref06_Source_Last_8 : Code := Code.l c_towpathref06_Source_Last_7
noncomputable def c_towpathref06_Source_Last_9 : Code := Code.l c_towpathref06_Source_Last_8
noncomputable def r_towpathref06_Source_Last_9 : Array Oper := Code.ops c_towpathref06_Source_Last_9
noncomputable def c_towpathref06_Source_Last_11 : Code := Code.r c_towpathref06_Source_Last_8
noncomputable def c_towpathref06_Source_Last_12 : Code := Code.r c_towpathref06_Source_Last_7
noncomputable def c_towpathref06_Source_Last_13 : Code := Code.r c_towpathref06_Source_Last_3
noncomputable def c_towpathref06_Source_Last_14 : Code := Code.l c_towpathref06_Source_Last_13
noncomputable def r_towpathref06_Source_Last_14 : Array Oper := Code.ops c_towpathref06_Source_Last_14
noncomputable def c_towpathref06_Source_Last_16 : Code := Code.r c_towpathref06_Source_Last_13

set_option maxRecDepth 100000 in
set_option maxHeartbeats 4000000 in
theorem S_towpathref06_Source_Last {s : Option Addr} {w : World} {R : Int → World → Prop} (h : F_towpathref06_Source_Last s R w) : C_towpathref06_Source_Last s w R := by
  unfold F_towpathref06_Source_Last at h
  unfold C_towpathref06_Source_Last
  refine Calls.mono (calls_of_wpE (args := [Value.pointer s]) (R := fun v w' => ∃ (r0 : Int), v = Value.int .i64 r0 ∧ R r0 w') Try.func84 (c := c_towpathref06_Source_Last_0) (by kernel_rfl) 10 (by kernel_rfl) (by kernel_rfl) [(0, Value.pointer s)] (by kernel_rfl) ?_) ?_
  · refine wpE_seq (x := c_towpathref06_Source_Last_1) (y := c_towpathref06_Source_Last_3) (by kernel_rfl) ?_
    refine wpE_region (id := 0) (ops := r_towpathref06_Source_Last_1) (by kernel_rfl) ?_
    refine reg_run [.plain] 1 [(0, [], Value.pointer s)] (by kernel_rfl) (by kernel_rfl) ?_
    refine reg_end [(0, Value.pointer s)] (by kernel_rfl) (by kernel_rfl) ?_
    change WpE _ _ c_towpathref06_Source_Last_3 _ _ _
    refine wpE_seq (x := c_towpathref06_Source_Last_4) (y := c_towpathref06_Source_Last_13) (by kernel_rfl) ?_
    refine wpE_seq (x := c_towpathref06_Source_Last_5) (y := c_towpathref06_Source_Last_7) (by kernel_rfl) ?_
    refine wpE_region (id := 1) (ops := r_towpathref06_Source_Last_5) (by kernel_rfl) ?_
    refine reg_run [.plain] 1 [(0, [], Value.pointer s), (3, [], Value.pointer s)] (by kernel_rfl) (by kernel_rfl) ?_
    refine reg_val (op := (Go.Op.binOp Go.BinOp.eql 107 (Go.Operand.tmp 3) (Go.Operand.const (Go.Value.pointer none)) 107)) (ty := 4) (dst := some 4) (Value.bool s.isNone) (by kernel_rfl) (fun ww => run_ptr_eql_R (p := s) (by kernel_rfl) (by kernel_rfl) (by kernel_rfl) ww) ?_
    refine reg_end [(0, Value.pointer s), (4, Value.bool s.isNone)] (by kernel_rfl) (by kernel_rfl) ?_
    change WpE _ _ c_towpathref06_Source_Last_7 _ _ _
    refine wpE_cond (o := (Operand.tmp 4)) (b := s.isNone) (x := c_towpathref06_Source_Last_8) (y := c_towpathref06_Source_Last_12) (by kernel_rfl) (by kernel_rfl) (fun hb => ?_) (fun hb => ?_)
    · replace h := h.1 hb
      refine wpE_seq (x := c_towpathref06_Source_Last_9) (y := c_towpathref06_Source_Last_11) (by kernel_rfl) ?_
      refine wpE_region (id := 2) (ops := r_towpathref06_Source_Last_9) (by kernel_rfl) ?_
      refine reg_run [.plain] 1 [(2, [], Value.int .i64 0)] (by kernel_rfl) (by kernel_rfl) ?_
      refine reg_end [(2, Value.int .i64 0)] (by kernel_rfl) (by kernel_rfl) ?_
      change WpE _ _ c_towpathref06_Source_Last_11 _ _ _
      refine wpE_ret (by kernel_rfl) ?_
      repeat (first | refine seqQ_ret ?_ | refine blockQ_ret ?_ | refine loopQ_ret ?_ | refine cutQ_ret ?_)
      exact retS (rs := [(Go.ResultVar.tmp 2)]) (v := Value.int .i64 0) (by kernel_rfl) (⟨by kernel_rfl, trivial⟩) ⟨0, rfl, h⟩
    · replace h := h.2 hb
      refine wpE_skip (by kernel_rfl) ?_
      change WpE _ _ c_towpathref06_Source_Last_13 _ _ _
      refine wpE_seq (x := c_towpathref06_Source_Last_14) (y := c_towpathref06_Source_Last_16) (by kernel_rfl) ?_
      refine wpE_region (id := 3) (ops := r_towpathref06_Source_Last_14) (by kernel_rfl) ?_
      refine reg_run [.plain] 1 [(5, [], Value.pointer s)] (by kernel_rfl) (by kernel_rfl) ?_
      obtain ⟨hp_0, h⟩ := h
      refine reg_conv [(5, [], Value.pointer (some ⟨(pblk s), (poff s), none⟩))] (congrArg (fun pp => ([(5, [], Value.pointer pp)] : GEnv)) hp_0) ?_
      refine reg_run [.plain] 2 [(5, [], Value.pointer (some ⟨(pblk s), (poff s), none⟩)), (6, [], Value.pointer (some ⟨(pblk s), (poff s), none⟩))] (by kernel_rfl) (by kernel_rfl) ?_
      refine reg_run [.plain] 3 [(7, [], Value.pointer (some ⟨(pblk s), (poff s), none⟩))] (by kernel_rfl) (by kernel_rfl) ?_
      obtain ⟨v8, hc, h⟩ := h
      refine reg_load1 (t := 22) (a := (Go.Operand.tmp 7)) (b := (pblk s)) (o := (poff s)) (ty := 22) (dst := some 8) (by kernel_rfl) (by kernel_rfl) (by kernel_rfl) hc ?_
      refine reg_run [.plain, .plain] 6 [(2, [], Value.int .i64 ((v8.len : Nat) : Int))] (by kernel_rfl) (by kernel_rfl) ?_
      refine reg_end [(2, Value.int .i64 ((v8.len : Nat) : Int))] (by kernel_rfl) (by kernel_rfl) ?_
      change WpE _ _ c_towpathref06_Source_Last_16 _ _ _
      refine wpE_ret (by kernel_rfl) ?_
      repeat (first | refine seqQ_ret ?_ | refine blockQ_ret ?_ | refine loopQ_ret ?_ | refine cutQ_ret ?_)
      exact retS (rs := [(Go.ResultVar.tmp 2)]) (v := Value.int .i64 ((v8.len : Nat) : Int)) (by kernel_rfl) (⟨by kernel_rfl, trivial⟩) ⟨((v8.len : Nat) : Int), rfl, h⟩
  · rintro e w' ⟨v, rfl, r0, rfl, h⟩; exact ⟨r0, rfl, h⟩

/-! ### (*towpath/towpathref06.Source).Get (function 87) -/
noncomputable def c_towpathref06_Source_Get_0 : Code := (Try.f87.body).getD Code.skip
noncomputable def c_towpathref06_Source_Get_1 : Code := Code.l c_towpathref06_Source_Get_0
noncomputable def r_towpathref06_Source_Get_1 : Array Oper := Code.ops c_towpathref06_Source_Get_1
noncomputable def c_towpathref06_Source_Get_3 : Code := Code.r c_towpathref06_Source_Get_0
noncomputable def c_towpathref06_Source_Get_4 : Code := Code.l c_towpathref06_Source_Get_3
noncomputable def c_towpathref06_Source_Get_5 : Code := Code.l c_towpathref06_Source_Get_4
noncomputable def r_towpathref06_Source_Get_5 : Array Oper := Code.ops c_towpathref06_Source_Get_5
noncomputable def c_towpathref06_Source_Get_7 : Code := Code.r c_towpathref06_Source_Get_4
noncomputable def c_towpathref06_Source_Get_8 : Code := Code.l c_towpathref06_Source_Get_7
noncomputable def c_towpathref06_Source_Get_9 : Code := Code.l c_towpathref06_Source_Get_8
noncomputable def r_towpathref06_Source_Get_9 : Array Oper := Code.ops c_towpathref06_Source_Get_9
noncomputable def c_towpathref06_Source_Get_11 : Code := Code.r c_towpathref06_Source_Get_8
noncomputable def c_towpathref06_Source_Get_12 : Code := Code.r c_towpathref06_Source_Get_7
noncomputable def c_towpathref06_Source_Get_13 : Code := Code.r c_towpathref06_Source_Get_3
noncomputable def c_towpathref06_Source_Get_14 : Code := Code.l c_towpathref06_Source_Get_13
noncomputable def c_towpathref06_Source_Get_15 : Code := Code.l c_towpathref06_Source_Get_14
noncomputable def r_towpathref06_Source_Get_15 : Array Oper := Code.ops c_towpathref06_Source_Get_15
noncomputable def c_towpathref06_Source_Get_17 : Code := Code.r c_towpathref06_Source_Get_14
noncomputable def c_towpathref06_Source_Get_18 : Code := Code.l c_towpathref06_Source_Get_17
noncomputable def c_towpathref06_Source_Get_19 : Code := Code.l c_towpathref06_Source_Get_18
noncomputable def r_towpathref06_Source_Get_19 : Array Oper := Code.ops c_towpathref06_Source_Get_19
noncomputable def c_towpathref06_Source_Get_21 : Code := Code.r c_towpathref06_Source_Get_18
noncomputable def c_towpathref06_Source_Get_22 : Code := Code.r c_towpathref06_Source_Get_17
noncomputable def c_towpathref06_Source_Get_23 : Code := Code.r c_towpathref06_Source_Get_13
noncomputable def c_towpathref06_Source_Get_24 : Code := Code.l c_towpathref06_Source_Get_23
noncomputable def r_towpathref06_Source_Get_24 : Array Oper := Code.ops c_towpathref06_Source_Get_24
noncomputable def c_towpathref06_Source_Get_26 : Code := Code.r c_towpathref06_Source_Get_23
noncomputable def c_towpathref06_Source_Get_27 : Code := Code.l c_towpathref06_Source_Get_26
noncomputable def r_towpathref06_Source_Get_27 : Array Oper := Code.ops c_towpathref06_Source_Get_27
noncomputable def c_towpathref06_Source_Get_29 : Code := Code.r c_towpathref06_Source_Get_26

set_option maxRecDepth 100000 in
set_option maxHeartbeats 4000000 in
theorem S_towpathref06_Source_Get {s : Option Addr} {number : Int} {w : World} {R : T_api_Txn → Int → World → Prop} (h : F_towpathref06_Source_Get s number R w) : C_towpathref06_Source_Get s number w R := by
  unfold F_towpathref06_Source_Get at h
  unfold C_towpathref06_Source_Get
  refine Calls.mono (calls_of_wpE (args := [Value.pointer s, Value.int .i64 number]) (R := fun v w' => ∃ (r0 : T_api_Txn) (r1 : Int), v = Value.tuple #[Value.agg #[Value.int .i64 r0.Number, Value.slice r0.Writes.ptr r0.Writes.len r0.Writes.cap], Value.int .i64 r1] ∧ R r0 r1 w') Try.func87 (c := c_towpathref06_Source_Get_0) (by kernel_rfl) 40 (by kernel_rfl) (by kernel_rfl) [(0, Value.pointer s), (1, Value.int .i64 number)] (by kernel_rfl) ?_) ?_
  · refine wpE_seq (x := c_towpathref06_Source_Get_1) (y := c_towpathref06_Source_Get_3) (by kernel_rfl) ?_
    refine wpE_region (id := 0) (ops := r_towpathref06_Source_Get_1) (by kernel_rfl) ?_
    refine reg_run [] 0 [(0, [], Value.pointer s), (1, [], Value.int .i64 number)] (by kernel_rfl) (by kernel_rfl) ?_
    refine reg_new (op := (Go.Op.alloc 42)) (ty := 0) (dst := some 4) (fun bb => Value.pointer (some ⟨bb, 0, none⟩)) (Obj.cells ([Value.int .i64 0, Value.slice none 0 0]).toArray ty_api_Txn (0, 0)) (by kernel_rfl) (by kernel_rfl) (fun b_ w1 hb hw => ?_)
    replace h := h b_ w1 hb hw
    clear hb hw
    refine reg_run [.plain] 2 [(0, [], Value.pointer s), (1, [], Value.int .i64 number), (4, [], Value.pointer (some ⟨b_, 0, none⟩))] (by kernel_rfl) (by kernel_rfl) ?_
    refine reg_end [(0, Value.pointer s), (1, Value.int .i64 number), (4, Value.pointer (some ⟨b_, 0, none⟩))] (by kernel_rfl) (by kernel_rfl) ?_
    change WpE _ _ c_towpathref06_Source_Get_3 _ _ _
    refine wpE_seq (x := c_towpathref06_Source_Get_4) (y := c_towpathref06_Source_Get_13) (by kernel_rfl) ?_
    refine wpE_seq (x := c_towpathref06_Source_Get_5) (y := c_towpathref06_Source_Get_7) (by kernel_rfl) ?_
    refine wpE_region (id := 1) (ops := r_towpathref06_Source_Get_5) (by kernel_rfl) ?_
    refine reg_run [.plain] 1 [(0, [], Value.pointer s), (1, [], Value.int .i64 number), (4, [], Value.pointer (some ⟨b_, 0, none⟩)), (6, [], Value.pointer s)] (by kernel_rfl) (by kernel_rfl) ?_
    refine reg_val (op := (Go.Op.binOp Go.BinOp.eql 107 (Go.Operand.tmp 6) (Go.Operand.const (Go.Value.pointer none)) 107)) (ty := 4) (dst := some 7) (Value.bool s.isNone) (by kernel_rfl) (fun ww => run_ptr_eql_R (p := s) (by kernel_rfl) (by kernel_rfl) (by kernel_rfl) ww) ?_
    refine reg_end [(0, Value.pointer s), (1, Value.int .i64 number), (4, Value.pointer (some ⟨b_, 0, none⟩)), (7, Value.bool s.isNone)] (by kernel_rfl) (by kernel_rfl) ?_
    change WpE _ _ c_towpathref06_Source_Get_7 _ _ _
    refine wpE_cond (o := (Operand.tmp 7)) (b := s.isNone) (x := c_towpathref06_Source_Get_8) (y := c_towpathref06_Source_Get_12) (by kernel_rfl) (by kernel_rfl) (fun hb => ?_) (fun hb => ?_)
    · replace h := h.1 hb
      refine wpE_seq (x := c_towpathref06_Source_Get_9) (y := c_towpathref06_Source_Get_11) (by kernel_rfl) ?_
      refine wpE_region (id := 2) (ops := r_towpathref06_Source_Get_9) (by kernel_rfl) ?_
      refine reg_run [.plain] 1 [(4, [], Value.pointer (some ⟨b_, 0, none⟩)), (8, [], Value.agg #[Value.int .i64 0, Value.slice none 0 0])] (by kernel_rfl) (by kernel_rfl) ?_
      obtain ⟨hc, h⟩ := h
      refine reg_store (t := 42) (a := (Go.Operand.tmp 4)) (x := (Go.Operand.tmp 8)) (b := b_) (o := 0) (ty := 0) (dst := none) [Value.int .i64 0, Value.slice none 0 0] (by kernel_rfl) (by kernel_rfl) (by kernel_rfl) (k := 2) (by kernel_rfl) (by kernel_rfl) (by kernel_rfl) hc (fun w2 hw => ?_)
      replace h := h w2 hw
      clear hw
      refine reg_run [.plain] 3 [(4, [], Value.pointer (some ⟨b_, 0, none⟩)), (5, [], Value.int .i64 2)] (by kernel_rfl) (by kernel_rfl) ?_
      refine reg_end [(4, Value.pointer (some ⟨b_, 0, none⟩)), (5, Value.int .i64 2)] (by kernel_rfl) (by kernel_rfl) ?_
      change WpE _ _ c_towpathref06_Source_Get_11 _ _ _
      refine wpE_ret (by kernel_rfl) ?_
      obtain ⟨res, hc_res, h⟩ := h
      repeat (first | refine seqQ_ret ?_ | refine blockQ_ret ?_ | refine loopQ_ret ?_ | refine cutQ_ret ?_)
      exact retT (rs := [(Go.ResultVar.cell 4 42), (Go.ResultVar.tmp 5)]) (vs := [Value.agg #[Value.int .i64 res.Number, Value.slice res.Writes.ptr res.Writes.len res.Writes.cap], Value.int .i64 2]) (by kernel_rfl) (⟨b_, 0, [Value.int .i64 res.Number, Value.slice res.Writes.ptr res.Writes.len res.Writes.cap], by kernel_rfl, hc_res, (sizeP_of (k := 2) (by kernel_rfl) (by kernel_rfl)), .inl ⟨by kernel_rfl, rfl⟩, ⟨by kernel_rfl, trivial⟩⟩) (by kernel_rfl) ⟨res, 2, rfl, h⟩
    · replace h := h.2 hb
      refine wpE_skip (by kernel_rfl) ?_
      change WpE _ _ c_towpathref06_Source_Get_13 _ _ _
      refine wpE_seq (x := c_towpathref06_Source_Get_14) (y := c_towpathref06_Source_Get_23) (by kernel_rfl) ?_
      refine wpE_seq_cut (x := c_towpathref06_Source_Get_15) (y := c_towpathref06_Source_Get_17) (by kernel_rfl) (fun l w => ∃ (t19 : Bool), l = [(0, Value.pointer s), (1, Value.int .i64 number), (4, Value.pointer (some ⟨b_, 0, none⟩)), (19, Value.bool t19)] ∧ F_towpathref06_Source_Get_k0 s number R b_ t19 w) ?_ ?_
      · refine wpE_region (id := 3) (ops := r_towpathref06_Source_Get_15) (by kernel_rfl) ?_
        refine reg_run [.plain, .plain, .plain, .plain, .plain] 5 [(0, [], Value.pointer s), (1, [], Value.int .i64 number), (4, [], Value.pointer (some ⟨b_, 0, none⟩)), (11, [], Value.bool (decide (number < 1))), (12, [(11, false)], Value.int .i64 number), (13, [(11, false)], Value.pointer s)] (by kernel_rfl) (by kernel_rfl) ?_
        refine reg_split 11 (decide (number < 1)) (by kernel_rfl) (fun hb => ?_) (fun hb => ?_)
        · replace h := h.1 hb
          refine reg_run [] 5 [(0, [], Value.pointer s), (1, [], Value.int .i64 number), (4, [], Value.pointer (some ⟨b_, 0, none⟩)), (11, [], Value.bool true), (12, [], undef), (13, [], undef)] (by kernel_rfl) (by kernel_rfl) ?_
          refine reg_run [.skip, .skip, .skip, .skip, .skip, .plain] 11 [(0, [], Value.pointer s), (1, [], Value.int .i64 number), (4, [], Value.pointer (some ⟨b_, 0, none⟩)), (19, [], Value.bool true)] (by kernel_rfl) (by kernel_rfl) ?_
          refine reg_end [(0, Value.pointer s), (1, Value.int .i64 number), (4, Value.pointer (some ⟨b_, 0, none⟩)), (19, Value.bool true)] (by kernel_rfl) (by kernel_rfl) ?_
          exact ⟨[(0, Value.pointer s), (1, Value.int .i64 number), (4, Value.pointer (some ⟨b_, 0, none⟩)), (19, Value.bool true)], Sub.mk (by kernel_rfl), true, rfl, h⟩
        · replace h := h.2 hb
          refine reg_run [] 5 [(0, [], Value.pointer s), (1, [], Value.int .i64 number), (4, [], Value.pointer (some ⟨b_, 0, none⟩)), (11, [], Value.bool false), (12, [], Value.int .i64 number), (13, [], Value.pointer s)] (by kernel_rfl) (by kernel_rfl) ?_
          refine reg_run [] 5 [(0, [], Value.pointer s), (1, [], Value.int .i64 number), (4, [], Value.pointer (some ⟨b_, 0, none⟩)), (11, [], Value.bool false), (12, [], Value.int .i64 number), (13, [], Value.pointer s)] (by kernel_rfl) (by kernel_rfl) ?_
          obtain ⟨hp_9, h⟩ := h
          refine reg_conv [(0, [], Value.pointer s), (1, [], Value.int .i64 number), (4, [], Value.pointer (some ⟨b_, 0, none⟩)), (11, [], Value.bool false), (12, [], Value.int .i64 number), (13, [], Value.pointer (some ⟨(pblk s), (poff s), none⟩))] (congrArg (fun pp => ([(0, [], Value.pointer s), (1, [], Value.int .i64 number), (4, [], Value.pointer (some ⟨b_, 0, none⟩)), (11, [], Value.bool false), (12, [], Value.int .i64 number), (13, [], Value.pointer pp)] : GEnv)) hp_9) ?_
          refine reg_run [.sure] 6 [(0, [], Value.pointer s), (1, [], Value.int .i64 number), (4, [], Value.pointer (some ⟨b_, 0, none⟩)), (11, [], Value.bool false), (12, [], Value.int .i64 number), (13, [], Value.pointer (some ⟨(pblk s), (poff s), none⟩)), (14, [], Value.pointer (some ⟨(pblk s), (poff s), none⟩))] (by kernel_rfl) (by kernel_rfl) ?_
          refine reg_run [.sure] 7 [(0, [], Value.pointer s), (1, [], Value.int .i64 number), (4, [], Value.pointer (some ⟨b_, 0, none⟩)), (11, [], Value.bool false), (12, [], Value.int .i64 number), (15, [], Value.pointer (some ⟨(pblk s), (poff s), none⟩))] (by kernel_rfl) (by kernel_rfl) ?_
          obtain ⟨v16, hc, h⟩ := h
          refine reg_load1 (t := 22) (a := (Go.Operand.tmp 15)) (b := (pblk s)) (o := (poff s)) (ty := 22) (dst := some 16) (by kernel_rfl) (by kernel_rfl) (by kernel_rfl) hc ?_
          refine reg_run [.sure, .sure, .plain] 11 [(0, [], Value.pointer s), (1, [], Value.int .i64 number), (4, [], Value.pointer (some ⟨b_, 0, none⟩)), (19, [], Value.bool (decide (number > ((v16.len : Nat) : Int))))] (by kernel_rfl) (by kernel_rfl) ?_
          refine reg_end [(0, Value.pointer s), (1, Value.int .i64 number), (4, Value.pointer (some ⟨b_, 0, none⟩)), (19, Value.bool (decide (number > ((v16.len : Nat) : Int))))] (by kernel_rfl) (by kernel_rfl) ?_
          exact ⟨[(0, Value.pointer s), (1, Value.int .i64 number), (4, Value.pointer (some ⟨b_, 0, none⟩)), (19, Value.bool (decide (number > ((v16.len : Nat) : Int))))], Sub.mk (by kernel_rfl), (decide (number > ((v16.len : Nat) : Int))), rfl, h⟩
      · rintro _ w3 ⟨t19, rfl, h⟩
        unfold F_towpathref06_Source_Get_k0 at h
        refine wpE_cond (o := (Operand.tmp 19)) (b := t19) (x := c_towpathref06_Source_Get_18) (y := c_towpathref06_Source_Get_22) (by kernel_rfl) (by kernel_rfl) (fun hb => ?_) (fun hb => ?_)
        · replace h := h.1 hb
          refine wpE_seq (x := c_towpathref06_Source_Get_19) (y := c_towpathref06_Source_Get_21) (by kernel_rfl) ?_
          refine wpE_region (id := 4) (ops := r_towpathref06_Source_Get_19) (by kernel_rfl) ?_
          refine reg_run [.plain] 1 [(4, [], Value.pointer (some ⟨b_, 0, none⟩)), (20, [], Value.agg #[Value.int .i64 0, Value.slice none 0 0])] (by kernel_rfl) (by kernel_rfl) ?_
          obtain ⟨hc, h⟩ := h
          refine reg_store (t := 42) (a := (Go.Operand.tmp 4)) (x := (Go.Operand.tmp 20)) (b := b_) (o := 0) (ty := 0) (dst := none) [Value.int .i64 0, Value.slice none 0 0] (by kernel_rfl) (by kernel_rfl) (by kernel_rfl) (k := 2) (by kernel_rfl) (by kernel_rfl) (by kernel_rfl) hc (fun w4 hw => ?_)
          replace h := h w4 hw
          clear hw
          refine reg_run [.plain] 3 [(4, [], Value.pointer (some ⟨b_, 0, none⟩)), (5, [], Value.int .i64 1)] (by kernel_rfl) (by kernel_rfl) ?_
          refine reg_end [(4, Value.pointer (some ⟨b_, 0, none⟩)), (5, Value.int .i64 1)] (by kernel_rfl) (by kernel_rfl) ?_
          change WpE _ _ c_towpathref06_Source_Get_21 _ _ _
          refine wpE_ret (by kernel_rfl) ?_
          obtain ⟨res1, hc_res1, h⟩ := h
          repeat (first | refine seqQ_ret ?_ | refine blockQ_ret ?_ | refine loopQ_ret ?_ | refine cutQ_ret ?_)
          exact retT (rs := [(Go.ResultVar.cell 4 42), (Go.ResultVar.tmp 5)]) (vs := [Value.agg #[Value.int .i64 res1.Number, Value.slice res1.Writes.ptr res1.Writes.len res1.Writes.cap], Value.int .i64 1]) (by kernel_rfl) (⟨b_, 0, [Value.int .i64 res1.Number, Value.slice res1.Writes.ptr res1.Writes.len res1.Writes.cap], by kernel_rfl, hc_res1, (sizeP_of (k := 2) (by kernel_rfl) (by kernel_rfl)), .inl ⟨by kernel_rfl, rfl⟩, ⟨by kernel_rfl, trivial⟩⟩) (by kernel_rfl) ⟨res1, 1, rfl, h⟩
        · replace h := h.2 hb
          refine wpE_skip (by kernel_rfl) ?_
          change WpE _ _ c_towpathref06_Source_Get_23 _ _ _
          refine wpE_seq (x := c_towpathref06_Source_Get_24) (y := c_towpathref06_Source_Get_26) (by kernel_rfl) ?_
          refine wpE_region (id := 5) (ops := r_towpathref06_Source_Get_24) (by kernel_rfl) ?_
          refine reg_run [.plain, .plain] 2 [(0, [], Value.pointer s), (1, [], Value.int .i64 number), (4, [], Value.pointer (some ⟨b_, 0, none⟩)), (21, [], Value.pointer s), (22, [], Value.pointer s)] (by kernel_rfl) (by kernel_rfl) ?_
          obtain ⟨hp_5, h⟩ := h
          refine reg_conv [(0, [], Value.pointer s), (1, [], Value.int .i64 number), (4, [], Value.pointer (some ⟨b_, 0, none⟩)), (21, [], Value.pointer s), (22, [], Value.pointer (some ⟨(pblk s), (poff s), none⟩))] (congrArg (fun pp => ([(0, [], Value.pointer s), (1, [], Value.int .i64 number), (4, [], Value.pointer (some ⟨b_, 0, none⟩)), (21, [], Value.pointer s), (22, [], Value.pointer pp)] : GEnv)) hp_5) ?_
          refine reg_run [.plain] 3 [(0, [], Value.pointer s), (1, [], Value.int .i64 number), (4, [], Value.pointer (some ⟨b_, 0, none⟩)), (21, [], Value.pointer s), (22, [], Value.pointer (some ⟨(pblk s), (poff s), none⟩)), (23, [], Value.pointer (some ⟨(pblk s), (poff s), none⟩))] (by kernel_rfl) (by kernel_rfl) ?_
          refine reg_run [.plain] 4 [(0, [], Value.pointer s), (1, [], Value.int .i64 number), (4, [], Value.pointer (some ⟨b_, 0, none⟩)), (21, [], Value.pointer s), (24, [], Value.pointer (some ⟨(pblk s), (poff s) + 1, none⟩))] (by kernel_rfl) (by kernel_rfl) ?_
          obtain ⟨v25, hc, h⟩ := h
          refine reg_load1 (t := 23) (a := (Go.Operand.tmp 24)) (b := (pblk s)) (o := ((poff s) + 1)) (ty := 23) (dst := some 25) (by kernel_rfl) (by kernel_rfl) (by kernel_rfl) hc ?_
          refine reg_run [.plain] 6 [(0, [], Value.pointer s), (1, [], Value.int .i64 number), (4, [], Value.pointer (some ⟨b_, 0, none⟩)), (21, [], Value.pointer s), (25, [], Value.slice v25.ptr v25.len v25.cap), (26, [], Value.int .i64 number)] (by kernel_rfl) (by kernel_rfl) ?_
          refine reg_new (op := (Go.Op.buildSlice 23 1 #[(0, (Go.Operand.tmp 26))])) (ty := 23) (dst := some 27) (fun bb => Value.slice (some ⟨bb, 0, none⟩) 1 1) (Obj.cells ([Value.int .i64 number]).toArray ty_int (0, 0)) (by kernel_rfl) (by kernel_rfl) (fun b_1 w5 hb hw => ?_)
          replace h := h b_1 w5 hb hw
          clear hb hw
          refine reg_run [] 7 [(0, [], Value.pointer s), (1, [], Value.int .i64 number), (4, [], Value.pointer (some ⟨b_, 0, none⟩)), (21, [], Value.pointer s), (25, [], Value.slice v25.ptr v25.len v25.cap), (27, [], Value.slice (some ⟨b_1, 0, none⟩) 1 1)] (by kernel_rfl) (by kernel_rfl) ?_
          obtain ⟨src, hs, h⟩ := h
          refine reg_append (t := 23) (tx := 23) (e := 3) (a := (Go.Operand.tmp 25)) (xo := (Go.Operand.tmp 27)) (s := v25) (x := (Slc.mk (some ⟨b_1, 0, none⟩) 1 1)) (sz := 1) (by_ := 8) (zs := [Value.int .i64 0]) (ty := 23) (dst := some 28)  src (by kernel_rfl) (by kernel_rfl) (by kernel_rfl) (by kernel_rfl) (by kernel_rfl) (by kernel_rfl) (by kernel_rfl) (by kernel_rfl) (by kernel_rfl) hs (AppendW.mono h (fun v28 w6 h => ?_))
          refine reg_run [] 8 [(0, [], Value.pointer s), (1, [], Value.int .i64 number), (4, [], Value.pointer (some ⟨b_, 0, none⟩)), (21, [], Value.pointer s), (28, [], Value.slice v28.ptr v28.len v28.cap)] (by kernel_rfl) (by kernel_rfl) ?_
          obtain ⟨hp_6, h⟩ := h
          refine reg_conv [(0, [], Value.pointer s), (1, [], Value.int .i64 number), (4, [], Value.pointer (some ⟨b_, 0, none⟩)), (21, [], Value.pointer (some ⟨(pblk s), (poff s), none⟩)), (28, [], Value.slice v28.ptr v28.len v28.cap)] (congrArg (fun pp => ([(0, [], Value.pointer s), (1, [], Value.int .i64 number), (4, [], Value.pointer (some ⟨b_, 0, none⟩)), (21, [], Value.pointer pp), (28, [], Value.slice v28.ptr v28.len v28.cap)] : GEnv)) hp_6) ?_
          refine reg_run [.plain] 9 [(0, [], Value.pointer s), (1, [], Value.int .i64 number), (4, [], Value.pointer (some ⟨b_, 0, none⟩)), (21, [], Value.pointer (some ⟨(pblk s), (poff s), none⟩)), (28, [], Value.slice v28.ptr v28.len v28.cap), (29, [], Value.pointer (some ⟨(pblk s), (poff s), none⟩))] (by kernel_rfl) (by kernel_rfl) ?_
          refine reg_run [.plain] 10 [(0, [], Value.pointer s), (1, [], Value.int .i64 number), (4, [], Value.pointer (some ⟨b_, 0, none⟩)), (28, [], Value.slice v28.ptr v28.len v28.cap), (30, [], Value.pointer (some ⟨(pblk s), (poff s) + 1, none⟩))] (by kernel_rfl) (by kernel_rfl) ?_
          obtain ⟨hc, h⟩ := h
          refine reg_store (t := 23) (a := (Go.Operand.tmp 30)) (x := (Go.Operand.tmp 28)) (b := (pblk s)) (o := ((poff s) + 1)) (ty := 0) (dst := none) [Value.slice v28.ptr v28.len v28.cap] (by kernel_rfl) (by kernel_rfl) (by kernel_rfl) (k := 1) (by kernel_rfl) (by kernel_rfl) (by kernel_rfl) hc (fun w7 hw => ?_)
          replace h := h w7 hw
          clear hw
          refine reg_end [(0, Value.pointer s), (1, Value.int .i64 number), (4, Value.pointer (some ⟨b_, 0, none⟩))] (by kernel_rfl) (by kernel_rfl) ?_
          change WpE _ _ c_towpathref06_Source_Get_26 _ _ _
          refine wpE_seq (x := c_towpathref06_Source_Get_27) (y := c_towpathref06_Source_Get_29) (by kernel_rfl) ?_
          refine wpE_region (id := 6) (ops := r_towpathref06_Source_Get_27) (by kernel_rfl) ?_
          refine reg_run [.plain] 1 [(1, [], Value.int .i64 number), (4, [], Value.pointer (some ⟨b_, 0, none⟩)), (31, [], Value.pointer s)] (by kernel_rfl) (by kernel_rfl) ?_
          obtain ⟨hp_7, h⟩ := h
          refine reg_conv [(1, [], Value.int .i64 number), (4, [], Value.pointer (some ⟨b_, 0, none⟩)), (31, [], Value.pointer (some ⟨(pblk s), (poff s), none⟩))] (congrArg (fun pp => ([(1, [], Value.int .i64 number), (4, [], Value.pointer (some ⟨b_, 0, none⟩)), (31, [], Value.pointer pp)] : GEnv)) hp_7) ?_
          refine reg_run [.plain] 2 [(1, [], Value.int .i64 number), (4, [], Value.pointer (some ⟨b_, 0, none⟩)), (31, [], Value.pointer (some ⟨(pblk s), (poff s), none⟩)), (32, [], Value.pointer (some ⟨(pblk s), (poff s), none⟩))] (by kernel_rfl) (by kernel_rfl) ?_
          refine reg_run [.plain] 3 [(1, [], Value.int .i64 number), (4, [], Value.pointer (some ⟨b_, 0, none⟩)), (33, [], Value.pointer (some ⟨(pblk s), (poff s), none⟩))] (by kernel_rfl) (by kernel_rfl) ?_
          obtain ⟨v34, hc, h⟩ := h
          refine reg_load1 (t := 22) (a := (Go.Operand.tmp 33)) (b := (pblk s)) (o := (poff s)) (ty := 22) (dst := some 34) (by kernel_rfl) (by kernel_rfl) (by kernel_rfl) hc ?_
          refine reg_run [.plain, .plain] 6 [(4, [], Value.pointer (some ⟨b_, 0, none⟩)), (34, [], Value.slice v34.ptr v34.len v34.cap), (36, [], Value.int .i64 (IntKind.i64.wrap (number - 1)))] (by kernel_rfl) (by kernel_rfl) ?_
          obtain ⟨hp_8, h⟩ := h
          refine reg_conv [(4, [], Value.pointer (some ⟨b_, 0, none⟩)), (34, [], Value.slice (some ⟨(pblk v34.ptr), (poff v34.ptr), none⟩) v34.len v34.cap), (36, [], Value.int .i64 (IntKind.i64.wrap (number - 1)))] (congrArg (fun pp => ([(4, [], Value.pointer (some ⟨b_, 0, none⟩)), (34, [], Value.slice pp v34.len v34.cap), (36, [], Value.int .i64 (IntKind.i64.wrap (number - 1)))] : GEnv)) hp_8) ?_
          obtain ⟨h0, h1, h⟩ := h
          refine reg_indexS (t := 22) (e := 42) (x := (Go.Operand.tmp 34)) (ix := (Go.Operand.tmp 36)) (b := (pblk v34.ptr)) (o := (poff v34.ptr)) (l := v34.len) (c := v34.cap) (k := .i64) (j := (IntKind.i64.wrap (number - 1))) (ty := 0) (dst := some 37) (sz := 2) (by kernel_rfl) (by kernel_rfl) (by kernel_rfl) (by kernel_rfl) (by kernel_rfl) h0 h1 ?_
          refine reg_run [] 7 [(4, [], Value.pointer (some ⟨b_, 0, none⟩)), (37, [], Value.pointer (some ⟨(pblk v34.ptr), (poff v34.ptr) + (IntKind.i64.wrap (number - 1)).toNat * 2, none⟩))] (by kernel_rfl) (by kernel_rfl) ?_
          obtain ⟨v38, hc, h⟩ := h
          refine reg_loadN (t := 42) (a := (Go.Operand.tmp 37)) (b := (pblk v34.ptr)) (o := ((poff v34.ptr) + (IntKind.i64.wrap (number - 1)).toNat * 2)) (ty := 42) (dst := some 38) [Value.int .i64 v38.Number, Value.slice v38.Writes.ptr v38.Writes.len v38.Writes.cap] (by kernel_rfl) (by kernel_rfl) (by kernel_rfl) (k := 2) (by kernel_rfl) (by kernel_rfl) hc ?_
          refine reg_run [] 8 [(4, [], Value.pointer (some ⟨b_, 0, none⟩)), (38, [], Value.agg #[Value.int .i64 v38.Number, Value.slice v38.Writes.ptr v38.Writes.len v38.Writes.cap])] (by kernel_rfl) (by kernel_rfl) ?_
          refine reg_enter (op := (Go.Op.call (Go.Call.mk (Go.Callee.value (Go.Operand.func 83)) #[(Go.Operand.tmp 38)] #[42]))) (ty := 42) (dst := some 39) 83 #[Value.agg #[Value.int .i64 v38.Number, Value.slice v38.Writes.ptr v38.Writes.len v38.Writes.cap]] (by kernel_rfl) (fun ww => by kernel_rfl) (Calls.mono h ?_)
          rintro _ w8 ⟨v39, rfl, h⟩
          refine ⟨_, rfl, ?_⟩
          refine reg_run [] 9 [(4, [], Value.pointer (some ⟨b_, 0, none⟩)), (39, [], Value.agg #[Value.int .i64 v39.Number, Value.slice v39.Writes.ptr v39.Writes.len v39.Writes.cap])] (by kernel_rfl) (by kernel_rfl) ?_
          obtain ⟨hc, h⟩ := h
          refine reg_store (t := 42) (a := (Go.Operand.tmp 4)) (x := (Go.Operand.tmp 39)) (b := b_) (o := 0) (ty := 0) (dst := none) [Value.int .i64 v39.Number, Value.slice v39.Writes.ptr v39.Writes.len v39.Writes.cap] (by kernel_rfl) (by kernel_rfl) (by kernel_rfl) (k := 2) (by kernel_rfl) (by kernel_rfl) (by kernel_rfl) hc (fun w9 hw => ?_)
          replace h := h w9 hw
          clear hw
          refine reg_run [.plain] 11 [(4, [], Value.pointer (some ⟨b_, 0, none⟩)), (5, [], Value.int .i64 0)] (by kernel_rfl) (by kernel_rfl) ?_
          refine reg_end [(4, Value.pointer (some ⟨b_, 0, none⟩)), (5, Value.int .i64 0)] (by kernel_rfl) (by kernel_rfl) ?_
          change WpE _ _ c_towpathref06_Source_Get_29 _ _ _
          refine wpE_ret (by kernel_rfl) ?_
          obtain ⟨res2, hc_res2, h⟩ := h
          repeat (first | refine seqQ_ret ?_ | refine blockQ_ret ?_ | refine loopQ_ret ?_ | refine cutQ_ret ?_)
          exact retT (rs := [(Go.ResultVar.cell 4 42), (Go.ResultVar.tmp 5)]) (vs := [Value.agg #[Value.int .i64 res2.Number, Value.slice res2.Writes.ptr res2.Writes.len res2.Writes.cap], Value.int .i64 0]) (by kernel_rfl) (⟨b_, 0, [Value.int .i64 res2.Number, Value.slice res2.Writes.ptr res2.Writes.len res2.Writes.cap], by kernel_rfl, hc_res2, (sizeP_of (k := 2) (by kernel_rfl) (by kernel_rfl)), .inl ⟨by kernel_rfl, rfl⟩, ⟨by kernel_rfl, trivial⟩⟩) (by kernel_rfl) ⟨res2, 0, rfl, h⟩
  · rintro e w' ⟨v, rfl, r0, r1, rfl, h⟩; exact ⟨r0, r1, rfl, h⟩
end Go.Proofs.Ytpedclhflmhakaa
