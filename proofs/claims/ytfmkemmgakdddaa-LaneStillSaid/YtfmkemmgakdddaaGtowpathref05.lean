/- WRITTEN BY PROGRAM (dec.py): for each Go function the clean formula F, the call's contract C, and the proof S that F gives C. -/
import Derived.Test.YtfmkemmgakdddaaRows
import Derived.Test.YtfmkemmgakdddaaGF
namespace Go.Proofs.Ytfmkemmgakdddaa
open Go
set_option linter.unusedVariables false

/-! ### towpath/towpathref05.Check (function 84) -/
noncomputable def c_towpathref05_Check_0 : Code := (Try.f84.body).getD Code.skip
noncomputable def c_towpathref05_Check_1 : Code := Code.l c_towpathref05_Check_0
noncomputable def r_towpathref05_Check_1 : Array Oper := Code.ops c_towpathref05_Check_1
noncomputable def c_towpathref05_Check_3 : Code := Code.r c_towpathref05_Check_0
noncomputable def c_towpathref05_Check_4 : Code := Code.l c_towpathref05_Check_3
noncomputable def c_towpathref05_Check_5 : Code := Code.l c_towpathref05_Check_4
noncomputable def r_towpathref05_Check_5 : Array Oper := Code.ops c_towpathref05_Check_5
noncomputable def c_towpathref05_Check_7 : Code := Code.r c_towpathref05_Check_4
noncomputable def c_towpathref05_Check_8 : Code := Code.l c_towpathref05_Check_7
noncomputable def c_towpathref05_Check_9 : Code := Code.l c_towpathref05_Check_8
noncomputable def r_towpathref05_Check_9 : Array Oper := Code.ops c_towpathref05_Check_9
noncomputable def c_towpathref05_Check_11 : Code := Code.r c_towpathref05_Check_8
noncomputable def c_towpathref05_Check_12 : Code := Code.r c_towpathref05_Check_7
noncomputable def c_towpathref05_Check_13 : Code := Code.r c_towpathref05_Check_3
noncomputable def c_towpathref05_Check_14 : Code := Code.l c_towpathref05_Check_13
noncomputable def c_towpathref05_Check_15 : Code := Code.l c_towpathref05_Check_14
noncomputable def r_towpathref05_Check_15 : Array Oper := Code.ops c_towpathref05_Check_15
noncomputable def c_towpathref05_Check_17 : Code := Code.r c_towpathref05_Check_14
noncomputable def c_towpathref05_Check_18 : Code := Code.l c_towpathref05_Check_17
noncomputable def c_towpathref05_Check_19 : Code := Code.l c_towpathref05_Check_18
noncomputable def c_towpathref05_Check_20 : Code := Code.l c_towpathref05_Check_19
noncomputable def c_towpathref05_Check_21 : Code := Code.l c_towpathref05_Check_20
noncomputable def r_towpathref05_Check_21 : Array Oper := Code.ops c_towpathref05_Check_21
noncomputable def c_towpathref05_Check_23 : Code := Code.r c_towpathref05_Check_20
noncomputable def c_towpathref05_Check_24 : Code := Code.l c_towpathref05_Check_23
noncomputable def c_towpathref05_Check_25 : Code := Code.r c_towpathref05_Check_23
noncomputable def c_towpathref05_Check_26 : Code := Code.r c_towpathref05_Check_19
noncomputable def c_towpathref05_Check_27 : Code := Code.l c_towpathref05_Check_26
noncomputable def c_towpathref05_Check_28 : Code := Code.l c_towpathref05_Check_27
noncomputable def c_towpathref05_Check_29 : Code := Code.l c_towpathref05_Check_28
noncomputable def r_towpathref05_Check_29 : Array Oper := Code.ops c_towpathref05_Check_29
noncomputable def c_towpathref05_Check_31 : Code := Code.r c_towpathref05_Check_28
noncomputable def c_towpathref05_Check_32 : Code := Code.l c_towpathref05_Check_31
noncomputable def c_towpathref05_Check_33 : Code := Code.l c_towpathref05_Check_32
noncomputable def r_towpathref05_Check_33 : Array Oper := Code.ops c_towpathref05_Check_33
noncomputable def c_towpathref05_Check_35 : Code := Code.r c_towpathref05_Check_32
noncomputable def c_towpathref05_Check_36 : Code := Code.r c_towpathref05_Check_31
noncomputable def c_towpathref05_Check_37 : Code := Code.r c_towpathref05_Check_26
noncomputable def r_towpathref05_Check_37 : Array Oper := Code.ops c_towpathref05_Check_37
noncomputable def c_towpathref05_Check_39 : Code := Code.r c_towpathref05_Check_13
noncomputable def c_towpathref05_Check_40 : Code := Code.l c_towpathref05_Check_39
noncomputable def r_towpathref05_Check_40 : Array Oper := Code.ops c_towpathref05_Check_40
noncomputable def c_towpathref05_Check_42 : Code := Code.r c_towpathref05_Check_39

set_option maxRecDepth 100000 in
set_option maxHeartbeats 4000000 in
theorem S_towpathref05_Check {t_ : T_api_Txn} {w : World} {R : Int → World → Prop} (h : F_towpathref05_Check t_ R w) : C_towpathref05_Check t_ w R := by
  unfold F_towpathref05_Check at h
  unfold C_towpathref05_Check
  refine Calls.mono (calls_of_wpE (args := [Value.agg #[Value.int .i64 t_.Number, Value.slice t_.Writes.ptr t_.Writes.len t_.Writes.cap]]) (R := fun v w' => ∃ (r0 : Int), v = Value.int .i64 r0 ∧ R r0 w') Try.func84 (c := c_towpathref05_Check_0) (by kernel_rfl) 28 (by kernel_rfl) (by kernel_rfl) [(0, Value.agg #[Value.int .i64 t_.Number, Value.slice t_.Writes.ptr t_.Writes.len t_.Writes.cap])] (by kernel_rfl) ?_) ?_
  · refine wpE_seq (x := c_towpathref05_Check_1) (y := c_towpathref05_Check_3) (by kernel_rfl) ?_
    refine wpE_region (id := 0) (ops := r_towpathref05_Check_1) (by kernel_rfl) ?_
    refine reg_run [] 0 [(0, [], Value.agg #[Value.int .i64 t_.Number, Value.slice t_.Writes.ptr t_.Writes.len t_.Writes.cap])] (by kernel_rfl) (by kernel_rfl) ?_
    refine reg_new (op := (Go.Op.box 27 (Go.Operand.tmp 0))) (ty := 0) (dst := some 1) (fun bb => Value.pointer (some ⟨bb, 0, none⟩)) (Obj.cells ([Value.int .i64 t_.Number, Value.slice t_.Writes.ptr t_.Writes.len t_.Writes.cap]).toArray ty_api_Txn (0, 0)) (by kernel_rfl) (by kernel_rfl) (fun b_ w1 hb hw => ?_)
    replace h := h b_ w1 hb hw
    clear hb hw
    refine reg_run [.plain] 2 [(1, [], Value.pointer (some ⟨b_, 0, none⟩))] (by kernel_rfl) (by kernel_rfl) ?_
    refine reg_end [(1, Value.pointer (some ⟨b_, 0, none⟩))] (by kernel_rfl) (by kernel_rfl) ?_
    change WpE _ _ c_towpathref05_Check_3 _ _ _
    refine wpE_seq (x := c_towpathref05_Check_4) (y := c_towpathref05_Check_13) (by kernel_rfl) ?_
    refine wpE_seq_cut (x := c_towpathref05_Check_5) (y := c_towpathref05_Check_7) (by kernel_rfl) (fun l w => ∃ (t13 : Bool), l = [(1, Value.pointer (some ⟨b_, 0, none⟩)), (13, Value.bool t13)] ∧ F_towpathref05_Check_k0 R b_ t13 w) ?_ ?_
    · refine wpE_region (id := 1) (ops := r_towpathref05_Check_5) (by kernel_rfl) ?_
      refine reg_run [.plain] 1 [(1, [], Value.pointer (some ⟨b_, 0, none⟩)), (4, [], Value.pointer (some ⟨b_, 0, none⟩))] (by kernel_rfl) (by kernel_rfl) ?_
      obtain ⟨v5, hc, h⟩ := h
      refine reg_load1 (t := 3) (a := (Go.Operand.tmp 4)) (b := b_) (o := 0) (ty := 3) (dst := some 5) (by kernel_rfl) (by kernel_rfl) (by kernel_rfl) hc ?_
      refine reg_run [] 2 [(1, [], Value.pointer (some ⟨b_, 0, none⟩)), (5, [], Value.int .i64 v5)] (by kernel_rfl) (by kernel_rfl) ?_
      refine reg_enter (op := (Go.Op.call (Go.Call.mk (Go.Callee.value (Go.Operand.func 91)) #[(Go.Operand.tmp 5)] #[3]))) (ty := 4) (dst := some 6) 91 #[Value.int .i64 v5] (by kernel_rfl) (fun ww => by kernel_rfl) (Calls.mono h ?_)
      rintro _ w5 ⟨v6, rfl, h⟩
      refine ⟨_, rfl, ?_⟩
      refine reg_run [.plain, .plain, .plain] 6 [(1, [], Value.pointer (some ⟨b_, 0, none⟩)), (8, [], Value.bool (!v6)), (9, [(8, false)], Value.pointer (some ⟨b_, 1, none⟩))] (by kernel_rfl) (by kernel_rfl) ?_
      refine reg_split 8 (!v6) (by kernel_rfl) (fun hb => ?_) (fun hb => ?_)
      · replace h := h.1 hb
        refine reg_run [] 6 [(1, [], Value.pointer (some ⟨b_, 0, none⟩)), (8, [], Value.bool true), (9, [], undef)] (by kernel_rfl) (by kernel_rfl) ?_
        refine reg_run [.skip, .skip, .skip, .plain] 10 [(1, [], Value.pointer (some ⟨b_, 0, none⟩)), (13, [], Value.bool true)] (by kernel_rfl) (by kernel_rfl) ?_
        refine reg_end [(1, Value.pointer (some ⟨b_, 0, none⟩)), (13, Value.bool true)] (by kernel_rfl) (by kernel_rfl) ?_
        exact ⟨[(1, Value.pointer (some ⟨b_, 0, none⟩)), (13, Value.bool true)], Sub.mk (by kernel_rfl), true, rfl, h⟩
      · replace h := h.2 hb
        refine reg_run [] 6 [(1, [], Value.pointer (some ⟨b_, 0, none⟩)), (8, [], Value.bool false), (9, [], Value.pointer (some ⟨b_, 1, none⟩))] (by kernel_rfl) (by kernel_rfl) ?_
        refine reg_run [] 6 [(1, [], Value.pointer (some ⟨b_, 0, none⟩)), (8, [], Value.bool false), (9, [], Value.pointer (some ⟨b_, 1, none⟩))] (by kernel_rfl) (by kernel_rfl) ?_
        obtain ⟨v10, hc, h⟩ := h
        refine reg_load1 (t := 25) (a := (Go.Operand.tmp 9)) (b := b_) (o := 1) (ty := 25) (dst := some 10) (by kernel_rfl) (by kernel_rfl) (by kernel_rfl) hc ?_
        refine reg_run [.sure, .sure, .plain] 10 [(1, [], Value.pointer (some ⟨b_, 0, none⟩)), (13, [], Value.bool (decide (((v10.len : Nat) : Int) > 32)))] (by kernel_rfl) (by kernel_rfl) ?_
        refine reg_end [(1, Value.pointer (some ⟨b_, 0, none⟩)), (13, Value.bool (decide (((v10.len : Nat) : Int) > 32)))] (by kernel_rfl) (by kernel_rfl) ?_
        exact ⟨[(1, Value.pointer (some ⟨b_, 0, none⟩)), (13, Value.bool (decide (((v10.len : Nat) : Int) > 32)))], Sub.mk (by kernel_rfl), (decide (((v10.len : Nat) : Int) > 32)), rfl, h⟩
    · rintro _ w2 ⟨t13, rfl, h⟩
      unfold F_towpathref05_Check_k0 at h
      refine wpE_cond (o := (Operand.tmp 13)) (b := t13) (x := c_towpathref05_Check_8) (y := c_towpathref05_Check_12) (by kernel_rfl) (by kernel_rfl) (fun hb => ?_) (fun hb => ?_)
      · replace h := h.1 hb
        refine wpE_seq (x := c_towpathref05_Check_9) (y := c_towpathref05_Check_11) (by kernel_rfl) ?_
        refine wpE_region (id := 2) (ops := r_towpathref05_Check_9) (by kernel_rfl) ?_
        refine reg_run [.plain] 1 [(2, [], Value.int .i64 1)] (by kernel_rfl) (by kernel_rfl) ?_
        refine reg_end [(2, Value.int .i64 1)] (by kernel_rfl) (by kernel_rfl) ?_
        change WpE _ _ c_towpathref05_Check_11 _ _ _
        refine wpE_ret (by kernel_rfl) ?_
        repeat (first | refine seqQ_ret ?_ | refine blockQ_ret ?_ | refine loopQ_ret ?_ | refine cutQ_ret ?_)
        exact retS (rs := [(Go.ResultVar.tmp 2)]) (v := Value.int .i64 1) (by kernel_rfl) (⟨by kernel_rfl, trivial⟩) ⟨1, rfl, h⟩
      · replace h := h.2 hb
        refine wpE_skip (by kernel_rfl) ?_
        change WpE _ _ c_towpathref05_Check_13 _ _ _
        refine wpE_seq (x := c_towpathref05_Check_14) (y := c_towpathref05_Check_39) (by kernel_rfl) ?_
        refine wpE_seq (x := c_towpathref05_Check_15) (y := c_towpathref05_Check_17) (by kernel_rfl) ?_
        refine wpE_region (id := 3) (ops := r_towpathref05_Check_15) (by kernel_rfl) ?_
        refine reg_run [.plain] 1 [(1, [], Value.pointer (some ⟨b_, 0, none⟩)), (3, [], Value.int .i64 0)] (by kernel_rfl) (by kernel_rfl) ?_
        refine reg_end [(1, Value.pointer (some ⟨b_, 0, none⟩)), (3, Value.int .i64 0)] (by kernel_rfl) (by kernel_rfl) ?_
        change WpE _ _ c_towpathref05_Check_17 _ _ _
        refine wpE_block (id := 0) (x := c_towpathref05_Check_18) (by kernel_rfl) ?_
        obtain ⟨I, μ, h0, hr⟩ := h
        refine wpE_loop (x := c_towpathref05_Check_19) (by kernel_rfl) (fun m l w => ∃ (i : Int), l = [(1, Value.pointer (some ⟨b_, 0, none⟩)), (3, Value.int .i64 i)] ∧ I i w ∧ μ i w = m) (l' := [(1, Value.pointer (some ⟨b_, 0, none⟩)), (3, Value.int .i64 0)]) (Sub.mk (by kernel_rfl)) ⟨0, rfl, h0, rfl⟩ ?_
        rintro _ _ w3 ⟨i, rfl, hI, rfl⟩
        obtain ⟨again_, again__h, h⟩ : ∃ again_ : Int → World → Prop, (∀ i' w', again_ i' w' → I i' w' ∧ μ i' w' < μ i w3) ∧ F_towpathref05_Check_L1 R b_ again_ i w3 := ⟨_, fun _ _ h => h, hr i w3 hI⟩
        clear h0 hI
        unfold F_towpathref05_Check_L1 at h
        refine wpE_seq (x := c_towpathref05_Check_20) (y := c_towpathref05_Check_26) (by kernel_rfl) ?_
        refine wpE_seq (x := c_towpathref05_Check_21) (y := c_towpathref05_Check_23) (by kernel_rfl) ?_
        refine wpE_region (id := 4) (ops := r_towpathref05_Check_21) (by kernel_rfl) ?_
        refine reg_run [.plain, .plain] 2 [(1, [], Value.pointer (some ⟨b_, 0, none⟩)), (3, [], Value.int .i64 i), (14, [], Value.int .i64 i), (15, [], Value.pointer (some ⟨b_, 1, none⟩))] (by kernel_rfl) (by kernel_rfl) ?_
        obtain ⟨v16, hc, h⟩ := h
        refine reg_load1 (t := 25) (a := (Go.Operand.tmp 15)) (b := b_) (o := 1) (ty := 25) (dst := some 16) (by kernel_rfl) (by kernel_rfl) (by kernel_rfl) hc ?_
        refine reg_run [.plain, .plain] 5 [(1, [], Value.pointer (some ⟨b_, 0, none⟩)), (3, [], Value.int .i64 i), (18, [], Value.bool (decide (i < ((v16.len : Nat) : Int))))] (by kernel_rfl) (by kernel_rfl) ?_
        refine reg_end [(1, Value.pointer (some ⟨b_, 0, none⟩)), (3, Value.int .i64 i), (18, Value.bool (decide (i < ((v16.len : Nat) : Int))))] (by kernel_rfl) (by kernel_rfl) ?_
        change WpE _ _ c_towpathref05_Check_23 _ _ _
        refine wpE_cond (o := (Operand.tmp 18)) (b := (decide (i < ((v16.len : Nat) : Int)))) (x := c_towpathref05_Check_24) (y := c_towpathref05_Check_25) (by kernel_rfl) (by kernel_rfl) (fun hb => ?_) (fun hb => ?_)
        · replace h := h.1 hb
          refine wpE_skip (by kernel_rfl) ?_
          change WpE _ _ c_towpathref05_Check_26 _ _ _
          refine wpE_seq (x := c_towpathref05_Check_27) (y := c_towpathref05_Check_37) (by kernel_rfl) ?_
          refine wpE_block (id := 1) (x := c_towpathref05_Check_28) (by kernel_rfl) ?_
          refine wpE_seq (x := c_towpathref05_Check_29) (y := c_towpathref05_Check_31) (by kernel_rfl) ?_
          refine wpE_region (id := 6) (ops := r_towpathref05_Check_29) (by kernel_rfl) ?_
          refine reg_run [.plain] 1 [(1, [], Value.pointer (some ⟨b_, 0, none⟩)), (3, [], Value.int .i64 i), (21, [], Value.pointer (some ⟨b_, 1, none⟩))] (by kernel_rfl) (by kernel_rfl) ?_
          obtain ⟨v22, hc, h⟩ := h
          refine reg_load1 (t := 25) (a := (Go.Operand.tmp 21)) (b := b_) (o := 1) (ty := 25) (dst := some 22) (by kernel_rfl) (by kernel_rfl) (by kernel_rfl) hc ?_
          refine reg_run [.plain] 3 [(1, [], Value.pointer (some ⟨b_, 0, none⟩)), (3, [], Value.int .i64 i), (22, [], Value.slice v22.ptr v22.len v22.cap), (23, [], Value.int .i64 i)] (by kernel_rfl) (by kernel_rfl) ?_
          obtain ⟨hp_7, h⟩ := h
          refine reg_conv [(1, [], Value.pointer (some ⟨b_, 0, none⟩)), (3, [], Value.int .i64 i), (22, [], Value.slice (some ⟨(pblk v22.ptr), (poff v22.ptr), none⟩) v22.len v22.cap), (23, [], Value.int .i64 i)] (congrArg (fun pp => ([(1, [], Value.pointer (some ⟨b_, 0, none⟩)), (3, [], Value.int .i64 i), (22, [], Value.slice pp v22.len v22.cap), (23, [], Value.int .i64 i)] : GEnv)) hp_7) ?_
          obtain ⟨h0, h1, h⟩ := h
          refine reg_indexS (t := 25) (e := 61) (x := (Go.Operand.tmp 22)) (ix := (Go.Operand.tmp 23)) (b := (pblk v22.ptr)) (o := (poff v22.ptr)) (l := v22.len) (c := v22.cap) (k := .i64) (j := i) (ty := 0) (dst := some 24) (sz := 3) (by kernel_rfl) (by kernel_rfl) (by kernel_rfl) (by kernel_rfl) (by kernel_rfl) h0 h1 ?_
          refine reg_run [] 4 [(1, [], Value.pointer (some ⟨b_, 0, none⟩)), (3, [], Value.int .i64 i), (24, [], Value.pointer (some ⟨(pblk v22.ptr), (poff v22.ptr) + i.toNat * 3, none⟩))] (by kernel_rfl) (by kernel_rfl) ?_
          obtain ⟨v25, hc, h⟩ := h
          refine reg_loadN (t := 61) (a := (Go.Operand.tmp 24)) (b := (pblk v22.ptr)) (o := ((poff v22.ptr) + i.toNat * 3)) (ty := 61) (dst := some 25) [Value.string v25.Key, Value.string v25.Val, Value.bool v25.Drop] (by kernel_rfl) (by kernel_rfl) (by kernel_rfl) (k := 3) (by kernel_rfl) (by kernel_rfl) hc ?_
          refine reg_run [] 5 [(1, [], Value.pointer (some ⟨b_, 0, none⟩)), (3, [], Value.int .i64 i), (25, [], Value.agg #[Value.string v25.Key, Value.string v25.Val, Value.bool v25.Drop])] (by kernel_rfl) (by kernel_rfl) ?_
          refine reg_enter (op := (Go.Op.call (Go.Call.mk (Go.Callee.value (Go.Operand.func 92)) #[(Go.Operand.tmp 25)] #[61]))) (ty := 4) (dst := some 26) 92 #[Value.agg #[Value.string v25.Key, Value.string v25.Val, Value.bool v25.Drop]] (by kernel_rfl) (fun ww => by kernel_rfl) (Calls.mono h ?_)
          rintro _ w4 ⟨v26, rfl, h⟩
          refine ⟨_, rfl, ?_⟩
          refine reg_run [.plain] 7 [(1, [], Value.pointer (some ⟨b_, 0, none⟩)), (3, [], Value.int .i64 i), (27, [], Value.bool (!v26))] (by kernel_rfl) (by kernel_rfl) ?_
          refine reg_end [(1, Value.pointer (some ⟨b_, 0, none⟩)), (3, Value.int .i64 i), (27, Value.bool (!v26))] (by kernel_rfl) (by kernel_rfl) ?_
          change WpE _ _ c_towpathref05_Check_31 _ _ _
          refine wpE_cond (o := (Operand.tmp 27)) (b := (!v26)) (x := c_towpathref05_Check_32) (y := c_towpathref05_Check_36) (by kernel_rfl) (by kernel_rfl) (fun hb => ?_) (fun hb => ?_)
          · replace h := h.1 hb
            refine wpE_seq (x := c_towpathref05_Check_33) (y := c_towpathref05_Check_35) (by kernel_rfl) ?_
            refine wpE_region (id := 7) (ops := r_towpathref05_Check_33) (by kernel_rfl) ?_
            refine reg_run [.plain] 1 [(2, [], Value.int .i64 1)] (by kernel_rfl) (by kernel_rfl) ?_
            refine reg_end [(2, Value.int .i64 1)] (by kernel_rfl) (by kernel_rfl) ?_
            change WpE _ _ c_towpathref05_Check_35 _ _ _
            refine wpE_ret (by kernel_rfl) ?_
            repeat (first | refine seqQ_ret ?_ | refine blockQ_ret ?_ | refine loopQ_ret ?_ | refine cutQ_ret ?_)
            exact retS (rs := [(Go.ResultVar.tmp 2)]) (v := Value.int .i64 1) (by kernel_rfl) (⟨by kernel_rfl, trivial⟩) ⟨1, rfl, h⟩
          · replace h := h.2 hb
            refine wpE_skip (by kernel_rfl) ?_
            change WpE _ _ c_towpathref05_Check_37 _ _ _
            refine wpE_region (id := 5) (ops := r_towpathref05_Check_37) (by kernel_rfl) ?_
            refine reg_run [.plain, .plain, .plain] 3 [(1, [], Value.pointer (some ⟨b_, 0, none⟩)), (3, [], Value.int .i64 (IntKind.i64.wrap (i + 1)))] (by kernel_rfl) (by kernel_rfl) ?_
            refine reg_end [(1, Value.pointer (some ⟨b_, 0, none⟩)), (3, Value.int .i64 (IntKind.i64.wrap (i + 1)))] (by kernel_rfl) (by kernel_rfl) ?_
            have hb_ := again__h _ _ h
            exact ⟨_, hb_.2, [(1, Value.pointer (some ⟨b_, 0, none⟩)), (3, Value.int .i64 (IntKind.i64.wrap (i + 1)))], Sub.mk (by kernel_rfl), (IntKind.i64.wrap (i + 1)), rfl, hb_.1, rfl⟩
        · replace h := h.2 hb
          refine wpE_exit (id := 0) (by kernel_rfl) ?_
          change WpE _ _ c_towpathref05_Check_39 _ _ _
          refine wpE_seq (x := c_towpathref05_Check_40) (y := c_towpathref05_Check_42) (by kernel_rfl) ?_
          refine wpE_region (id := 8) (ops := r_towpathref05_Check_40) (by kernel_rfl) ?_
          refine reg_run [.plain] 1 [(2, [], Value.int .i64 0)] (by kernel_rfl) (by kernel_rfl) ?_
          refine reg_end [(2, Value.int .i64 0)] (by kernel_rfl) (by kernel_rfl) ?_
          change WpE _ _ c_towpathref05_Check_42 _ _ _
          refine wpE_ret (by kernel_rfl) ?_
          repeat (first | refine seqQ_ret ?_ | refine blockQ_ret ?_ | refine loopQ_ret ?_ | refine cutQ_ret ?_)
          exact retS (rs := [(Go.ResultVar.tmp 2)]) (v := Value.int .i64 0) (by kernel_rfl) (⟨by kernel_rfl, trivial⟩) ⟨0, rfl, h⟩
  · rintro e w' ⟨v, rfl, r0, rfl, h⟩; exact ⟨r0, rfl, h⟩

/-! ### towpath/towpathref05.Number (function 91) -/
noncomputable def c_towpathref05_Number_0 : Code := (Try.f91.body).getD Code.skip
noncomputable def c_towpathref05_Number_1 : Code := Code.l c_towpathref05_Number_0
noncomputable def r_towpathref05_Number_1 : Array Oper := Code.ops c_towpathref05_Number_1
noncomputable def c_towpathref05_Number_3 : Code := Code.r c_towpathref05_Number_0
noncomputable def c_towpathref05_Number_4 : Code := Code.l c_towpathref05_Number_3
noncomputable def r_towpathref05_Number_4 : Array Oper := Code.ops c_towpathref05_Number_4
noncomputable def c_towpathref05_Number_6 : Code := Code.r c_towpathref05_Number_3

set_option maxRecDepth 100000 in
set_option maxHeartbeats 4000000 in
theorem S_towpathref05_Number {n_ : Int} {w : World} {R : Bool → World → Prop} (h : F_towpathref05_Number n_ R w) : C_towpathref05_Number n_ w R := by
  unfold F_towpathref05_Number at h
  unfold C_towpathref05_Number
  refine Calls.mono (calls_of_wpE (args := [Value.int .i64 n_]) (R := fun v w' => ∃ (r0 : Bool), v = Value.bool r0 ∧ R r0 w') Try.func91 (c := c_towpathref05_Number_0) (by kernel_rfl) 9 (by kernel_rfl) (by kernel_rfl) [(0, Value.int .i64 n_)] (by kernel_rfl) ?_) ?_
  · refine wpE_seq (x := c_towpathref05_Number_1) (y := c_towpathref05_Number_3) (by kernel_rfl) ?_
    refine wpE_region (id := 0) (ops := r_towpathref05_Number_1) (by kernel_rfl) ?_
    refine reg_run [.plain] 1 [(0, [], Value.int .i64 n_)] (by kernel_rfl) (by kernel_rfl) ?_
    refine reg_end [(0, Value.int .i64 n_)] (by kernel_rfl) (by kernel_rfl) ?_
    change WpE _ _ c_towpathref05_Number_3 _ _ _
    refine wpE_seq (x := c_towpathref05_Number_4) (y := c_towpathref05_Number_6) (by kernel_rfl) ?_
    refine wpE_region (id := 1) (ops := r_towpathref05_Number_4) (by kernel_rfl) ?_
    refine reg_run [.plain, .plain, .plain, .plain, .plain, .pick, .plain] 7 [(2, [], Value.bool ((decide (n_ ≥ 1)) && (decide (n_ ≤ 65536))))] (by kernel_rfl) (by kernel_rfl) ?_
    refine reg_end [(2, Value.bool ((decide (n_ ≥ 1)) && (decide (n_ ≤ 65536))))] (by kernel_rfl) (by kernel_rfl) ?_
    change WpE _ _ c_towpathref05_Number_6 _ _ _
    refine wpE_ret (by kernel_rfl) ?_
    repeat (first | refine seqQ_ret ?_ | refine blockQ_ret ?_ | refine loopQ_ret ?_ | refine cutQ_ret ?_)
    exact retS (rs := [(Go.ResultVar.tmp 2)]) (v := Value.bool ((decide (n_ ≥ 1)) && (decide (n_ ≤ 65536)))) (by kernel_rfl) (⟨by kernel_rfl, trivial⟩) ⟨((decide (n_ ≥ 1)) && (decide (n_ ≤ 65536))), rfl, h⟩
  · rintro e w' ⟨v, rfl, r0, rfl, h⟩; exact ⟨r0, rfl, h⟩

/-! ### towpath/towpathref05.Write (function 92) -/
noncomputable def c_towpathref05_Write_0 : Code := (Try.f92.body).getD Code.skip
noncomputable def c_towpathref05_Write_1 : Code := Code.l c_towpathref05_Write_0
noncomputable def r_towpathref05_Write_1 : Array Oper := Code.ops c_towpathref05_Write_1
noncomputable def c_towpathref05_Write_3 : Code := Code.r c_towpathref05_Write_0
noncomputable def c_towpathref05_Write_4 : Code := Code.l c_towpathref05_Write_3
noncomputable def r_towpathref05_Write_4 : Array Oper := Code.ops c_towpathref05_Write_4
noncomputable def c_towpathref05_Write_6 : Code := Code.r c_towpathref05_Write_3

set_option maxRecDepth 100000 in
set_option maxHeartbeats 4000000 in
theorem S_towpathref05_Write {w_ : T_api_Write} {w : World} {R : Bool → World → Prop} (h : F_towpathref05_Write w_ R w) : C_towpathref05_Write w_ w R := by
  unfold F_towpathref05_Write at h
  unfold C_towpathref05_Write
  refine Calls.mono (calls_of_wpE (args := [Value.agg #[Value.string w_.Key, Value.string w_.Val, Value.bool w_.Drop]]) (R := fun v w' => ∃ (r0 : Bool), v = Value.bool r0 ∧ R r0 w') Try.func92 (c := c_towpathref05_Write_0) (by kernel_rfl) 22 (by kernel_rfl) (by kernel_rfl) [(0, Value.agg #[Value.string w_.Key, Value.string w_.Val, Value.bool w_.Drop])] (by kernel_rfl) ?_) ?_
  · refine wpE_seq (x := c_towpathref05_Write_1) (y := c_towpathref05_Write_3) (by kernel_rfl) ?_
    refine wpE_region (id := 0) (ops := r_towpathref05_Write_1) (by kernel_rfl) ?_
    refine reg_run [] 0 [(0, [], Value.agg #[Value.string w_.Key, Value.string w_.Val, Value.bool w_.Drop])] (by kernel_rfl) (by kernel_rfl) ?_
    refine reg_new (op := (Go.Op.box 61 (Go.Operand.tmp 0))) (ty := 0) (dst := some 1) (fun bb => Value.pointer (some ⟨bb, 0, none⟩)) (Obj.cells ([Value.string w_.Key, Value.string w_.Val, Value.bool w_.Drop]).toArray ty_api_Write (0, 0)) (by kernel_rfl) (by kernel_rfl) (fun b_ w1 hb hw => ?_)
    replace h := h b_ w1 hb hw
    clear hb hw
    refine reg_run [.plain] 2 [(1, [], Value.pointer (some ⟨b_, 0, none⟩))] (by kernel_rfl) (by kernel_rfl) ?_
    refine reg_end [(1, Value.pointer (some ⟨b_, 0, none⟩))] (by kernel_rfl) (by kernel_rfl) ?_
    change WpE _ _ c_towpathref05_Write_3 _ _ _
    refine wpE_seq (x := c_towpathref05_Write_4) (y := c_towpathref05_Write_6) (by kernel_rfl) ?_
    refine wpE_region (id := 1) (ops := r_towpathref05_Write_4) (by kernel_rfl) ?_
    refine reg_run [.plain] 1 [(1, [], Value.pointer (some ⟨b_, 0, none⟩)), (3, [], Value.pointer (some ⟨b_, 0, none⟩))] (by kernel_rfl) (by kernel_rfl) ?_
    obtain ⟨v4, hc, h⟩ := h
    refine reg_load1 (t := 9) (a := (Go.Operand.tmp 3)) (b := b_) (o := 0) (ty := 9) (dst := some 4) (by kernel_rfl) (by kernel_rfl) (by kernel_rfl) hc ?_
    refine reg_run [] 2 [(1, [], Value.pointer (some ⟨b_, 0, none⟩)), (4, [], Value.string v4)] (by kernel_rfl) (by kernel_rfl) ?_
    refine reg_enter (op := (Go.Op.call (Go.Call.mk (Go.Callee.value (Go.Operand.func 93)) #[(Go.Operand.tmp 4)] #[9]))) (ty := 4) (dst := some 5) 93 #[Value.string v4] (by kernel_rfl) (fun ww => by kernel_rfl) (Calls.mono h ?_)
    rintro _ w2 ⟨v5, rfl, h⟩
    refine ⟨_, rfl, ?_⟩
    refine reg_run [.plain, .plain] 5 [(1, [], Value.pointer (some ⟨b_, 0, none⟩)), (6, [], Value.bool v5), (7, [(6, true)], Value.pointer (some ⟨b_, 1, none⟩))] (by kernel_rfl) (by kernel_rfl) ?_
    refine reg_split 6 v5 (by kernel_rfl) (fun hb => ?_) (fun hb => ?_)
    · replace h := h.1 hb
      refine reg_run [] 5 [(1, [], Value.pointer (some ⟨b_, 0, none⟩)), (6, [], Value.bool true), (7, [], Value.pointer (some ⟨b_, 1, none⟩))] (by kernel_rfl) (by kernel_rfl) ?_
      refine reg_run [] 5 [(1, [], Value.pointer (some ⟨b_, 0, none⟩)), (6, [], Value.bool true), (7, [], Value.pointer (some ⟨b_, 1, none⟩))] (by kernel_rfl) (by kernel_rfl) ?_
      obtain ⟨v8, hc, h⟩ := h
      refine reg_load1 (t := 9) (a := (Go.Operand.tmp 7)) (b := b_) (o := 1) (ty := 9) (dst := some 8) (by kernel_rfl) (by kernel_rfl) (by kernel_rfl) hc ?_
      refine reg_run [] 6 [(1, [], Value.pointer (some ⟨b_, 0, none⟩)), (6, [], Value.bool true), (8, [], Value.string v8)] (by kernel_rfl) (by kernel_rfl) ?_
      refine reg_enter (op := (Go.Op.call (Go.Call.mk (Go.Callee.value (Go.Operand.func 95)) #[(Go.Operand.tmp 8)] #[9]))) (ty := 4) (dst := some 9) 95 #[Value.string v8] (by kernel_rfl) (fun ww => by kernel_rfl) (Calls.mono h ?_)
      rintro _ w3 ⟨v9, rfl, h⟩
      refine ⟨_, rfl, ?_⟩
      refine reg_run [.plain, .plain, .plain] 10 [(1, [], Value.pointer (some ⟨b_, 0, none⟩)), (11, [], Value.bool v9), (12, [(11, true)], Value.pointer (some ⟨b_, 2, none⟩))] (by kernel_rfl) (by kernel_rfl) ?_
      refine reg_split 11 v9 (by kernel_rfl) (fun hb => ?_) (fun hb => ?_)
      · replace h := h.1 hb
        refine reg_run [] 10 [(1, [], Value.pointer (some ⟨b_, 0, none⟩)), (11, [], Value.bool true), (12, [], Value.pointer (some ⟨b_, 2, none⟩))] (by kernel_rfl) (by kernel_rfl) ?_
        refine reg_run [] 10 [(1, [], Value.pointer (some ⟨b_, 0, none⟩)), (11, [], Value.bool true), (12, [], Value.pointer (some ⟨b_, 2, none⟩))] (by kernel_rfl) (by kernel_rfl) ?_
        obtain ⟨v13, hc, h⟩ := h
        refine reg_load1 (t := 4) (a := (Go.Operand.tmp 12)) (b := b_) (o := 2) (ty := 4) (dst := some 13) (by kernel_rfl) (by kernel_rfl) (by kernel_rfl) hc ?_
        refine reg_run [.sure, .sure, .plain] 14 [(11, [], Value.bool true), (15, [], Value.bool (!v13)), (16, [(15, false)], Value.pointer (some ⟨b_, 1, none⟩))] (by kernel_rfl) (by kernel_rfl) ?_
        refine reg_split 15 (!v13) (by kernel_rfl) (fun hb => ?_) (fun hb => ?_)
        · replace h := h.1 hb
          refine reg_run [] 14 [(11, [], Value.bool true), (15, [], Value.bool true), (16, [], undef)] (by kernel_rfl) (by kernel_rfl) ?_
          refine reg_run [.skip, .skip, .skip, .sure, .plain, .plain] 20 [(2, [], Value.bool true)] (by kernel_rfl) (by kernel_rfl) ?_
          refine reg_end [(2, Value.bool true)] (by kernel_rfl) (by kernel_rfl) ?_
          change WpE _ _ c_towpathref05_Write_6 _ _ _
          refine wpE_ret (by kernel_rfl) ?_
          repeat (first | refine seqQ_ret ?_ | refine blockQ_ret ?_ | refine loopQ_ret ?_ | refine cutQ_ret ?_)
          exact retS (rs := [(Go.ResultVar.tmp 2)]) (v := Value.bool true) (by kernel_rfl) (⟨by kernel_rfl, trivial⟩) ⟨true, rfl, h⟩
        · replace h := h.2 hb
          refine reg_run [] 14 [(11, [], Value.bool true), (15, [], Value.bool false), (16, [], Value.pointer (some ⟨b_, 1, none⟩))] (by kernel_rfl) (by kernel_rfl) ?_
          refine reg_run [] 14 [(11, [], Value.bool true), (15, [], Value.bool false), (16, [], Value.pointer (some ⟨b_, 1, none⟩))] (by kernel_rfl) (by kernel_rfl) ?_
          obtain ⟨v17, hc, h⟩ := h
          refine reg_load1 (t := 9) (a := (Go.Operand.tmp 16)) (b := b_) (o := 1) (ty := 9) (dst := some 17) (by kernel_rfl) (by kernel_rfl) (by kernel_rfl) hc ?_
          refine reg_run [.sure, .sure, .sure, .plain, .plain] 20 [(2, [], Value.bool (((v17.size : Nat) : Int) == 0))] (by kernel_rfl) (by kernel_rfl) ?_
          refine reg_end [(2, Value.bool (((v17.size : Nat) : Int) == 0))] (by kernel_rfl) (by kernel_rfl) ?_
          change WpE _ _ c_towpathref05_Write_6 _ _ _
          refine wpE_ret (by kernel_rfl) ?_
          repeat (first | refine seqQ_ret ?_ | refine blockQ_ret ?_ | refine loopQ_ret ?_ | refine cutQ_ret ?_)
          exact retS (rs := [(Go.ResultVar.tmp 2)]) (v := Value.bool (((v17.size : Nat) : Int) == 0)) (by kernel_rfl) (⟨by kernel_rfl, trivial⟩) ⟨(((v17.size : Nat) : Int) == 0), rfl, h⟩
      · replace h := h.2 hb
        refine reg_run [] 10 [(1, [], Value.pointer (some ⟨b_, 0, none⟩)), (11, [], Value.bool false), (12, [], undef)] (by kernel_rfl) (by kernel_rfl) ?_
        refine reg_run [.skip, .skip, .skip, .skip, .skip, .skip, .skip, .skip, .plain, .plain] 20 [(2, [], Value.bool false)] (by kernel_rfl) (by kernel_rfl) ?_
        refine reg_end [(2, Value.bool false)] (by kernel_rfl) (by kernel_rfl) ?_
        change WpE _ _ c_towpathref05_Write_6 _ _ _
        refine wpE_ret (by kernel_rfl) ?_
        repeat (first | refine seqQ_ret ?_ | refine blockQ_ret ?_ | refine loopQ_ret ?_ | refine cutQ_ret ?_)
        exact retS (rs := [(Go.ResultVar.tmp 2)]) (v := Value.bool false) (by kernel_rfl) (⟨by kernel_rfl, trivial⟩) ⟨false, rfl, h⟩
    · replace h := h.2 hb
      refine reg_run [] 5 [(1, [], Value.pointer (some ⟨b_, 0, none⟩)), (6, [], Value.bool false), (7, [], undef)] (by kernel_rfl) (by kernel_rfl) ?_
      refine reg_run [.skip, .skip, .plain, .plain, .skip, .skip, .skip, .skip, .skip, .skip, .skip, .skip, .skip, .plain, .plain] 20 [(2, [], Value.bool false)] (by kernel_rfl) (by kernel_rfl) ?_
      refine reg_end [(2, Value.bool false)] (by kernel_rfl) (by kernel_rfl) ?_
      change WpE _ _ c_towpathref05_Write_6 _ _ _
      refine wpE_ret (by kernel_rfl) ?_
      repeat (first | refine seqQ_ret ?_ | refine blockQ_ret ?_ | refine loopQ_ret ?_ | refine cutQ_ret ?_)
      exact retS (rs := [(Go.ResultVar.tmp 2)]) (v := Value.bool false) (by kernel_rfl) (⟨by kernel_rfl, trivial⟩) ⟨false, rfl, h⟩
  · rintro e w' ⟨v, rfl, r0, rfl, h⟩; exact ⟨r0, rfl, h⟩

/-! ### towpath/towpathref05.Key (function 93) -/
noncomputable def c_towpathref05_Key_0 : Code := (Try.f93.body).getD Code.skip
noncomputable def c_towpathref05_Key_1 : Code := Code.l c_towpathref05_Key_0
noncomputable def r_towpathref05_Key_1 : Array Oper := Code.ops c_towpathref05_Key_1
noncomputable def c_towpathref05_Key_3 : Code := Code.r c_towpathref05_Key_0
noncomputable def c_towpathref05_Key_4 : Code := Code.l c_towpathref05_Key_3
noncomputable def r_towpathref05_Key_4 : Array Oper := Code.ops c_towpathref05_Key_4
noncomputable def c_towpathref05_Key_6 : Code := Code.r c_towpathref05_Key_3

set_option maxRecDepth 100000 in
set_option maxHeartbeats 4000000 in
theorem S_towpathref05_Key {s : ByteArray} {w : World} {R : Bool → World → Prop} (h : F_towpathref05_Key s R w) : C_towpathref05_Key s w R := by
  unfold F_towpathref05_Key at h
  unfold C_towpathref05_Key
  refine Calls.mono (calls_of_wpE (args := [Value.string s]) (R := fun v w' => ∃ (r0 : Bool), v = Value.bool r0 ∧ R r0 w') Try.func93 (c := c_towpathref05_Key_0) (by kernel_rfl) 11 (by kernel_rfl) (by kernel_rfl) [(0, Value.string s)] (by kernel_rfl) ?_) ?_
  · refine wpE_seq (x := c_towpathref05_Key_1) (y := c_towpathref05_Key_3) (by kernel_rfl) ?_
    refine wpE_region (id := 0) (ops := r_towpathref05_Key_1) (by kernel_rfl) ?_
    refine reg_run [.plain] 1 [(0, [], Value.string s)] (by kernel_rfl) (by kernel_rfl) ?_
    refine reg_end [(0, Value.string s)] (by kernel_rfl) (by kernel_rfl) ?_
    change WpE _ _ c_towpathref05_Key_3 _ _ _
    refine wpE_seq (x := c_towpathref05_Key_4) (y := c_towpathref05_Key_6) (by kernel_rfl) ?_
    refine wpE_region (id := 1) (ops := r_towpathref05_Key_4) (by kernel_rfl) ?_
    refine reg_run [.plain, .plain, .plain, .plain, .plain, .plain, .plain, .pick, .plain] 9 [(2, [], Value.bool ((decide (((s.size : Nat) : Int) ≥ 1)) && (decide (((s.size : Nat) : Int) ≤ 64))))] (by kernel_rfl) (by kernel_rfl) ?_
    refine reg_end [(2, Value.bool ((decide (((s.size : Nat) : Int) ≥ 1)) && (decide (((s.size : Nat) : Int) ≤ 64))))] (by kernel_rfl) (by kernel_rfl) ?_
    change WpE _ _ c_towpathref05_Key_6 _ _ _
    refine wpE_ret (by kernel_rfl) ?_
    repeat (first | refine seqQ_ret ?_ | refine blockQ_ret ?_ | refine loopQ_ret ?_ | refine cutQ_ret ?_)
    exact retS (rs := [(Go.ResultVar.tmp 2)]) (v := Value.bool ((decide (((s.size : Nat) : Int) ≥ 1)) && (decide (((s.size : Nat) : Int) ≤ 64)))) (by kernel_rfl) (⟨by kernel_rfl, trivial⟩) ⟨((decide (((s.size : Nat) : Int) ≥ 1)) && (decide (((s.size : Nat) : Int) ≤ 64))), rfl, h⟩
  · rintro e w' ⟨v, rfl, r0, rfl, h⟩; exact ⟨r0, rfl, h⟩

/-! ### towpath/towpathref05.Val (function 95) -/
noncomputable def c_towpathref05_Val_0 : Code := (Try.f95.body).getD Code.skip
noncomputable def c_towpathref05_Val_1 : Code := Code.l c_towpathref05_Val_0
noncomputable def r_towpathref05_Val_1 : Array Oper := Code.ops c_towpathref05_Val_1
noncomputable def c_towpathref05_Val_3 : Code := Code.r c_towpathref05_Val_0
noncomputable def c_towpathref05_Val_4 : Code := Code.l c_towpathref05_Val_3
noncomputable def r_towpathref05_Val_4 : Array Oper := Code.ops c_towpathref05_Val_4
noncomputable def c_towpathref05_Val_6 : Code := Code.r c_towpathref05_Val_3

set_option maxRecDepth 100000 in
set_option maxHeartbeats 4000000 in
theorem S_towpathref05_Val {s : ByteArray} {w : World} {R : Bool → World → Prop} (h : F_towpathref05_Val s R w) : C_towpathref05_Val s w R := by
  unfold F_towpathref05_Val at h
  unfold C_towpathref05_Val
  refine Calls.mono (calls_of_wpE (args := [Value.string s]) (R := fun v w' => ∃ (r0 : Bool), v = Value.bool r0 ∧ R r0 w') Try.func95 (c := c_towpathref05_Val_0) (by kernel_rfl) 6 (by kernel_rfl) (by kernel_rfl) [(0, Value.string s)] (by kernel_rfl) ?_) ?_
  · refine wpE_seq (x := c_towpathref05_Val_1) (y := c_towpathref05_Val_3) (by kernel_rfl) ?_
    refine wpE_region (id := 0) (ops := r_towpathref05_Val_1) (by kernel_rfl) ?_
    refine reg_run [.plain] 1 [(0, [], Value.string s)] (by kernel_rfl) (by kernel_rfl) ?_
    refine reg_end [(0, Value.string s)] (by kernel_rfl) (by kernel_rfl) ?_
    change WpE _ _ c_towpathref05_Val_3 _ _ _
    refine wpE_seq (x := c_towpathref05_Val_4) (y := c_towpathref05_Val_6) (by kernel_rfl) ?_
    refine wpE_region (id := 1) (ops := r_towpathref05_Val_4) (by kernel_rfl) ?_
    refine reg_run [.plain, .plain, .plain, .plain] 4 [(2, [], Value.bool (decide (((s.size : Nat) : Int) ≤ 1024)))] (by kernel_rfl) (by kernel_rfl) ?_
    refine reg_end [(2, Value.bool (decide (((s.size : Nat) : Int) ≤ 1024)))] (by kernel_rfl) (by kernel_rfl) ?_
    change WpE _ _ c_towpathref05_Val_6 _ _ _
    refine wpE_ret (by kernel_rfl) ?_
    repeat (first | refine seqQ_ret ?_ | refine blockQ_ret ?_ | refine loopQ_ret ?_ | refine cutQ_ret ?_)
    exact retS (rs := [(Go.ResultVar.tmp 2)]) (v := Value.bool (decide (((s.size : Nat) : Int) ≤ 1024))) (by kernel_rfl) (⟨by kernel_rfl, trivial⟩) ⟨(decide (((s.size : Nat) : Int) ≤ 1024)), rfl, h⟩
  · rintro e w' ⟨v, rfl, r0, rfl, h⟩; exact ⟨r0, rfl, h⟩
end Go.Proofs.Ytfmkemmgakdddaa
