/- WRITTEN BY PROGRAM (dec.py): for each Go function the clean formula F, the call's contract C, and the proof S that F gives C. -/
import Derived.Test.YtpedclhflmhakaaRows
import Derived.Test.YtpedclhflmhakaaGF
namespace Go.Proofs.Ytpedclhflmhakaa
open Go
set_option linter.unusedVariables false

/-! ### towpath/towpathlaw16.FeedNone (function 6) -/
noncomputable def c_towpathlaw16_FeedNone_0 : Code := (Try.f6.body).getD Code.skip
noncomputable def c_towpathlaw16_FeedNone_1 : Code := Code.l c_towpathlaw16_FeedNone_0
noncomputable def r_towpathlaw16_FeedNone_1 : Array Oper := Code.ops c_towpathlaw16_FeedNone_1
noncomputable def c_towpathlaw16_FeedNone_3 : Code := Code.r c_towpathlaw16_FeedNone_0
noncomputable def c_towpathlaw16_FeedNone_4 : Code := Code.l c_towpathlaw16_FeedNone_3
noncomputable def r_towpathlaw16_FeedNone_4 : Array Oper := Code.ops c_towpathlaw16_FeedNone_4
noncomputable def c_towpathlaw16_FeedNone_6 : Code := Code.r c_towpathlaw16_FeedNone_3
noncomputable def c_towpathlaw16_FeedNone_7 : Code := Code.l c_towpathlaw16_FeedNone_6
noncomputable def c_towpathlaw16_FeedNone_8 : Code := Code.l c_towpathlaw16_FeedNone_7
noncomputable def r_towpathlaw16_FeedNone_8 : Array Oper := Code.ops c_towpathlaw16_FeedNone_8
noncomputable def c_towpathlaw16_FeedNone_10 : Code := Code.r c_towpathlaw16_FeedNone_7
noncomputable def c_towpathlaw16_FeedNone_11 : Code := Code.l c_towpathlaw16_FeedNone_10
noncomputable def c_towpathlaw16_FeedNone_12 : Code := Code.l c_towpathlaw16_FeedNone_11
noncomputable def c_towpathlaw16_FeedNone_13 : Code := Code.l c_towpathlaw16_FeedNone_12
noncomputable def c_towpathlaw16_FeedNone_14 : Code := Code.l c_towpathlaw16_FeedNone_13
noncomputable def r_towpathlaw16_FeedNone_14 : Array Oper := Code.ops c_towpathlaw16_FeedNone_14
noncomputable def c_towpathlaw16_FeedNone_16 : Code := Code.r c_towpathlaw16_FeedNone_13
noncomputable def c_towpathlaw16_FeedNone_17 : Code := Code.l c_towpathlaw16_FeedNone_16
noncomputable def c_towpathlaw16_FeedNone_18 : Code := Code.r c_towpathlaw16_FeedNone_16
noncomputable def c_towpathlaw16_FeedNone_19 : Code := Code.r c_towpathlaw16_FeedNone_12
noncomputable def c_towpathlaw16_FeedNone_20 : Code := Code.l c_towpathlaw16_FeedNone_19
noncomputable def c_towpathlaw16_FeedNone_21 : Code := Code.l c_towpathlaw16_FeedNone_20
noncomputable def c_towpathlaw16_FeedNone_22 : Code := Code.l c_towpathlaw16_FeedNone_21
noncomputable def r_towpathlaw16_FeedNone_22 : Array Oper := Code.ops c_towpathlaw16_FeedNone_22
noncomputable def c_towpathlaw16_FeedNone_24 : Code := Code.r c_towpathlaw16_FeedNone_21
noncomputable def c_towpathlaw16_FeedNone_25 : Code := Code.l c_towpathlaw16_FeedNone_24
noncomputable def c_towpathlaw16_FeedNone_26 : Code := Code.l c_towpathlaw16_FeedNone_25
noncomputable def r_towpathlaw16_FeedNone_26 : Array Oper := Code.ops c_towpathlaw16_FeedNone_26
noncomputable def c_towpathlaw16_FeedNone_28 : Code := Code.r c_towpathlaw16_FeedNone_25
noncomputable def c_towpathlaw16_FeedNone_29 : Code := Code.r c_towpathlaw16_FeedNone_24
noncomputable def c_towpathlaw16_FeedNone_30 : Code := Code.r c_towpathlaw16_FeedNone_19
noncomputable def r_towpathlaw16_FeedNone_30 : Array Oper := Code.ops c_towpathlaw16_FeedNone_30
noncomputable def c_towpathlaw16_FeedNone_32 : Code := Code.r c_towpathlaw16_FeedNone_6
noncomputable def c_towpathlaw16_FeedNone_33 : Code := Code.l c_towpathlaw16_FeedNone_32
noncomputable def r_towpathlaw16_FeedNone_33 : Array Oper := Code.ops c_towpathlaw16_FeedNone_33
noncomputable def c_towpathlaw16_FeedNone_35 : Code := Code.r c_towpathlaw16_FeedNone_32
noncomputable def c_towpathlaw16_FeedNone_36 : Code := Code.l c_towpathlaw16_FeedNone_35
noncomputable def r_towpathlaw16_FeedNone_36 : Array Oper := Code.ops c_towpathlaw16_FeedNone_36
noncomputable def c_towpathlaw16_FeedNone_38 : Code := Code.r c_towpathlaw16_FeedNone_35

set_option maxRecDepth 100000 in
set_option maxHeartbeats 4000000 in
theorem S_towpathlaw16_FeedNone {m_ : T_towpathlaw16_Made} {q : Slc} {w : World} {R : Bool → World → Prop} (h : F_towpathlaw16_FeedNone m_ q R w) : C_towpathlaw16_FeedNone m_ q w R := by
  unfold F_towpathlaw16_FeedNone at h
  unfold C_towpathlaw16_FeedNone
  refine Calls.mono (calls_of_wpE (args := [Value.agg #[Value.int .i64 m_.Mark, Value.slice m_.Beyond.ptr m_.Beyond.len m_.Beyond.cap, Value.int .i64 m_.Window], Value.slice q.ptr q.len q.cap]) (R := fun v w' => ∃ (r0 : Bool), v = Value.bool r0 ∧ R r0 w') Try.func6 (c := c_towpathlaw16_FeedNone_0) (by kernel_rfl) 65 (by kernel_rfl) (by kernel_rfl) [(0, Value.agg #[Value.int .i64 m_.Mark, Value.slice m_.Beyond.ptr m_.Beyond.len m_.Beyond.cap, Value.int .i64 m_.Window]), (1, Value.slice q.ptr q.len q.cap)] (by kernel_rfl) ?_) ?_
  · refine wpE_seq (x := c_towpathlaw16_FeedNone_1) (y := c_towpathlaw16_FeedNone_3) (by kernel_rfl) ?_
    refine wpE_region (id := 0) (ops := r_towpathlaw16_FeedNone_1) (by kernel_rfl) ?_
    refine reg_run [] 0 [(0, [], Value.agg #[Value.int .i64 m_.Mark, Value.slice m_.Beyond.ptr m_.Beyond.len m_.Beyond.cap, Value.int .i64 m_.Window]), (1, [], Value.slice q.ptr q.len q.cap)] (by kernel_rfl) (by kernel_rfl) ?_
    refine reg_new (op := (Go.Op.box 25 (Go.Operand.tmp 0))) (ty := 0) (dst := some 2) (fun bb => Value.pointer (some ⟨bb, 0, none⟩)) (Obj.cells ([Value.int .i64 m_.Mark, Value.slice m_.Beyond.ptr m_.Beyond.len m_.Beyond.cap, Value.int .i64 m_.Window]).toArray ty_towpathlaw16_Made (0, 0)) (by kernel_rfl) (by kernel_rfl) (fun b_ w1 hb hw => ?_)
    replace h := h b_ w1 hb hw
    clear hb hw
    refine reg_run [.plain] 2 [(1, [], Value.slice q.ptr q.len q.cap), (2, [], Value.pointer (some ⟨b_, 0, none⟩))] (by kernel_rfl) (by kernel_rfl) ?_
    refine reg_end [(1, Value.slice q.ptr q.len q.cap), (2, Value.pointer (some ⟨b_, 0, none⟩))] (by kernel_rfl) (by kernel_rfl) ?_
    change WpE _ _ c_towpathlaw16_FeedNone_3 _ _ _
    refine wpE_seq (x := c_towpathlaw16_FeedNone_4) (y := c_towpathlaw16_FeedNone_6) (by kernel_rfl) ?_
    refine wpE_region (id := 1) (ops := r_towpathlaw16_FeedNone_4) (by kernel_rfl) ?_
    refine reg_run [.plain] 1 [(1, [], Value.slice q.ptr q.len q.cap), (2, [], Value.pointer (some ⟨b_, 0, none⟩)), (9, [], Value.agg #[Value.pointer none, Value.int .i64 0, Value.int .i64 0, Value.int .i64 0, Value.map none, Value.pointer none, Value.bool false])] (by kernel_rfl) (by kernel_rfl) ?_
    refine reg_new (op := (Go.Op.box 59 (Go.Operand.tmp 9))) (ty := 26) (dst := some 10) (fun bb => Value.pointer (some ⟨bb, 0, none⟩)) (Obj.cells ([Value.pointer none, Value.int .i64 0, Value.int .i64 0, Value.int .i64 0, Value.map none, Value.pointer none, Value.bool false]).toArray ty_feed_Feed (0, 0)) (by kernel_rfl) (by kernel_rfl) (fun b_1 w2 hb hw => ?_)
    replace h := h b_1 w2 hb hw
    clear hb hw
    refine reg_run [.plain] 3 [(1, [], Value.slice q.ptr q.len q.cap), (2, [], Value.pointer (some ⟨b_, 0, none⟩)), (5, [], Value.pointer (some ⟨b_1, 0, none⟩))] (by kernel_rfl) (by kernel_rfl) ?_
    refine reg_end [(1, Value.slice q.ptr q.len q.cap), (2, Value.pointer (some ⟨b_, 0, none⟩)), (5, Value.pointer (some ⟨b_1, 0, none⟩))] (by kernel_rfl) (by kernel_rfl) ?_
    change WpE _ _ c_towpathlaw16_FeedNone_6 _ _ _
    refine wpE_seq (x := c_towpathlaw16_FeedNone_7) (y := c_towpathlaw16_FeedNone_32) (by kernel_rfl) ?_
    refine wpE_seq (x := c_towpathlaw16_FeedNone_8) (y := c_towpathlaw16_FeedNone_10) (by kernel_rfl) ?_
    refine wpE_region (id := 2) (ops := r_towpathlaw16_FeedNone_8) (by kernel_rfl) ?_
    refine reg_run [.plain] 1 [(1, [], Value.slice q.ptr q.len q.cap), (2, [], Value.pointer (some ⟨b_, 0, none⟩)), (5, [], Value.pointer (some ⟨b_1, 0, none⟩)), (6, [], Value.int .i64 0)] (by kernel_rfl) (by kernel_rfl) ?_
    refine reg_end [(1, Value.slice q.ptr q.len q.cap), (2, Value.pointer (some ⟨b_, 0, none⟩)), (5, Value.pointer (some ⟨b_1, 0, none⟩)), (6, Value.int .i64 0)] (by kernel_rfl) (by kernel_rfl) ?_
    change WpE _ _ c_towpathlaw16_FeedNone_10 _ _ _
    refine wpE_block (id := 0) (x := c_towpathlaw16_FeedNone_11) (by kernel_rfl) ?_
    obtain ⟨I, μ, h0, hr⟩ := h
    refine wpE_loop (x := c_towpathlaw16_FeedNone_12) (by kernel_rfl) (fun m l w => ∃ (i : Int), l = [(1, Value.slice q.ptr q.len q.cap), (2, Value.pointer (some ⟨b_, 0, none⟩)), (5, Value.pointer (some ⟨b_1, 0, none⟩)), (6, Value.int .i64 i)] ∧ I i w ∧ μ i w = m) (l' := [(1, Value.slice q.ptr q.len q.cap), (2, Value.pointer (some ⟨b_, 0, none⟩)), (5, Value.pointer (some ⟨b_1, 0, none⟩)), (6, Value.int .i64 0)]) (Sub.mk (by kernel_rfl)) ⟨0, rfl, h0, rfl⟩ ?_
    rintro _ _ w3 ⟨i, rfl, hI, rfl⟩
    obtain ⟨again_, again__h, h⟩ : ∃ again_ : Int → World → Prop, (∀ i' w', again_ i' w' → I i' w' ∧ μ i' w' < μ i w3) ∧ F_towpathlaw16_FeedNone_L0 q R b_ b_1 again_ i w3 := ⟨_, fun _ _ h => h, hr i w3 hI⟩
    clear h0 hI
    unfold F_towpathlaw16_FeedNone_L0 at h
    refine wpE_seq (x := c_towpathlaw16_FeedNone_13) (y := c_towpathlaw16_FeedNone_19) (by kernel_rfl) ?_
    refine wpE_seq (x := c_towpathlaw16_FeedNone_14) (y := c_towpathlaw16_FeedNone_16) (by kernel_rfl) ?_
    refine wpE_region (id := 3) (ops := r_towpathlaw16_FeedNone_14) (by kernel_rfl) ?_
    refine reg_run [.plain, .plain, .plain, .plain, .plain, .plain, .plain, .pick] 8 [(1, [], Value.slice q.ptr q.len q.cap), (2, [], Value.pointer (some ⟨b_, 0, none⟩)), (5, [], Value.pointer (some ⟨b_1, 0, none⟩)), (6, [], Value.int .i64 i), (18, [], Value.bool ((decide (i < ((q.len : Nat) : Int))) && (decide (i < 50))))] (by kernel_rfl) (by kernel_rfl) ?_
    refine reg_end [(1, Value.slice q.ptr q.len q.cap), (2, Value.pointer (some ⟨b_, 0, none⟩)), (5, Value.pointer (some ⟨b_1, 0, none⟩)), (6, Value.int .i64 i), (18, Value.bool ((decide (i < ((q.len : Nat) : Int))) && (decide (i < 50))))] (by kernel_rfl) (by kernel_rfl) ?_
    change WpE _ _ c_towpathlaw16_FeedNone_16 _ _ _
    refine wpE_cond (o := (Operand.tmp 18)) (b := ((decide (i < ((q.len : Nat) : Int))) && (decide (i < 50)))) (x := c_towpathlaw16_FeedNone_17) (y := c_towpathlaw16_FeedNone_18) (by kernel_rfl) (by kernel_rfl) (fun hb => ?_) (fun hb => ?_)
    · replace h := h.1 hb
      refine wpE_skip (by kernel_rfl) ?_
      change WpE _ _ c_towpathlaw16_FeedNone_19 _ _ _
      refine wpE_seq (x := c_towpathlaw16_FeedNone_20) (y := c_towpathlaw16_FeedNone_30) (by kernel_rfl) ?_
      refine wpE_block (id := 1) (x := c_towpathlaw16_FeedNone_21) (by kernel_rfl) ?_
      refine wpE_seq_cut (x := c_towpathlaw16_FeedNone_22) (y := c_towpathlaw16_FeedNone_24) (by kernel_rfl) (fun l w => ∃ (t45 : Bool), l = [(1, Value.slice q.ptr q.len q.cap), (2, Value.pointer (some ⟨b_, 0, none⟩)), (5, Value.pointer (some ⟨b_1, 0, none⟩)), (6, Value.int .i64 i), (45, Value.bool t45)] ∧ F_towpathlaw16_FeedNone_k1 R i again_ t45 w) ?_ ?_
      · refine wpE_region (id := 5) (ops := r_towpathlaw16_FeedNone_22) (by kernel_rfl) ?_
        refine reg_run [.plain, .plain] 2 [(1, [], Value.slice q.ptr q.len q.cap), (2, [], Value.pointer (some ⟨b_, 0, none⟩)), (5, [], Value.pointer (some ⟨b_1, 0, none⟩)), (6, [], Value.int .i64 i), (21, [], Value.slice q.ptr q.len q.cap), (22, [], Value.int .i64 i)] (by kernel_rfl) (by kernel_rfl) ?_
        obtain ⟨hp_14, h⟩ := h
        refine reg_conv [(1, [], Value.slice q.ptr q.len q.cap), (2, [], Value.pointer (some ⟨b_, 0, none⟩)), (5, [], Value.pointer (some ⟨b_1, 0, none⟩)), (6, [], Value.int .i64 i), (21, [], Value.slice (some ⟨(pblk q.ptr), (poff q.ptr), none⟩) q.len q.cap), (22, [], Value.int .i64 i)] (congrArg (fun pp => ([(1, [], Value.slice q.ptr q.len q.cap), (2, [], Value.pointer (some ⟨b_, 0, none⟩)), (5, [], Value.pointer (some ⟨b_1, 0, none⟩)), (6, [], Value.int .i64 i), (21, [], Value.slice pp q.len q.cap), (22, [], Value.int .i64 i)] : GEnv)) hp_14) ?_
        obtain ⟨h0, h1, h⟩ := h
        refine reg_indexS (t := 50) (e := 54) (x := (Go.Operand.tmp 21)) (ix := (Go.Operand.tmp 22)) (b := (pblk q.ptr)) (o := (poff q.ptr)) (l := q.len) (c := q.cap) (k := .i64) (j := i) (ty := 0) (dst := some 23) (sz := 2) (by kernel_rfl) (by kernel_rfl) (by kernel_rfl) (by kernel_rfl) (by kernel_rfl) h0 h1 ?_
        refine reg_run [] 3 [(1, [], Value.slice q.ptr q.len q.cap), (2, [], Value.pointer (some ⟨b_, 0, none⟩)), (5, [], Value.pointer (some ⟨b_1, 0, none⟩)), (6, [], Value.int .i64 i), (23, [], Value.pointer (some ⟨(pblk q.ptr), (poff q.ptr) + i.toNat * 2, none⟩))] (by kernel_rfl) (by kernel_rfl) ?_
        obtain ⟨v24, hc, h⟩ := h
        refine reg_loadN (t := 54) (a := (Go.Operand.tmp 23)) (b := (pblk q.ptr)) (o := ((poff q.ptr) + i.toNat * 2)) (ty := 54) (dst := some 24) [Value.int .u8 v24.Kind, Value.int .i64 v24.N] (by kernel_rfl) (by kernel_rfl) (by kernel_rfl) (k := 2) (by kernel_rfl) (by kernel_rfl) hc ?_
        refine reg_run [] 4 [(1, [], Value.slice q.ptr q.len q.cap), (2, [], Value.pointer (some ⟨b_, 0, none⟩)), (5, [], Value.pointer (some ⟨b_1, 0, none⟩)), (6, [], Value.int .i64 i), (24, [], Value.agg #[Value.int .u8 v24.Kind, Value.int .i64 v24.N])] (by kernel_rfl) (by kernel_rfl) ?_
        refine reg_enter (op := (Go.Op.call (Go.Call.mk (Go.Callee.value (Go.Operand.func 23)) #[(Go.Operand.const (Go.Value.pointer none)), (Go.Operand.const (Go.Value.pointer none)), (Go.Operand.tmp 24)] #[26, 27, 54]))) (ty := 4) (dst := some 25) 23 #[Value.pointer none, Value.pointer none, Value.agg #[Value.int .u8 v24.Kind, Value.int .i64 v24.N]] (by kernel_rfl) (fun ww => by kernel_rfl) (Calls.mono h ?_)
        rintro _ w5 ⟨v25, rfl, h⟩
        refine ⟨_, rfl, ?_⟩
        refine reg_run [.plain, .plain, .plain, .plain, .plain] 10 [(1, [], Value.slice q.ptr q.len q.cap), (2, [], Value.pointer (some ⟨b_, 0, none⟩)), (5, [], Value.pointer (some ⟨b_1, 0, none⟩)), (6, [], Value.int .i64 i), (27, [], Value.bool (!v25)), (28, [(27, false)], Value.pointer (some ⟨b_1, 0, none⟩)), (29, [(27, false)], Value.slice q.ptr q.len q.cap), (30, [(27, false)], Value.int .i64 i)] (by kernel_rfl) (by kernel_rfl) ?_
        refine reg_split 27 (!v25) (by kernel_rfl) (fun hb => ?_) (fun hb => ?_)
        · replace h := h.1 hb
          refine reg_run [] 10 [(1, [], Value.slice q.ptr q.len q.cap), (2, [], Value.pointer (some ⟨b_, 0, none⟩)), (5, [], Value.pointer (some ⟨b_1, 0, none⟩)), (6, [], Value.int .i64 i), (27, [], Value.bool true), (28, [], undef), (29, [], undef), (30, [], undef)] (by kernel_rfl) (by kernel_rfl) ?_
          refine reg_run [.skip, .skip, .skip, .skip, .plain, .plain, .skip, .skip, .skip, .plain, .plain, .skip, .skip, .skip, .plain] 25 [(1, [], Value.slice q.ptr q.len q.cap), (2, [], Value.pointer (some ⟨b_, 0, none⟩)), (5, [], Value.pointer (some ⟨b_1, 0, none⟩)), (6, [], Value.int .i64 i), (45, [], Value.bool true)] (by kernel_rfl) (by kernel_rfl) ?_
          refine reg_end [(1, Value.slice q.ptr q.len q.cap), (2, Value.pointer (some ⟨b_, 0, none⟩)), (5, Value.pointer (some ⟨b_1, 0, none⟩)), (6, Value.int .i64 i), (45, Value.bool true)] (by kernel_rfl) (by kernel_rfl) ?_
          exact ⟨[(1, Value.slice q.ptr q.len q.cap), (2, Value.pointer (some ⟨b_, 0, none⟩)), (5, Value.pointer (some ⟨b_1, 0, none⟩)), (6, Value.int .i64 i), (45, Value.bool true)], Sub.mk (by kernel_rfl), true, rfl, h⟩
        · replace h := h.2 hb
          refine reg_run [] 10 [(1, [], Value.slice q.ptr q.len q.cap), (2, [], Value.pointer (some ⟨b_, 0, none⟩)), (5, [], Value.pointer (some ⟨b_1, 0, none⟩)), (6, [], Value.int .i64 i), (27, [], Value.bool false), (28, [], Value.pointer (some ⟨b_1, 0, none⟩)), (29, [], Value.slice q.ptr q.len q.cap), (30, [], Value.int .i64 i)] (by kernel_rfl) (by kernel_rfl) ?_
          refine reg_run [] 10 [(1, [], Value.slice q.ptr q.len q.cap), (2, [], Value.pointer (some ⟨b_, 0, none⟩)), (5, [], Value.pointer (some ⟨b_1, 0, none⟩)), (6, [], Value.int .i64 i), (27, [], Value.bool false), (28, [], Value.pointer (some ⟨b_1, 0, none⟩)), (29, [], Value.slice q.ptr q.len q.cap), (30, [], Value.int .i64 i)] (by kernel_rfl) (by kernel_rfl) ?_
          obtain ⟨hp_15, h⟩ := h
          refine reg_conv [(1, [], Value.slice q.ptr q.len q.cap), (2, [], Value.pointer (some ⟨b_, 0, none⟩)), (5, [], Value.pointer (some ⟨b_1, 0, none⟩)), (6, [], Value.int .i64 i), (27, [], Value.bool false), (28, [], Value.pointer (some ⟨b_1, 0, none⟩)), (29, [], Value.slice (some ⟨(pblk q.ptr), (poff q.ptr), none⟩) q.len q.cap), (30, [], Value.int .i64 i)] (congrArg (fun pp => ([(1, [], Value.slice q.ptr q.len q.cap), (2, [], Value.pointer (some ⟨b_, 0, none⟩)), (5, [], Value.pointer (some ⟨b_1, 0, none⟩)), (6, [], Value.int .i64 i), (27, [], Value.bool false), (28, [], Value.pointer (some ⟨b_1, 0, none⟩)), (29, [], Value.slice pp q.len q.cap), (30, [], Value.int .i64 i)] : GEnv)) hp_15) ?_
          obtain ⟨h0, h1, h⟩ := h
          refine reg_indexS (t := 50) (e := 54) (x := (Go.Operand.tmp 29)) (ix := (Go.Operand.tmp 30)) (b := (pblk q.ptr)) (o := (poff q.ptr)) (l := q.len) (c := q.cap) (k := .i64) (j := i) (ty := 0) (dst := some 31) (sz := 2) (by kernel_rfl) (by kernel_rfl) (by kernel_rfl) (by kernel_rfl) (by kernel_rfl) h0 h1 ?_
          refine reg_run [] 11 [(1, [], Value.slice q.ptr q.len q.cap), (2, [], Value.pointer (some ⟨b_, 0, none⟩)), (5, [], Value.pointer (some ⟨b_1, 0, none⟩)), (6, [], Value.int .i64 i), (27, [], Value.bool false), (28, [], Value.pointer (some ⟨b_1, 0, none⟩)), (31, [], Value.pointer (some ⟨(pblk q.ptr), (poff q.ptr) + i.toNat * 2, none⟩))] (by kernel_rfl) (by kernel_rfl) ?_
          obtain ⟨v32, hc, h⟩ := h
          refine reg_loadN (t := 54) (a := (Go.Operand.tmp 31)) (b := (pblk q.ptr)) (o := ((poff q.ptr) + i.toNat * 2)) (ty := 54) (dst := some 32) [Value.int .u8 v32.Kind, Value.int .i64 v32.N] (by kernel_rfl) (by kernel_rfl) (by kernel_rfl) (k := 2) (by kernel_rfl) (by kernel_rfl) hc ?_
          refine reg_run [] 12 [(1, [], Value.slice q.ptr q.len q.cap), (2, [], Value.pointer (some ⟨b_, 0, none⟩)), (5, [], Value.pointer (some ⟨b_1, 0, none⟩)), (6, [], Value.int .i64 i), (27, [], Value.bool false), (28, [], Value.pointer (some ⟨b_1, 0, none⟩)), (32, [], Value.agg #[Value.int .u8 v32.Kind, Value.int .i64 v32.N])] (by kernel_rfl) (by kernel_rfl) ?_
          refine reg_enter (op := (Go.Op.call (Go.Call.mk (Go.Callee.value (Go.Operand.func 23)) #[(Go.Operand.tmp 28), (Go.Operand.const (Go.Value.pointer none)), (Go.Operand.tmp 32)] #[26, 27, 54]))) (ty := 4) (dst := some 33) 23 #[Value.pointer (some ⟨b_1, 0, none⟩), Value.pointer none, Value.agg #[Value.int .u8 v32.Kind, Value.int .i64 v32.N]] (by kernel_rfl) (fun ww => by kernel_rfl) (Calls.mono h ?_)
          rintro _ w6 ⟨v33, rfl, h⟩
          refine ⟨_, rfl, ?_⟩
          refine reg_run [.sure, .plain, .plain, .plain] 17 [(1, [], Value.slice q.ptr q.len q.cap), (2, [], Value.pointer (some ⟨b_, 0, none⟩)), (5, [], Value.pointer (some ⟨b_1, 0, none⟩)), (6, [], Value.int .i64 i), (36, [], Value.bool (!v33)), (37, [(36, false)], Value.pointer (some ⟨b_1, 0, none⟩))] (by kernel_rfl) (by kernel_rfl) ?_
          refine reg_split 36 (!v33) (by kernel_rfl) (fun hb => ?_) (fun hb => ?_)
          · replace h := h.1 hb
            refine reg_run [] 17 [(1, [], Value.slice q.ptr q.len q.cap), (2, [], Value.pointer (some ⟨b_, 0, none⟩)), (5, [], Value.pointer (some ⟨b_1, 0, none⟩)), (6, [], Value.int .i64 i), (36, [], Value.bool true), (37, [], undef)] (by kernel_rfl) (by kernel_rfl) ?_
            refine reg_run [.skip, .skip, .plain, .plain, .skip, .skip, .skip, .plain] 25 [(1, [], Value.slice q.ptr q.len q.cap), (2, [], Value.pointer (some ⟨b_, 0, none⟩)), (5, [], Value.pointer (some ⟨b_1, 0, none⟩)), (6, [], Value.int .i64 i), (45, [], Value.bool true)] (by kernel_rfl) (by kernel_rfl) ?_
            refine reg_end [(1, Value.slice q.ptr q.len q.cap), (2, Value.pointer (some ⟨b_, 0, none⟩)), (5, Value.pointer (some ⟨b_1, 0, none⟩)), (6, Value.int .i64 i), (45, Value.bool true)] (by kernel_rfl) (by kernel_rfl) ?_
            exact ⟨[(1, Value.slice q.ptr q.len q.cap), (2, Value.pointer (some ⟨b_, 0, none⟩)), (5, Value.pointer (some ⟨b_1, 0, none⟩)), (6, Value.int .i64 i), (45, Value.bool true)], Sub.mk (by kernel_rfl), true, rfl, h⟩
          · replace h := h.2 hb
            refine reg_run [] 17 [(1, [], Value.slice q.ptr q.len q.cap), (2, [], Value.pointer (some ⟨b_, 0, none⟩)), (5, [], Value.pointer (some ⟨b_1, 0, none⟩)), (6, [], Value.int .i64 i), (36, [], Value.bool false), (37, [], Value.pointer (some ⟨b_1, 0, none⟩))] (by kernel_rfl) (by kernel_rfl) ?_
            refine reg_run [] 17 [(1, [], Value.slice q.ptr q.len q.cap), (2, [], Value.pointer (some ⟨b_, 0, none⟩)), (5, [], Value.pointer (some ⟨b_1, 0, none⟩)), (6, [], Value.int .i64 i), (36, [], Value.bool false), (37, [], Value.pointer (some ⟨b_1, 0, none⟩))] (by kernel_rfl) (by kernel_rfl) ?_
            refine reg_enter (op := (Go.Op.call (Go.Call.mk (Go.Callee.value (Go.Operand.func 17)) #[(Go.Operand.tmp 37)] #[26]))) (ty := 3) (dst := some 38) 17 #[Value.pointer (some ⟨b_1, 0, none⟩)] (by kernel_rfl) (fun ww => by kernel_rfl) (Calls.mono h ?_)
            rintro _ w7 ⟨v38, rfl, h⟩
            refine ⟨_, rfl, ?_⟩
            refine reg_run [.sure, .plain, .plain, .plain] 22 [(1, [], Value.slice q.ptr q.len q.cap), (2, [], Value.pointer (some ⟨b_, 0, none⟩)), (5, [], Value.pointer (some ⟨b_1, 0, none⟩)), (6, [], Value.int .i64 i), (41, [], Value.bool (v38 != 0)), (42, [(41, false)], Value.pointer (some ⟨b_1, 0, none⟩))] (by kernel_rfl) (by kernel_rfl) ?_
            refine reg_split 41 (v38 != 0) (by kernel_rfl) (fun hb => ?_) (fun hb => ?_)
            · replace h := h.1 hb
              refine reg_run [] 22 [(1, [], Value.slice q.ptr q.len q.cap), (2, [], Value.pointer (some ⟨b_, 0, none⟩)), (5, [], Value.pointer (some ⟨b_1, 0, none⟩)), (6, [], Value.int .i64 i), (41, [], Value.bool true), (42, [], undef)] (by kernel_rfl) (by kernel_rfl) ?_
              refine reg_run [.skip, .skip, .plain] 25 [(1, [], Value.slice q.ptr q.len q.cap), (2, [], Value.pointer (some ⟨b_, 0, none⟩)), (5, [], Value.pointer (some ⟨b_1, 0, none⟩)), (6, [], Value.int .i64 i), (45, [], Value.bool true)] (by kernel_rfl) (by kernel_rfl) ?_
              refine reg_end [(1, Value.slice q.ptr q.len q.cap), (2, Value.pointer (some ⟨b_, 0, none⟩)), (5, Value.pointer (some ⟨b_1, 0, none⟩)), (6, Value.int .i64 i), (45, Value.bool true)] (by kernel_rfl) (by kernel_rfl) ?_
              exact ⟨[(1, Value.slice q.ptr q.len q.cap), (2, Value.pointer (some ⟨b_, 0, none⟩)), (5, Value.pointer (some ⟨b_1, 0, none⟩)), (6, Value.int .i64 i), (45, Value.bool true)], Sub.mk (by kernel_rfl), true, rfl, h⟩
            · replace h := h.2 hb
              refine reg_run [] 22 [(1, [], Value.slice q.ptr q.len q.cap), (2, [], Value.pointer (some ⟨b_, 0, none⟩)), (5, [], Value.pointer (some ⟨b_1, 0, none⟩)), (6, [], Value.int .i64 i), (41, [], Value.bool false), (42, [], Value.pointer (some ⟨b_1, 0, none⟩))] (by kernel_rfl) (by kernel_rfl) ?_
              refine reg_run [] 22 [(1, [], Value.slice q.ptr q.len q.cap), (2, [], Value.pointer (some ⟨b_, 0, none⟩)), (5, [], Value.pointer (some ⟨b_1, 0, none⟩)), (6, [], Value.int .i64 i), (41, [], Value.bool false), (42, [], Value.pointer (some ⟨b_1, 0, none⟩))] (by kernel_rfl) (by kernel_rfl) ?_
              refine reg_enter (op := (Go.Op.call (Go.Call.mk (Go.Callee.value (Go.Operand.func 25)) #[(Go.Operand.tmp 42)] #[26]))) (ty := 3) (dst := some 43) 25 #[Value.pointer (some ⟨b_1, 0, none⟩)] (by kernel_rfl) (fun ww => by kernel_rfl) (Calls.mono h ?_)
              rintro _ w8 ⟨v43, rfl, h⟩
              refine ⟨_, rfl, ?_⟩
              refine reg_run [.sure, .plain] 25 [(1, [], Value.slice q.ptr q.len q.cap), (2, [], Value.pointer (some ⟨b_, 0, none⟩)), (5, [], Value.pointer (some ⟨b_1, 0, none⟩)), (6, [], Value.int .i64 i), (45, [], Value.bool (v43 != 0))] (by kernel_rfl) (by kernel_rfl) ?_
              refine reg_end [(1, Value.slice q.ptr q.len q.cap), (2, Value.pointer (some ⟨b_, 0, none⟩)), (5, Value.pointer (some ⟨b_1, 0, none⟩)), (6, Value.int .i64 i), (45, Value.bool (v43 != 0))] (by kernel_rfl) (by kernel_rfl) ?_
              exact ⟨[(1, Value.slice q.ptr q.len q.cap), (2, Value.pointer (some ⟨b_, 0, none⟩)), (5, Value.pointer (some ⟨b_1, 0, none⟩)), (6, Value.int .i64 i), (45, Value.bool (v43 != 0))], Sub.mk (by kernel_rfl), (v43 != 0), rfl, h⟩
      · rintro _ w4 ⟨t45, rfl, h⟩
        unfold F_towpathlaw16_FeedNone_k1 at h
        refine wpE_cond (o := (Operand.tmp 45)) (b := t45) (x := c_towpathlaw16_FeedNone_25) (y := c_towpathlaw16_FeedNone_29) (by kernel_rfl) (by kernel_rfl) (fun hb => ?_) (fun hb => ?_)
        · replace h := h.1 hb
          refine wpE_seq (x := c_towpathlaw16_FeedNone_26) (y := c_towpathlaw16_FeedNone_28) (by kernel_rfl) ?_
          refine wpE_region (id := 6) (ops := r_towpathlaw16_FeedNone_26) (by kernel_rfl) ?_
          refine reg_run [.plain] 1 [(4, [], Value.bool false)] (by kernel_rfl) (by kernel_rfl) ?_
          refine reg_end [(4, Value.bool false)] (by kernel_rfl) (by kernel_rfl) ?_
          change WpE _ _ c_towpathlaw16_FeedNone_28 _ _ _
          refine wpE_ret (by kernel_rfl) ?_
          repeat (first | refine seqQ_ret ?_ | refine blockQ_ret ?_ | refine loopQ_ret ?_ | refine cutQ_ret ?_)
          exact retS (rs := [(Go.ResultVar.tmp 4)]) (v := Value.bool false) (by kernel_rfl) (⟨by kernel_rfl, trivial⟩) ⟨false, rfl, h⟩
        · replace h := h.2 hb
          refine wpE_skip (by kernel_rfl) ?_
          change WpE _ _ c_towpathlaw16_FeedNone_30 _ _ _
          refine wpE_region (id := 4) (ops := r_towpathlaw16_FeedNone_30) (by kernel_rfl) ?_
          refine reg_run [.plain, .plain, .plain] 3 [(1, [], Value.slice q.ptr q.len q.cap), (2, [], Value.pointer (some ⟨b_, 0, none⟩)), (5, [], Value.pointer (some ⟨b_1, 0, none⟩)), (6, [], Value.int .i64 (IntKind.i64.wrap (i + 1)))] (by kernel_rfl) (by kernel_rfl) ?_
          refine reg_end [(1, Value.slice q.ptr q.len q.cap), (2, Value.pointer (some ⟨b_, 0, none⟩)), (5, Value.pointer (some ⟨b_1, 0, none⟩)), (6, Value.int .i64 (IntKind.i64.wrap (i + 1)))] (by kernel_rfl) (by kernel_rfl) ?_
          have hb_ := again__h _ _ h
          exact ⟨_, hb_.2, [(1, Value.slice q.ptr q.len q.cap), (2, Value.pointer (some ⟨b_, 0, none⟩)), (5, Value.pointer (some ⟨b_1, 0, none⟩)), (6, Value.int .i64 (IntKind.i64.wrap (i + 1)))], Sub.mk (by kernel_rfl), (IntKind.i64.wrap (i + 1)), rfl, hb_.1, rfl⟩
    · replace h := h.2 hb
      refine wpE_exit (id := 0) (by kernel_rfl) ?_
      change WpE _ _ c_towpathlaw16_FeedNone_32 _ _ _
      refine wpE_seq (x := c_towpathlaw16_FeedNone_33) (y := c_towpathlaw16_FeedNone_35) (by kernel_rfl) ?_
      refine wpE_region (id := 7) (ops := r_towpathlaw16_FeedNone_33) (by kernel_rfl) ?_
      refine reg_run [.plain] 1 [(2, [], Value.pointer (some ⟨b_, 0, none⟩)), (47, [], Value.pointer (some ⟨b_, 0, none⟩))] (by kernel_rfl) (by kernel_rfl) ?_
      obtain ⟨v48, hc, h⟩ := h
      refine reg_load1 (t := 3) (a := (Go.Operand.tmp 47)) (b := b_) (o := 0) (ty := 3) (dst := some 48) (by kernel_rfl) (by kernel_rfl) (by kernel_rfl) hc ?_
      refine reg_run [.plain] 3 [(2, [], Value.pointer (some ⟨b_, 0, none⟩)), (48, [], Value.int .i64 v48), (49, [], Value.pointer (some ⟨b_, 1, none⟩))] (by kernel_rfl) (by kernel_rfl) ?_
      obtain ⟨v50, hc, h⟩ := h
      refine reg_load1 (t := 23) (a := (Go.Operand.tmp 49)) (b := b_) (o := 1) (ty := 23) (dst := some 50) (by kernel_rfl) (by kernel_rfl) (by kernel_rfl) hc ?_
      refine reg_run [.plain] 5 [(48, [], Value.int .i64 v48), (50, [], Value.slice v50.ptr v50.len v50.cap), (51, [], Value.pointer (some ⟨b_, 2, none⟩))] (by kernel_rfl) (by kernel_rfl) ?_
      obtain ⟨v52, hc, h⟩ := h
      refine reg_load1 (t := 3) (a := (Go.Operand.tmp 51)) (b := b_) (o := 2) (ty := 3) (dst := some 52) (by kernel_rfl) (by kernel_rfl) (by kernel_rfl) hc ?_
      refine reg_run [] 6 [(48, [], Value.int .i64 v48), (50, [], Value.slice v50.ptr v50.len v50.cap), (52, [], Value.int .i64 v52)] (by kernel_rfl) (by kernel_rfl) ?_
      refine reg_enter (op := (Go.Op.call (Go.Call.mk (Go.Callee.value (Go.Operand.func 27)) #[(Go.Operand.const (Go.Value.pointer none)), (Go.Operand.tmp 48), (Go.Operand.tmp 50), (Go.Operand.tmp 52)] #[28, 3, 23, 3]))) (ty := 60) (dst := some 53) 27 #[Value.pointer none, Value.int .i64 v48, Value.slice v50.ptr v50.len v50.cap, Value.int .i64 v52] (by kernel_rfl) (fun ww => by kernel_rfl) (Calls.mono h ?_)
      rintro _ w9 ⟨f, e, rfl, h⟩
      refine ⟨_, rfl, ?_⟩
      refine reg_run [.plain, .plain, .plain, .plain, .plain] 12 [(7, [], Value.pointer f), (8, [], Value.int .i64 e)] (by kernel_rfl) (by kernel_rfl) ?_
      refine reg_end [(7, Value.pointer f), (8, Value.int .i64 e)] (by kernel_rfl) (by kernel_rfl) ?_
      change WpE _ _ c_towpathlaw16_FeedNone_35 _ _ _
      refine wpE_seq (x := c_towpathlaw16_FeedNone_36) (y := c_towpathlaw16_FeedNone_38) (by kernel_rfl) ?_
      refine wpE_region (id := 8) (ops := r_towpathlaw16_FeedNone_36) (by kernel_rfl) ?_
      refine reg_run [.plain] 1 [(8, [], Value.int .i64 e), (56, [], Value.pointer f)] (by kernel_rfl) (by kernel_rfl) ?_
      refine reg_val (op := (Go.Op.binOp Go.BinOp.eql 26 (Go.Operand.tmp 56) (Go.Operand.const (Go.Value.pointer none)) 26)) (ty := 4) (dst := some 57) (Value.bool f.isNone) (by kernel_rfl) (fun ww => run_ptr_eql_R (p := f) (by kernel_rfl) (by kernel_rfl) (by kernel_rfl) ww) ?_
      refine reg_run [.plain, .plain, .plain, .pick, .plain] 7 [(62, [], Value.bool (f.isNone && (e == 2)))] (by kernel_rfl) (by kernel_rfl) ?_
      refine reg_split 62 (f.isNone && (e == 2)) (by kernel_rfl) (fun hb => ?_) (fun hb => ?_)
      · replace h := h.1 hb
        refine reg_run [] 7 [(62, [], Value.bool true)] (by kernel_rfl) (by kernel_rfl) ?_
        refine reg_run [] 7 [(62, [], Value.bool true)] (by kernel_rfl) (by kernel_rfl) ?_
        refine reg_enter (op := (Go.Op.call (Go.Call.mk (Go.Callee.value (Go.Operand.func 12)) #[] #[]))) (ty := 4) (dst := some 63) 12 #[] (by kernel_rfl) (fun ww => by kernel_rfl) (Calls.mono h ?_)
        rintro _ w10 ⟨v63, rfl, h⟩
        refine ⟨_, rfl, ?_⟩
        refine reg_run [.plain, .plain] 10 [(4, [], Value.bool v63)] (by kernel_rfl) (by kernel_rfl) ?_
        refine reg_end [(4, Value.bool v63)] (by kernel_rfl) (by kernel_rfl) ?_
        change WpE _ _ c_towpathlaw16_FeedNone_38 _ _ _
        refine wpE_ret (by kernel_rfl) ?_
        repeat (first | refine seqQ_ret ?_ | refine blockQ_ret ?_ | refine loopQ_ret ?_ | refine cutQ_ret ?_)
        exact retS (rs := [(Go.ResultVar.tmp 4)]) (v := Value.bool v63) (by kernel_rfl) (⟨by kernel_rfl, trivial⟩) ⟨v63, rfl, h⟩
      · replace h := h.2 hb
        refine reg_run [] 7 [(62, [], Value.bool false)] (by kernel_rfl) (by kernel_rfl) ?_
        refine reg_run [.skip, .plain, .plain] 10 [(4, [], Value.bool false)] (by kernel_rfl) (by kernel_rfl) ?_
        refine reg_end [(4, Value.bool false)] (by kernel_rfl) (by kernel_rfl) ?_
        change WpE _ _ c_towpathlaw16_FeedNone_38 _ _ _
        refine wpE_ret (by kernel_rfl) ?_
        repeat (first | refine seqQ_ret ?_ | refine blockQ_ret ?_ | refine loopQ_ret ?_ | refine cutQ_ret ?_)
        exact retS (rs := [(Go.ResultVar.tmp 4)]) (v := Value.bool false) (by kernel_rfl) (⟨by kernel_rfl, trivial⟩) ⟨false, rfl, h⟩
  · rintro e w' ⟨v, rfl, r0, rfl, h⟩; exact ⟨r0, rfl, h⟩
end Go.Proofs.Ytpedclhflmhakaa
