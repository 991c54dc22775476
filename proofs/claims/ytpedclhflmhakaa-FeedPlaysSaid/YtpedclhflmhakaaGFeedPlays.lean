/- WRITTEN BY PROGRAM (dec.py): for each Go function the clean formula F, the call's contract C, and the proof S that F gives C. -/
import Derived.Test.YtpedclhflmhakaaRows
import Derived.Test.YtpedclhflmhakaaGF
namespace Go.Proofs.Ytpedclhflmhakaa
open Go
set_option linter.unusedVariables false

/-! ### towpath/towpathlaw16.FeedPlays (function 5) -/
noncomputable def c_towpathlaw16_FeedPlays_0 : Code := (Try.f5.body).getD Code.skip
noncomputable def c_towpathlaw16_FeedPlays_1 : Code := Code.l c_towpathlaw16_FeedPlays_0
noncomputable def r_towpathlaw16_FeedPlays_1 : Array Oper := Code.ops c_towpathlaw16_FeedPlays_1
noncomputable def c_towpathlaw16_FeedPlays_3 : Code := Code.r c_towpathlaw16_FeedPlays_0
noncomputable def c_towpathlaw16_FeedPlays_4 : Code := Code.l c_towpathlaw16_FeedPlays_3
noncomputable def r_towpathlaw16_FeedPlays_4 : Array Oper := Code.ops c_towpathlaw16_FeedPlays_4
noncomputable def c_towpathlaw16_FeedPlays_6 : Code := Code.r c_towpathlaw16_FeedPlays_3
noncomputable def c_towpathlaw16_FeedPlays_7 : Code := Code.l c_towpathlaw16_FeedPlays_6
noncomputable def c_towpathlaw16_FeedPlays_8 : Code := Code.l c_towpathlaw16_FeedPlays_7
noncomputable def r_towpathlaw16_FeedPlays_8 : Array Oper := Code.ops c_towpathlaw16_FeedPlays_8
noncomputable def c_towpathlaw16_FeedPlays_10 : Code := Code.r c_towpathlaw16_FeedPlays_7
noncomputable def c_towpathlaw16_FeedPlays_11 : Code := Code.l c_towpathlaw16_FeedPlays_10
noncomputable def c_towpathlaw16_FeedPlays_12 : Code := Code.l c_towpathlaw16_FeedPlays_11
noncomputable def r_towpathlaw16_FeedPlays_12 : Array Oper := Code.ops c_towpathlaw16_FeedPlays_12
noncomputable def c_towpathlaw16_FeedPlays_14 : Code := Code.r c_towpathlaw16_FeedPlays_11
noncomputable def c_towpathlaw16_FeedPlays_15 : Code := Code.r c_towpathlaw16_FeedPlays_10
noncomputable def c_towpathlaw16_FeedPlays_16 : Code := Code.r c_towpathlaw16_FeedPlays_6
noncomputable def c_towpathlaw16_FeedPlays_17 : Code := Code.l c_towpathlaw16_FeedPlays_16
noncomputable def c_towpathlaw16_FeedPlays_18 : Code := Code.l c_towpathlaw16_FeedPlays_17
noncomputable def r_towpathlaw16_FeedPlays_18 : Array Oper := Code.ops c_towpathlaw16_FeedPlays_18
noncomputable def c_towpathlaw16_FeedPlays_20 : Code := Code.r c_towpathlaw16_FeedPlays_17
noncomputable def c_towpathlaw16_FeedPlays_21 : Code := Code.l c_towpathlaw16_FeedPlays_20
noncomputable def c_towpathlaw16_FeedPlays_22 : Code := Code.l c_towpathlaw16_FeedPlays_21
noncomputable def c_towpathlaw16_FeedPlays_23 : Code := Code.l c_towpathlaw16_FeedPlays_22
noncomputable def c_towpathlaw16_FeedPlays_24 : Code := Code.l c_towpathlaw16_FeedPlays_23
noncomputable def r_towpathlaw16_FeedPlays_24 : Array Oper := Code.ops c_towpathlaw16_FeedPlays_24
noncomputable def c_towpathlaw16_FeedPlays_26 : Code := Code.r c_towpathlaw16_FeedPlays_23
noncomputable def c_towpathlaw16_FeedPlays_27 : Code := Code.l c_towpathlaw16_FeedPlays_26
noncomputable def c_towpathlaw16_FeedPlays_28 : Code := Code.r c_towpathlaw16_FeedPlays_26
noncomputable def c_towpathlaw16_FeedPlays_29 : Code := Code.r c_towpathlaw16_FeedPlays_22
noncomputable def c_towpathlaw16_FeedPlays_30 : Code := Code.l c_towpathlaw16_FeedPlays_29
noncomputable def c_towpathlaw16_FeedPlays_31 : Code := Code.l c_towpathlaw16_FeedPlays_30
noncomputable def c_towpathlaw16_FeedPlays_32 : Code := Code.l c_towpathlaw16_FeedPlays_31
noncomputable def r_towpathlaw16_FeedPlays_32 : Array Oper := Code.ops c_towpathlaw16_FeedPlays_32
noncomputable def c_towpathlaw16_FeedPlays_34 : Code := Code.r c_towpathlaw16_FeedPlays_31
noncomputable def c_towpathlaw16_FeedPlays_35 : Code := Code.l c_towpathlaw16_FeedPlays_34
noncomputable def c_towpathlaw16_FeedPlays_36 : Code := Code.l c_towpathlaw16_FeedPlays_35
noncomputable def r_towpathlaw16_FeedPlays_36 : Array Oper := Code.ops c_towpathlaw16_FeedPlays_36
noncomputable def c_towpathlaw16_FeedPlays_38 : Code := Code.r c_towpathlaw16_FeedPlays_35
noncomputable def c_towpathlaw16_FeedPlays_39 : Code := Code.r c_towpathlaw16_FeedPlays_34
noncomputable def c_towpathlaw16_FeedPlays_40 : Code := Code.r c_towpathlaw16_FeedPlays_29
noncomputable def r_towpathlaw16_FeedPlays_40 : Array Oper := Code.ops c_towpathlaw16_FeedPlays_40
noncomputable def c_towpathlaw16_FeedPlays_42 : Code := Code.r c_towpathlaw16_FeedPlays_16
noncomputable def c_towpathlaw16_FeedPlays_43 : Code := Code.l c_towpathlaw16_FeedPlays_42
noncomputable def r_towpathlaw16_FeedPlays_43 : Array Oper := Code.ops c_towpathlaw16_FeedPlays_43
noncomputable def c_towpathlaw16_FeedPlays_45 : Code := Code.r c_towpathlaw16_FeedPlays_42

set_option maxRecDepth 100000 in
set_option maxHeartbeats 4000000 in
theorem S_towpathlaw16_FeedPlays {l_ : Slc} {m_ : T_towpathlaw16_Made} {q : Slc} {w : World} {R : Bool → World → Prop} (h : F_towpathlaw16_FeedPlays l_ m_ q R w) : C_towpathlaw16_FeedPlays l_ m_ q w R := by
  unfold F_towpathlaw16_FeedPlays at h
  unfold C_towpathlaw16_FeedPlays
  refine Calls.mono (calls_of_wpE (args := [Value.slice l_.ptr l_.len l_.cap, Value.agg #[Value.int .i64 m_.Mark, Value.slice m_.Beyond.ptr m_.Beyond.len m_.Beyond.cap, Value.int .i64 m_.Window], Value.slice q.ptr q.len q.cap]) (R := fun v w' => ∃ (r0 : Bool), v = Value.bool r0 ∧ R r0 w') Try.func5 (c := c_towpathlaw16_FeedPlays_0) (by kernel_rfl) 55 (by kernel_rfl) (by kernel_rfl) [(0, Value.slice l_.ptr l_.len l_.cap), (1, Value.agg #[Value.int .i64 m_.Mark, Value.slice m_.Beyond.ptr m_.Beyond.len m_.Beyond.cap, Value.int .i64 m_.Window]), (2, Value.slice q.ptr q.len q.cap)] (by kernel_rfl) ?_) ?_
  · refine wpE_seq (x := c_towpathlaw16_FeedPlays_1) (y := c_towpathlaw16_FeedPlays_3) (by kernel_rfl) ?_
    refine wpE_region (id := 0) (ops := r_towpathlaw16_FeedPlays_1) (by kernel_rfl) ?_
    refine reg_run [] 0 [(0, [], Value.slice l_.ptr l_.len l_.cap), (1, [], Value.agg #[Value.int .i64 m_.Mark, Value.slice m_.Beyond.ptr m_.Beyond.len m_.Beyond.cap, Value.int .i64 m_.Window]), (2, [], Value.slice q.ptr q.len q.cap)] (by kernel_rfl) (by kernel_rfl) ?_
    refine reg_new (op := (Go.Op.box 25 (Go.Operand.tmp 1))) (ty := 0) (dst := some 4) (fun bb => Value.pointer (some ⟨bb, 0, none⟩)) (Obj.cells ([Value.int .i64 m_.Mark, Value.slice m_.Beyond.ptr m_.Beyond.len m_.Beyond.cap, Value.int .i64 m_.Window]).toArray ty_towpathlaw16_Made (0, 0)) (by kernel_rfl) (by kernel_rfl) (fun b_ w1 hb hw => ?_)
    replace h := h b_ w1 hb hw
    clear hb hw
    refine reg_run [.plain] 2 [(0, [], Value.slice l_.ptr l_.len l_.cap), (2, [], Value.slice q.ptr q.len q.cap), (4, [], Value.pointer (some ⟨b_, 0, none⟩))] (by kernel_rfl) (by kernel_rfl) ?_
    refine reg_end [(0, Value.slice l_.ptr l_.len l_.cap), (2, Value.slice q.ptr q.len q.cap), (4, Value.pointer (some ⟨b_, 0, none⟩))] (by kernel_rfl) (by kernel_rfl) ?_
    change WpE _ _ c_towpathlaw16_FeedPlays_3 _ _ _
    refine wpE_seq (x := c_towpathlaw16_FeedPlays_4) (y := c_towpathlaw16_FeedPlays_6) (by kernel_rfl) ?_
    refine wpE_region (id := 1) (ops := r_towpathlaw16_FeedPlays_4) (by kernel_rfl) ?_
    refine reg_run [.plain] 1 [(2, [], Value.slice q.ptr q.len q.cap), (4, [], Value.pointer (some ⟨b_, 0, none⟩)), (13, [], Value.slice l_.ptr l_.len l_.cap)] (by kernel_rfl) (by kernel_rfl) ?_
    obtain ⟨v14, hc, h⟩ := h
    refine reg_loadN (t := 25) (a := (Go.Operand.tmp 4)) (b := b_) (o := 0) (ty := 25) (dst := some 14) [Value.int .i64 v14.Mark, Value.slice v14.Beyond.ptr v14.Beyond.len v14.Beyond.cap, Value.int .i64 v14.Window] (by kernel_rfl) (by kernel_rfl) (by kernel_rfl) (k := 3) (by kernel_rfl) (by kernel_rfl) hc ?_
    refine reg_run [] 2 [(2, [], Value.slice q.ptr q.len q.cap), (13, [], Value.slice l_.ptr l_.len l_.cap), (14, [], Value.agg #[Value.int .i64 v14.Mark, Value.slice v14.Beyond.ptr v14.Beyond.len v14.Beyond.cap, Value.int .i64 v14.Window])] (by kernel_rfl) (by kernel_rfl) ?_
    refine reg_enter (op := (Go.Op.call (Go.Call.mk (Go.Callee.value (Go.Operand.func 11)) #[(Go.Operand.tmp 13), (Go.Operand.tmp 14)] #[22, 25]))) (ty := 29) (dst := some 15) 11 #[Value.slice l_.ptr l_.len l_.cap, Value.agg #[Value.int .i64 v14.Mark, Value.slice v14.Beyond.ptr v14.Beyond.len v14.Beyond.cap, Value.int .i64 v14.Window]] (by kernel_rfl) (fun ww => by kernel_rfl) (Calls.mono h ?_)
    rintro _ w2 ⟨f, x, v15_2, ok, rfl, h⟩
    refine ⟨_, rfl, ?_⟩
    refine reg_run [.plain, .plain, .plain, .plain, .plain, .plain, .plain, .plain, .plain] 12 [(2, [], Value.slice q.ptr q.len q.cap), (7, [], Value.pointer f), (8, [], Value.pointer x), (10, [], Value.bool ok)] (by kernel_rfl) (by kernel_rfl) ?_
    refine reg_end [(2, Value.slice q.ptr q.len q.cap), (7, Value.pointer f), (8, Value.pointer x), (10, Value.bool ok)] (by kernel_rfl) (by kernel_rfl) ?_
    change WpE _ _ c_towpathlaw16_FeedPlays_6 _ _ _
    refine wpE_seq (x := c_towpathlaw16_FeedPlays_7) (y := c_towpathlaw16_FeedPlays_16) (by kernel_rfl) ?_
    refine wpE_seq (x := c_towpathlaw16_FeedPlays_8) (y := c_towpathlaw16_FeedPlays_10) (by kernel_rfl) ?_
    refine wpE_region (id := 2) (ops := r_towpathlaw16_FeedPlays_8) (by kernel_rfl) ?_
    refine reg_run [.plain, .plain] 2 [(2, [], Value.slice q.ptr q.len q.cap), (7, [], Value.pointer f), (8, [], Value.pointer x), (21, [], Value.bool (!ok))] (by kernel_rfl) (by kernel_rfl) ?_
    refine reg_end [(2, Value.slice q.ptr q.len q.cap), (7, Value.pointer f), (8, Value.pointer x), (21, Value.bool (!ok))] (by kernel_rfl) (by kernel_rfl) ?_
    change WpE _ _ c_towpathlaw16_FeedPlays_10 _ _ _
    refine wpE_cond (o := (Operand.tmp 21)) (b := (!ok)) (x := c_towpathlaw16_FeedPlays_11) (y := c_towpathlaw16_FeedPlays_15) (by kernel_rfl) (by kernel_rfl) (fun hb => ?_) (fun hb => ?_)
    · replace h := h.1 hb
      refine wpE_seq (x := c_towpathlaw16_FeedPlays_12) (y := c_towpathlaw16_FeedPlays_14) (by kernel_rfl) ?_
      refine wpE_region (id := 3) (ops := r_towpathlaw16_FeedPlays_12) (by kernel_rfl) ?_
      refine reg_run [.plain] 1 [(6, [], Value.bool false)] (by kernel_rfl) (by kernel_rfl) ?_
      refine reg_end [(6, Value.bool false)] (by kernel_rfl) (by kernel_rfl) ?_
      change WpE _ _ c_towpathlaw16_FeedPlays_14 _ _ _
      refine wpE_ret (by kernel_rfl) ?_
      repeat (first | refine seqQ_ret ?_ | refine blockQ_ret ?_ | refine loopQ_ret ?_ | refine cutQ_ret ?_)
      exact retS (rs := [(Go.ResultVar.tmp 6)]) (v := Value.bool false) (by kernel_rfl) (⟨by kernel_rfl, trivial⟩) ⟨false, rfl, h⟩
    · replace h := h.2 hb
      refine wpE_skip (by kernel_rfl) ?_
      change WpE _ _ c_towpathlaw16_FeedPlays_16 _ _ _
      refine wpE_seq (x := c_towpathlaw16_FeedPlays_17) (y := c_towpathlaw16_FeedPlays_42) (by kernel_rfl) ?_
      refine wpE_seq (x := c_towpathlaw16_FeedPlays_18) (y := c_towpathlaw16_FeedPlays_20) (by kernel_rfl) ?_
      refine wpE_region (id := 4) (ops := r_towpathlaw16_FeedPlays_18) (by kernel_rfl) ?_
      refine reg_run [.plain] 1 [(2, [], Value.slice q.ptr q.len q.cap), (7, [], Value.pointer f), (8, [], Value.pointer x), (11, [], Value.int .i64 0)] (by kernel_rfl) (by kernel_rfl) ?_
      refine reg_end [(2, Value.slice q.ptr q.len q.cap), (7, Value.pointer f), (8, Value.pointer x), (11, Value.int .i64 0)] (by kernel_rfl) (by kernel_rfl) ?_
      change WpE _ _ c_towpathlaw16_FeedPlays_20 _ _ _
      refine wpE_block (id := 0) (x := c_towpathlaw16_FeedPlays_21) (by kernel_rfl) ?_
      obtain ⟨I, μ, h0, hr⟩ := h
      refine wpE_loop (x := c_towpathlaw16_FeedPlays_22) (by kernel_rfl) (fun m l w => ∃ (i : Int), l = [(2, Value.slice q.ptr q.len q.cap), (7, Value.pointer f), (8, Value.pointer x), (11, Value.int .i64 i)] ∧ I i w ∧ μ i w = m) (l' := [(2, Value.slice q.ptr q.len q.cap), (7, Value.pointer f), (8, Value.pointer x), (11, Value.int .i64 0)]) (Sub.mk (by kernel_rfl)) ⟨0, rfl, h0, rfl⟩ ?_
      rintro _ _ w3 ⟨i, rfl, hI, rfl⟩
      obtain ⟨again_, again__h, h⟩ : ∃ again_ : Int → World → Prop, (∀ i' w', again_ i' w' → I i' w' ∧ μ i' w' < μ i w3) ∧ F_towpathlaw16_FeedPlays_L0 q R f x again_ i w3 := ⟨_, fun _ _ h => h, hr i w3 hI⟩
      clear h0 hI
      unfold F_towpathlaw16_FeedPlays_L0 at h
      refine wpE_seq (x := c_towpathlaw16_FeedPlays_23) (y := c_towpathlaw16_FeedPlays_29) (by kernel_rfl) ?_
      refine wpE_seq (x := c_towpathlaw16_FeedPlays_24) (y := c_towpathlaw16_FeedPlays_26) (by kernel_rfl) ?_
      refine wpE_region (id := 5) (ops := r_towpathlaw16_FeedPlays_24) (by kernel_rfl) ?_
      refine reg_run [.plain, .plain, .plain, .plain, .plain, .plain, .plain, .pick] 8 [(2, [], Value.slice q.ptr q.len q.cap), (7, [], Value.pointer f), (8, [], Value.pointer x), (11, [], Value.int .i64 i), (29, [], Value.bool ((decide (i < ((q.len : Nat) : Int))) && (decide (i < 400))))] (by kernel_rfl) (by kernel_rfl) ?_
      refine reg_end [(2, Value.slice q.ptr q.len q.cap), (7, Value.pointer f), (8, Value.pointer x), (11, Value.int .i64 i), (29, Value.bool ((decide (i < ((q.len : Nat) : Int))) && (decide (i < 400))))] (by kernel_rfl) (by kernel_rfl) ?_
      change WpE _ _ c_towpathlaw16_FeedPlays_26 _ _ _
      refine wpE_cond (o := (Operand.tmp 29)) (b := ((decide (i < ((q.len : Nat) : Int))) && (decide (i < 400)))) (x := c_towpathlaw16_FeedPlays_27) (y := c_towpathlaw16_FeedPlays_28) (by kernel_rfl) (by kernel_rfl) (fun hb => ?_) (fun hb => ?_)
      · replace h := h.1 hb
        refine wpE_skip (by kernel_rfl) ?_
        change WpE _ _ c_towpathlaw16_FeedPlays_29 _ _ _
        refine wpE_seq (x := c_towpathlaw16_FeedPlays_30) (y := c_towpathlaw16_FeedPlays_40) (by kernel_rfl) ?_
        refine wpE_block (id := 1) (x := c_towpathlaw16_FeedPlays_31) (by kernel_rfl) ?_
        refine wpE_seq_cut (x := c_towpathlaw16_FeedPlays_32) (y := c_towpathlaw16_FeedPlays_34) (by kernel_rfl) (fun l w => ∃ (t53 : Bool), l = [(2, Value.slice q.ptr q.len q.cap), (7, Value.pointer f), (8, Value.pointer x), (11, Value.int .i64 i), (53, Value.bool t53)] ∧ F_towpathlaw16_FeedPlays_k1 R i again_ t53 w) ?_ ?_
        · refine wpE_region (id := 7) (ops := r_towpathlaw16_FeedPlays_32) (by kernel_rfl) ?_
          refine reg_run [.plain, .plain, .plain, .plain] 4 [(2, [], Value.slice q.ptr q.len q.cap), (7, [], Value.pointer f), (8, [], Value.pointer x), (11, [], Value.int .i64 i), (32, [], Value.pointer f), (33, [], Value.pointer x), (34, [], Value.slice q.ptr q.len q.cap), (35, [], Value.int .i64 i)] (by kernel_rfl) (by kernel_rfl) ?_
          obtain ⟨hp_7, h⟩ := h
          refine reg_conv [(2, [], Value.slice q.ptr q.len q.cap), (7, [], Value.pointer f), (8, [], Value.pointer x), (11, [], Value.int .i64 i), (32, [], Value.pointer f), (33, [], Value.pointer x), (34, [], Value.slice (some ⟨(pblk q.ptr), (poff q.ptr), none⟩) q.len q.cap), (35, [], Value.int .i64 i)] (congrArg (fun pp => ([(2, [], Value.slice q.ptr q.len q.cap), (7, [], Value.pointer f), (8, [], Value.pointer x), (11, [], Value.int .i64 i), (32, [], Value.pointer f), (33, [], Value.pointer x), (34, [], Value.slice pp q.len q.cap), (35, [], Value.int .i64 i)] : GEnv)) hp_7) ?_
          obtain ⟨h0, h1, h⟩ := h
          refine reg_indexS (t := 50) (e := 54) (x := (Go.Operand.tmp 34)) (ix := (Go.Operand.tmp 35)) (b := (pblk q.ptr)) (o := (poff q.ptr)) (l := q.len) (c := q.cap) (k := .i64) (j := i) (ty := 0) (dst := some 36) (sz := 2) (by kernel_rfl) (by kernel_rfl) (by kernel_rfl) (by kernel_rfl) (by kernel_rfl) h0 h1 ?_
          refine reg_run [] 5 [(2, [], Value.slice q.ptr q.len q.cap), (7, [], Value.pointer f), (8, [], Value.pointer x), (11, [], Value.int .i64 i), (32, [], Value.pointer f), (33, [], Value.pointer x), (36, [], Value.pointer (some ⟨(pblk q.ptr), (poff q.ptr) + i.toNat * 2, none⟩))] (by kernel_rfl) (by kernel_rfl) ?_
          obtain ⟨v37, hc, h⟩ := h
          refine reg_loadN (t := 54) (a := (Go.Operand.tmp 36)) (b := (pblk q.ptr)) (o := ((poff q.ptr) + i.toNat * 2)) (ty := 54) (dst := some 37) [Value.int .u8 v37.Kind, Value.int .i64 v37.N] (by kernel_rfl) (by kernel_rfl) (by kernel_rfl) (k := 2) (by kernel_rfl) (by kernel_rfl) hc ?_
          refine reg_run [] 6 [(2, [], Value.slice q.ptr q.len q.cap), (7, [], Value.pointer f), (8, [], Value.pointer x), (11, [], Value.int .i64 i), (32, [], Value.pointer f), (33, [], Value.pointer x), (37, [], Value.agg #[Value.int .u8 v37.Kind, Value.int .i64 v37.N])] (by kernel_rfl) (by kernel_rfl) ?_
          refine reg_enter (op := (Go.Op.call (Go.Call.mk (Go.Callee.value (Go.Operand.func 23)) #[(Go.Operand.tmp 32), (Go.Operand.tmp 33), (Go.Operand.tmp 37)] #[26, 27, 54]))) (ty := 4) (dst := some 38) 23 #[Value.pointer f, Value.pointer x, Value.agg #[Value.int .u8 v37.Kind, Value.int .i64 v37.N]] (by kernel_rfl) (fun ww => by kernel_rfl) (Calls.mono h ?_)
          rintro _ w5 ⟨v38, rfl, h⟩
          refine ⟨_, rfl, ?_⟩
          refine reg_run [.plain, .plain, .plain] 10 [(2, [], Value.slice q.ptr q.len q.cap), (7, [], Value.pointer f), (8, [], Value.pointer x), (11, [], Value.int .i64 i), (40, [], Value.bool (!v38)), (41, [(40, false)], Value.pointer f)] (by kernel_rfl) (by kernel_rfl) ?_
          refine reg_split 40 (!v38) (by kernel_rfl) (fun hb => ?_) (fun hb => ?_)
          · replace h := h.1 hb
            refine reg_run [] 10 [(2, [], Value.slice q.ptr q.len q.cap), (7, [], Value.pointer f), (8, [], Value.pointer x), (11, [], Value.int .i64 i), (40, [], Value.bool true), (41, [], undef)] (by kernel_rfl) (by kernel_rfl) ?_
            refine reg_run [.skip, .skip, .skip, .skip, .plain, .plain, .skip, .skip, .skip, .skip, .skip, .plain] 22 [(2, [], Value.slice q.ptr q.len q.cap), (7, [], Value.pointer f), (8, [], Value.pointer x), (11, [], Value.int .i64 i), (53, [], Value.bool true)] (by kernel_rfl) (by kernel_rfl) ?_
            refine reg_end [(2, Value.slice q.ptr q.len q.cap), (7, Value.pointer f), (8, Value.pointer x), (11, Value.int .i64 i), (53, Value.bool true)] (by kernel_rfl) (by kernel_rfl) ?_
            exact ⟨[(2, Value.slice q.ptr q.len q.cap), (7, Value.pointer f), (8, Value.pointer x), (11, Value.int .i64 i), (53, Value.bool true)], Sub.mk (by kernel_rfl), true, rfl, h⟩
          · replace h := h.2 hb
            refine reg_run [] 10 [(2, [], Value.slice q.ptr q.len q.cap), (7, [], Value.pointer f), (8, [], Value.pointer x), (11, [], Value.int .i64 i), (40, [], Value.bool false), (41, [], Value.pointer f)] (by kernel_rfl) (by kernel_rfl) ?_
            refine reg_run [] 10 [(2, [], Value.slice q.ptr q.len q.cap), (7, [], Value.pointer f), (8, [], Value.pointer x), (11, [], Value.int .i64 i), (40, [], Value.bool false), (41, [], Value.pointer f)] (by kernel_rfl) (by kernel_rfl) ?_
            refine reg_enter (op := (Go.Op.call (Go.Call.mk (Go.Callee.value (Go.Operand.func 17)) #[(Go.Operand.tmp 41)] #[26]))) (ty := 3) (dst := some 42) 17 #[Value.pointer f] (by kernel_rfl) (fun ww => by kernel_rfl) (Calls.mono h ?_)
            rintro _ w6 ⟨v42, rfl, h⟩
            refine ⟨_, rfl, ?_⟩
            refine reg_run [.sure] 12 [(2, [], Value.slice q.ptr q.len q.cap), (7, [], Value.pointer f), (8, [], Value.pointer x), (11, [], Value.int .i64 i), (40, [], Value.bool false), (42, [], Value.int .i64 v42), (43, [], Value.pointer x)] (by kernel_rfl) (by kernel_rfl) ?_
            refine reg_enter (op := (Go.Op.call (Go.Call.mk (Go.Callee.value (Go.Operand.func 24)) #[(Go.Operand.tmp 43)] #[27]))) (ty := 3) (dst := some 44) 24 #[Value.pointer x] (by kernel_rfl) (fun ww => by kernel_rfl) (Calls.mono h ?_)
            rintro _ w7 ⟨v44, rfl, h⟩
            refine ⟨_, rfl, ?_⟩
            refine reg_run [.sure, .plain, .plain, .plain] 17 [(2, [], Value.slice q.ptr q.len q.cap), (7, [], Value.pointer f), (8, [], Value.pointer x), (11, [], Value.int .i64 i), (47, [], Value.bool (v42 != v44)), (48, [(47, false)], Value.pointer f)] (by kernel_rfl) (by kernel_rfl) ?_
            refine reg_split 47 (v42 != v44) (by kernel_rfl) (fun hb => ?_) (fun hb => ?_)
            · replace h := h.1 hb
              refine reg_run [] 17 [(2, [], Value.slice q.ptr q.len q.cap), (7, [], Value.pointer f), (8, [], Value.pointer x), (11, [], Value.int .i64 i), (47, [], Value.bool true), (48, [], undef)] (by kernel_rfl) (by kernel_rfl) ?_
              refine reg_run [.skip, .skip, .skip, .skip, .plain] 22 [(2, [], Value.slice q.ptr q.len q.cap), (7, [], Value.pointer f), (8, [], Value.pointer x), (11, [], Value.int .i64 i), (53, [], Value.bool true)] (by kernel_rfl) (by kernel_rfl) ?_
              refine reg_end [(2, Value.slice q.ptr q.len q.cap), (7, Value.pointer f), (8, Value.pointer x), (11, Value.int .i64 i), (53, Value.bool true)] (by kernel_rfl) (by kernel_rfl) ?_
              exact ⟨[(2, Value.slice q.ptr q.len q.cap), (7, Value.pointer f), (8, Value.pointer x), (11, Value.int .i64 i), (53, Value.bool true)], Sub.mk (by kernel_rfl), true, rfl, h⟩
            · replace h := h.2 hb
              refine reg_run [] 17 [(2, [], Value.slice q.ptr q.len q.cap), (7, [], Value.pointer f), (8, [], Value.pointer x), (11, [], Value.int .i64 i), (47, [], Value.bool false), (48, [], Value.pointer f)] (by kernel_rfl) (by kernel_rfl) ?_
              refine reg_run [] 17 [(2, [], Value.slice q.ptr q.len q.cap), (7, [], Value.pointer f), (8, [], Value.pointer x), (11, [], Value.int .i64 i), (47, [], Value.bool false), (48, [], Value.pointer f)] (by kernel_rfl) (by kernel_rfl) ?_
              refine reg_enter (op := (Go.Op.call (Go.Call.mk (Go.Callee.value (Go.Operand.func 25)) #[(Go.Operand.tmp 48)] #[26]))) (ty := 3) (dst := some 49) 25 #[Value.pointer f] (by kernel_rfl) (fun ww => by kernel_rfl) (Calls.mono h ?_)
              rintro _ w8 ⟨v49, rfl, h⟩
              refine ⟨_, rfl, ?_⟩
              refine reg_run [.sure] 19 [(2, [], Value.slice q.ptr q.len q.cap), (7, [], Value.pointer f), (8, [], Value.pointer x), (11, [], Value.int .i64 i), (47, [], Value.bool false), (49, [], Value.int .i64 v49), (50, [], Value.pointer x)] (by kernel_rfl) (by kernel_rfl) ?_
              refine reg_enter (op := (Go.Op.call (Go.Call.mk (Go.Callee.value (Go.Operand.func 26)) #[(Go.Operand.tmp 50)] #[27]))) (ty := 3) (dst := some 51) 26 #[Value.pointer x] (by kernel_rfl) (fun ww => by kernel_rfl) (Calls.mono h ?_)
              rintro _ w9 ⟨v51, rfl, h⟩
              refine ⟨_, rfl, ?_⟩
              refine reg_run [.sure, .plain] 22 [(2, [], Value.slice q.ptr q.len q.cap), (7, [], Value.pointer f), (8, [], Value.pointer x), (11, [], Value.int .i64 i), (53, [], Value.bool (v49 != v51))] (by kernel_rfl) (by kernel_rfl) ?_
              refine reg_end [(2, Value.slice q.ptr q.len q.cap), (7, Value.pointer f), (8, Value.pointer x), (11, Value.int .i64 i), (53, Value.bool (v49 != v51))] (by kernel_rfl) (by kernel_rfl) ?_
              exact ⟨[(2, Value.slice q.ptr q.len q.cap), (7, Value.pointer f), (8, Value.pointer x), (11, Value.int .i64 i), (53, Value.bool (v49 != v51))], Sub.mk (by kernel_rfl), (v49 != v51), rfl, h⟩
        · rintro _ w4 ⟨t53, rfl, h⟩
          unfold F_towpathlaw16_FeedPlays_k1 at h
          refine wpE_cond (o := (Operand.tmp 53)) (b := t53) (x := c_towpathlaw16_FeedPlays_35) (y := c_towpathlaw16_FeedPlays_39) (by kernel_rfl) (by kernel_rfl) (fun hb => ?_) (fun hb => ?_)
          · replace h := h.1 hb
            refine wpE_seq (x := c_towpathlaw16_FeedPlays_36) (y := c_towpathlaw16_FeedPlays_38) (by kernel_rfl) ?_
            refine wpE_region (id := 8) (ops := r_towpathlaw16_FeedPlays_36) (by kernel_rfl) ?_
            refine reg_run [.plain] 1 [(6, [], Value.bool false)] (by kernel_rfl) (by kernel_rfl) ?_
            refine reg_end [(6, Value.bool false)] (by kernel_rfl) (by kernel_rfl) ?_
            change WpE _ _ c_towpathlaw16_FeedPlays_38 _ _ _
            refine wpE_ret (by kernel_rfl) ?_
            repeat (first | refine seqQ_ret ?_ | refine blockQ_ret ?_ | refine loopQ_ret ?_ | refine cutQ_ret ?_)
            exact retS (rs := [(Go.ResultVar.tmp 6)]) (v := Value.bool false) (by kernel_rfl) (⟨by kernel_rfl, trivial⟩) ⟨false, rfl, h⟩
          · replace h := h.2 hb
            refine wpE_skip (by kernel_rfl) ?_
            change WpE _ _ c_towpathlaw16_FeedPlays_40 _ _ _
            refine wpE_region (id := 6) (ops := r_towpathlaw16_FeedPlays_40) (by kernel_rfl) ?_
            refine reg_run [.plain, .plain, .plain] 3 [(2, [], Value.slice q.ptr q.len q.cap), (7, [], Value.pointer f), (8, [], Value.pointer x), (11, [], Value.int .i64 (IntKind.i64.wrap (i + 1)))] (by kernel_rfl) (by kernel_rfl) ?_
            refine reg_end [(2, Value.slice q.ptr q.len q.cap), (7, Value.pointer f), (8, Value.pointer x), (11, Value.int .i64 (IntKind.i64.wrap (i + 1)))] (by kernel_rfl) (by kernel_rfl) ?_
            have hb_ := again__h _ _ h
            exact ⟨_, hb_.2, [(2, Value.slice q.ptr q.len q.cap), (7, Value.pointer f), (8, Value.pointer x), (11, Value.int .i64 (IntKind.i64.wrap (i + 1)))], Sub.mk (by kernel_rfl), (IntKind.i64.wrap (i + 1)), rfl, hb_.1, rfl⟩
      · replace h := h.2 hb
        refine wpE_exit (id := 0) (by kernel_rfl) ?_
        change WpE _ _ c_towpathlaw16_FeedPlays_42 _ _ _
        refine wpE_seq (x := c_towpathlaw16_FeedPlays_43) (y := c_towpathlaw16_FeedPlays_45) (by kernel_rfl) ?_
        refine wpE_region (id := 9) (ops := r_towpathlaw16_FeedPlays_43) (by kernel_rfl) ?_
        refine reg_run [] 0 [] (by kernel_rfl) (by kernel_rfl) ?_
        refine reg_enter (op := (Go.Op.call (Go.Call.mk (Go.Callee.value (Go.Operand.func 12)) #[] #[]))) (ty := 4) (dst := some 54) 12 #[] (by kernel_rfl) (fun ww => by kernel_rfl) (Calls.mono h ?_)
        rintro _ w10 ⟨v54, rfl, h⟩
        refine ⟨_, rfl, ?_⟩
        refine reg_run [.plain] 2 [(6, [], Value.bool v54)] (by kernel_rfl) (by kernel_rfl) ?_
        refine reg_end [(6, Value.bool v54)] (by kernel_rfl) (by kernel_rfl) ?_
        change WpE _ _ c_towpathlaw16_FeedPlays_45 _ _ _
        refine wpE_ret (by kernel_rfl) ?_
        repeat (first | refine seqQ_ret ?_ | refine blockQ_ret ?_ | refine loopQ_ret ?_ | refine cutQ_ret ?_)
        exact retS (rs := [(Go.ResultVar.tmp 6)]) (v := Value.bool v54) (by kernel_rfl) (⟨by kernel_rfl, trivial⟩) ⟨v54, rfl, h⟩
  · rintro e w' ⟨v, rfl, r0, rfl, h⟩; exact ⟨r0, rfl, h⟩
end Go.Proofs.Ytpedclhflmhakaa
