/- WRITTEN BY PROGRAM (dec.py): for each Go function the clean formula F, the call's contract C, and the proof S that F gives C. -/
import Derived.Test.YtpedclhflmhakaaRows
import Derived.Test.YtpedclhflmhakaaGF
namespace Go.Proofs.Ytpedclhflmhakaa
open Go
set_option linter.unusedVariables false

/-! ### (*towpath/feed.Feed).More (function 13) -/
noncomputable def c_feed_Feed_More_0 : Code := (Try.f13.body).getD Code.skip
noncomputable def c_feed_Feed_More_1 : Code := Code.l c_feed_Feed_More_0
noncomputable def r_feed_Feed_More_1 : Array Oper := Code.ops c_feed_Feed_More_1
noncomputable def c_feed_Feed_More_3 : Code := Code.r c_feed_Feed_More_0
noncomputable def c_feed_Feed_More_4 : Code := Code.l c_feed_Feed_More_3
noncomputable def c_feed_Feed_More_5 : Code := Code.l c_feed_Feed_More_4
noncomputable def c_feed_Feed_More_6 : Code := Code.l c_feed_Feed_More_5
noncomputable def r_feed_Feed_More_6 : Array Oper := Code.ops c_feed_Feed_More_6
noncomputable def c_feed_Feed_More_8 : Code := Code.r c_feed_Feed_More_5
noncomputable def c_feed_Feed_More_9 : Code := Code.l c_feed_Feed_More_8
noncomputable def c_feed_Feed_More_10 : Code := Code.l c_feed_Feed_More_9
noncomputable def r_feed_Feed_More_10 : Array Oper := Code.ops c_feed_Feed_More_10
noncomputable def c_feed_Feed_More_12 : Code := Code.r c_feed_Feed_More_9
noncomputable def c_feed_Feed_More_13 : Code := Code.r c_feed_Feed_More_8
noncomputable def c_feed_Feed_More_14 : Code := Code.l c_feed_Feed_More_13
noncomputable def r_feed_Feed_More_14 : Array Oper := Code.ops c_feed_Feed_More_14
noncomputable def c_feed_Feed_More_16 : Code := Code.r c_feed_Feed_More_13
noncomputable def c_feed_Feed_More_17 : Code := Code.l c_feed_Feed_More_16
noncomputable def c_feed_Feed_More_18 : Code := Code.l c_feed_Feed_More_17
noncomputable def r_feed_Feed_More_18 : Array Oper := Code.ops c_feed_Feed_More_18
noncomputable def c_feed_Feed_More_20 : Code := Code.r c_feed_Feed_More_17
noncomputable def c_feed_Feed_More_21 : Code := Code.r c_feed_Feed_More_16
noncomputable def c_feed_Feed_More_22 : Code := Code.l c_feed_Feed_More_21
noncomputable def r_feed_Feed_More_22 : Array Oper := Code.ops c_feed_Feed_More_22
noncomputable def c_feed_Feed_More_24 : Code := Code.r c_feed_Feed_More_21
noncomputable def c_feed_Feed_More_25 : Code := Code.l c_feed_Feed_More_24
noncomputable def c_feed_Feed_More_26 : Code := Code.l c_feed_Feed_More_25
noncomputable def r_feed_Feed_More_26 : Array Oper := Code.ops c_feed_Feed_More_26
noncomputable def c_feed_Feed_More_28 : Code := Code.r c_feed_Feed_More_25
noncomputable def c_feed_Feed_More_29 : Code := Code.r c_feed_Feed_More_24
noncomputable def c_feed_Feed_More_30 : Code := Code.r c_feed_Feed_More_3
noncomputable def c_feed_Feed_More_31 : Code := Code.l c_feed_Feed_More_30
noncomputable def r_feed_Feed_More_31 : Array Oper := Code.ops c_feed_Feed_More_31
noncomputable def c_feed_Feed_More_33 : Code := Code.r c_feed_Feed_More_30
noncomputable def c_feed_Feed_More_34 : Code := Code.l c_feed_Feed_More_33
noncomputable def r_feed_Feed_More_34 : Array Oper := Code.ops c_feed_Feed_More_34
noncomputable def c_feed_Feed_More_36 : Code := Code.r c_feed_Feed_More_33

set_option maxRecDepth 100000 in
set_option maxHeartbeats 4000000 in
theorem S_feed_Feed_More {f : Option Addr} {last : Int} {w : World} {R : Int → World → Prop} (h : F_feed_Feed_More f last R w) : C_feed_Feed_More f last w R := by
  unfold F_feed_Feed_More at h
  unfold C_feed_Feed_More
  refine Calls.mono (calls_of_wpE (args := [Value.pointer f, Value.int .i64 last]) (R := fun v w' => ∃ (r0 : Int), v = Value.int .i64 r0 ∧ R r0 w') Try.func13 (c := c_feed_Feed_More_0) (by kernel_rfl) 34 (by kernel_rfl) (by kernel_rfl) [(0, Value.pointer f), (1, Value.int .i64 last)] (by kernel_rfl) ?_) ?_
  · refine wpE_seq (x := c_feed_Feed_More_1) (y := c_feed_Feed_More_3) (by kernel_rfl) ?_
    refine wpE_region (id := 0) (ops := r_feed_Feed_More_1) (by kernel_rfl) ?_
    refine reg_run [.plain] 1 [(0, [], Value.pointer f), (1, [], Value.int .i64 last)] (by kernel_rfl) (by kernel_rfl) ?_
    refine reg_end [(0, Value.pointer f), (1, Value.int .i64 last)] (by kernel_rfl) (by kernel_rfl) ?_
    change WpE _ _ c_feed_Feed_More_3 _ _ _
    refine wpE_seq (x := c_feed_Feed_More_4) (y := c_feed_Feed_More_30) (by kernel_rfl) ?_
    refine wpE_block (id := 0) (x := c_feed_Feed_More_5) (by kernel_rfl) ?_
    refine wpE_seq (x := c_feed_Feed_More_6) (y := c_feed_Feed_More_8) (by kernel_rfl) ?_
    refine wpE_region (id := 1) (ops := r_feed_Feed_More_6) (by kernel_rfl) ?_
    refine reg_run [.plain] 1 [(0, [], Value.pointer f), (1, [], Value.int .i64 last), (6, [], Value.pointer f)] (by kernel_rfl) (by kernel_rfl) ?_
    refine reg_enter (op := (Go.Op.call (Go.Call.mk (Go.Callee.value (Go.Operand.func 46)) #[(Go.Operand.tmp 6)] #[26]))) (ty := 4) (dst := some 7) 46 #[Value.pointer f] (by kernel_rfl) (fun ww => by kernel_rfl) (Calls.mono h ?_)
    rintro _ w1 ⟨v7, rfl, h⟩
    refine ⟨_, rfl, ?_⟩
    refine reg_run [.plain, .plain] 4 [(0, [], Value.pointer f), (1, [], Value.int .i64 last), (5, [], Value.bool (!v7))] (by kernel_rfl) (by kernel_rfl) ?_
    refine reg_end [(0, Value.pointer f), (1, Value.int .i64 last), (5, Value.bool (!v7))] (by kernel_rfl) (by kernel_rfl) ?_
    change WpE _ _ c_feed_Feed_More_8 _ _ _
    refine wpE_cond (o := (Operand.tmp 5)) (b := (!v7)) (x := c_feed_Feed_More_9) (y := c_feed_Feed_More_13) (by kernel_rfl) (by kernel_rfl) (fun hb => ?_) (fun hb => ?_)
    · replace h := h.1 hb
      refine wpE_seq (x := c_feed_Feed_More_10) (y := c_feed_Feed_More_12) (by kernel_rfl) ?_
      refine wpE_region (id := 2) (ops := r_feed_Feed_More_10) (by kernel_rfl) ?_
      refine reg_run [.plain] 1 [(4, [], Value.int .i64 2)] (by kernel_rfl) (by kernel_rfl) ?_
      refine reg_end [(4, Value.int .i64 2)] (by kernel_rfl) (by kernel_rfl) ?_
      change WpE _ _ c_feed_Feed_More_12 _ _ _
      refine wpE_ret (by kernel_rfl) ?_
      repeat (first | refine seqQ_ret ?_ | refine blockQ_ret ?_ | refine loopQ_ret ?_ | refine cutQ_ret ?_)
      exact retS (rs := [(Go.ResultVar.tmp 4)]) (v := Value.int .i64 2) (by kernel_rfl) (⟨by kernel_rfl, trivial⟩) ⟨2, rfl, h⟩
    · replace h := h.2 hb
      refine wpE_seq (x := c_feed_Feed_More_14) (y := c_feed_Feed_More_16) (by kernel_rfl) ?_
      refine wpE_region (id := 3) (ops := r_feed_Feed_More_14) (by kernel_rfl) ?_
      refine reg_run [.plain] 1 [(0, [], Value.pointer f), (1, [], Value.int .i64 last), (10, [], Value.pointer f)] (by kernel_rfl) (by kernel_rfl) ?_
      obtain ⟨hp_7, h⟩ := h
      refine reg_conv [(0, [], Value.pointer f), (1, [], Value.int .i64 last), (10, [], Value.pointer (some ⟨(pblk f), (poff f), none⟩))] (congrArg (fun pp => ([(0, [], Value.pointer f), (1, [], Value.int .i64 last), (10, [], Value.pointer pp)] : GEnv)) hp_7) ?_
      refine reg_run [.plain] 2 [(0, [], Value.pointer f), (1, [], Value.int .i64 last), (10, [], Value.pointer (some ⟨(pblk f), (poff f), none⟩)), (11, [], Value.pointer (some ⟨(pblk f), (poff f), none⟩))] (by kernel_rfl) (by kernel_rfl) ?_
      refine reg_run [.plain] 3 [(0, [], Value.pointer f), (1, [], Value.int .i64 last), (12, [], Value.pointer (some ⟨(pblk f), (poff f) + 6, none⟩))] (by kernel_rfl) (by kernel_rfl) ?_
      obtain ⟨v13, hc, h⟩ := h
      refine reg_load1 (t := 4) (a := (Go.Operand.tmp 12)) (b := (pblk f)) (o := ((poff f) + 6)) (ty := 4) (dst := some 13) (by kernel_rfl) (by kernel_rfl) (by kernel_rfl) hc ?_
      refine reg_run [.plain] 5 [(0, [], Value.pointer f), (1, [], Value.int .i64 last), (9, [], Value.bool v13)] (by kernel_rfl) (by kernel_rfl) ?_
      refine reg_end [(0, Value.pointer f), (1, Value.int .i64 last), (9, Value.bool v13)] (by kernel_rfl) (by kernel_rfl) ?_
      change WpE _ _ c_feed_Feed_More_16 _ _ _
      refine wpE_cond (o := (Operand.tmp 9)) (b := v13) (x := c_feed_Feed_More_17) (y := c_feed_Feed_More_21) (by kernel_rfl) (by kernel_rfl) (fun hb => ?_) (fun hb => ?_)
      · replace h := h.1 hb
        refine wpE_seq (x := c_feed_Feed_More_18) (y := c_feed_Feed_More_20) (by kernel_rfl) ?_
        refine wpE_region (id := 4) (ops := r_feed_Feed_More_18) (by kernel_rfl) ?_
        refine reg_run [.plain] 1 [(4, [], Value.int .i64 12)] (by kernel_rfl) (by kernel_rfl) ?_
        refine reg_end [(4, Value.int .i64 12)] (by kernel_rfl) (by kernel_rfl) ?_
        change WpE _ _ c_feed_Feed_More_20 _ _ _
        refine wpE_ret (by kernel_rfl) ?_
        repeat (first | refine seqQ_ret ?_ | refine blockQ_ret ?_ | refine loopQ_ret ?_ | refine cutQ_ret ?_)
        exact retS (rs := [(Go.ResultVar.tmp 4)]) (v := Value.int .i64 12) (by kernel_rfl) (⟨by kernel_rfl, trivial⟩) ⟨12, rfl, h⟩
      · replace h := h.2 hb
        refine wpE_seq_cut (x := c_feed_Feed_More_22) (y := c_feed_Feed_More_24) (by kernel_rfl) (fun l w => ∃ (t14 : Bool), l = [(0, Value.pointer f), (1, Value.int .i64 last), (14, Value.bool t14)] ∧ F_feed_Feed_More_k0 f last R t14 w) ?_ ?_
        · refine wpE_region (id := 5) (ops := r_feed_Feed_More_22) (by kernel_rfl) ?_
          refine reg_run [.plain, .plain] 2 [(0, [], Value.pointer f), (1, [], Value.int .i64 last), (15, [], Value.int .i64 last), (16, [], Value.pointer f)] (by kernel_rfl) (by kernel_rfl) ?_
          obtain ⟨hp_12, h⟩ := h
          refine reg_conv [(0, [], Value.pointer f), (1, [], Value.int .i64 last), (15, [], Value.int .i64 last), (16, [], Value.pointer (some ⟨(pblk f), (poff f), none⟩))] (congrArg (fun pp => ([(0, [], Value.pointer f), (1, [], Value.int .i64 last), (15, [], Value.int .i64 last), (16, [], Value.pointer pp)] : GEnv)) hp_12) ?_
          refine reg_run [.plain] 3 [(0, [], Value.pointer f), (1, [], Value.int .i64 last), (15, [], Value.int .i64 last), (16, [], Value.pointer (some ⟨(pblk f), (poff f), none⟩)), (17, [], Value.pointer (some ⟨(pblk f), (poff f), none⟩))] (by kernel_rfl) (by kernel_rfl) ?_
          refine reg_run [.plain] 4 [(0, [], Value.pointer f), (1, [], Value.int .i64 last), (15, [], Value.int .i64 last), (18, [], Value.pointer (some ⟨(pblk f), (poff f) + 2, none⟩))] (by kernel_rfl) (by kernel_rfl) ?_
          obtain ⟨v19, hc, h⟩ := h
          refine reg_load1 (t := 3) (a := (Go.Operand.tmp 18)) (b := (pblk f)) (o := ((poff f) + 2)) (ty := 3) (dst := some 19) (by kernel_rfl) (by kernel_rfl) (by kernel_rfl) hc ?_
          refine reg_run [.plain, .plain, .plain, .plain] 9 [(0, [], Value.pointer f), (1, [], Value.int .i64 last), (21, [], Value.bool (decide (last < v19))), (22, [(21, false)], Value.int .i64 last), (23, [(21, false)], Value.pointer f)] (by kernel_rfl) (by kernel_rfl) ?_
          refine reg_split 21 (decide (last < v19)) (by kernel_rfl) (fun hb => ?_) (fun hb => ?_)
          · replace h := h.1 hb
            refine reg_run [] 9 [(0, [], Value.pointer f), (1, [], Value.int .i64 last), (21, [], Value.bool true), (22, [], undef), (23, [], undef)] (by kernel_rfl) (by kernel_rfl) ?_
            refine reg_run [.skip, .skip, .skip, .skip, .skip, .plain, .plain] 16 [(0, [], Value.pointer f), (1, [], Value.int .i64 last), (14, [], Value.bool true)] (by kernel_rfl) (by kernel_rfl) ?_
            refine reg_end [(0, Value.pointer f), (1, Value.int .i64 last), (14, Value.bool true)] (by kernel_rfl) (by kernel_rfl) ?_
            exact ⟨[(0, Value.pointer f), (1, Value.int .i64 last), (14, Value.bool true)], Sub.mk (by kernel_rfl), true, rfl, h⟩
          · replace h := h.2 hb
            refine reg_run [] 9 [(0, [], Value.pointer f), (1, [], Value.int .i64 last), (21, [], Value.bool false), (22, [], Value.int .i64 last), (23, [], Value.pointer f)] (by kernel_rfl) (by kernel_rfl) ?_
            refine reg_run [] 9 [(0, [], Value.pointer f), (1, [], Value.int .i64 last), (21, [], Value.bool false), (22, [], Value.int .i64 last), (23, [], Value.pointer f)] (by kernel_rfl) (by kernel_rfl) ?_
            obtain ⟨hp_13, h⟩ := h
            refine reg_conv [(0, [], Value.pointer f), (1, [], Value.int .i64 last), (21, [], Value.bool false), (22, [], Value.int .i64 last), (23, [], Value.pointer (some ⟨(pblk f), (poff f), none⟩))] (congrArg (fun pp => ([(0, [], Value.pointer f), (1, [], Value.int .i64 last), (21, [], Value.bool false), (22, [], Value.int .i64 last), (23, [], Value.pointer pp)] : GEnv)) hp_13) ?_
            refine reg_run [.sure] 10 [(0, [], Value.pointer f), (1, [], Value.int .i64 last), (21, [], Value.bool false), (22, [], Value.int .i64 last), (23, [], Value.pointer (some ⟨(pblk f), (poff f), none⟩)), (24, [], Value.pointer (some ⟨(pblk f), (poff f), none⟩))] (by kernel_rfl) (by kernel_rfl) ?_
            refine reg_run [.sure] 11 [(0, [], Value.pointer f), (1, [], Value.int .i64 last), (21, [], Value.bool false), (22, [], Value.int .i64 last), (25, [], Value.pointer (some ⟨(pblk f), (poff f), none⟩))] (by kernel_rfl) (by kernel_rfl) ?_
            obtain ⟨v26, hc, h⟩ := h
            refine reg_load1 (t := 28) (a := (Go.Operand.tmp 25)) (b := (pblk f)) (o := (poff f)) (ty := 28) (dst := some 26) (by kernel_rfl) (by kernel_rfl) (by kernel_rfl) hc ?_
            refine reg_run [] 12 [(0, [], Value.pointer f), (1, [], Value.int .i64 last), (21, [], Value.bool false), (22, [], Value.int .i64 last), (26, [], Value.pointer v26)] (by kernel_rfl) (by kernel_rfl) ?_
            refine reg_enter (op := (Go.Op.call (Go.Call.mk (Go.Callee.value (Go.Operand.func 47)) #[(Go.Operand.tmp 26)] #[28]))) (ty := 3) (dst := some 27) 47 #[Value.pointer v26] (by kernel_rfl) (fun ww => by kernel_rfl) (Calls.mono h ?_)
            rintro _ w4 ⟨v27, rfl, h⟩
            refine ⟨_, rfl, ?_⟩
            refine reg_run [.sure, .plain, .plain] 16 [(0, [], Value.pointer f), (1, [], Value.int .i64 last), (14, [], Value.bool (decide (last > v27)))] (by kernel_rfl) (by kernel_rfl) ?_
            refine reg_end [(0, Value.pointer f), (1, Value.int .i64 last), (14, Value.bool (decide (last > v27)))] (by kernel_rfl) (by kernel_rfl) ?_
            exact ⟨[(0, Value.pointer f), (1, Value.int .i64 last), (14, Value.bool (decide (last > v27)))], Sub.mk (by kernel_rfl), (decide (last > v27)), rfl, h⟩
        · rintro _ w2 ⟨t14, rfl, h⟩
          unfold F_feed_Feed_More_k0 at h
          refine wpE_cond (o := (Operand.tmp 14)) (b := t14) (x := c_feed_Feed_More_25) (y := c_feed_Feed_More_29) (by kernel_rfl) (by kernel_rfl) (fun hb => ?_) (fun hb => ?_)
          · replace h := h.1 hb
            refine wpE_seq (x := c_feed_Feed_More_26) (y := c_feed_Feed_More_28) (by kernel_rfl) ?_
            refine wpE_region (id := 6) (ops := r_feed_Feed_More_26) (by kernel_rfl) ?_
            refine reg_run [.plain] 1 [(4, [], Value.int .i64 1)] (by kernel_rfl) (by kernel_rfl) ?_
            refine reg_end [(4, Value.int .i64 1)] (by kernel_rfl) (by kernel_rfl) ?_
            change WpE _ _ c_feed_Feed_More_28 _ _ _
            refine wpE_ret (by kernel_rfl) ?_
            repeat (first | refine seqQ_ret ?_ | refine blockQ_ret ?_ | refine loopQ_ret ?_ | refine cutQ_ret ?_)
            exact retS (rs := [(Go.ResultVar.tmp 4)]) (v := Value.int .i64 1) (by kernel_rfl) (⟨by kernel_rfl, trivial⟩) ⟨1, rfl, h⟩
          · replace h := h.2 hb
            refine wpE_skip (by kernel_rfl) ?_
            change WpE _ _ c_feed_Feed_More_30 _ _ _
            refine wpE_seq (x := c_feed_Feed_More_31) (y := c_feed_Feed_More_33) (by kernel_rfl) ?_
            refine wpE_region (id := 7) (ops := r_feed_Feed_More_31) (by kernel_rfl) ?_
            refine reg_run [.plain, .plain] 2 [(30, [], Value.pointer f), (31, [], Value.int .i64 last)] (by kernel_rfl) (by kernel_rfl) ?_
            obtain ⟨hp_11, h⟩ := h
            refine reg_conv [(30, [], Value.pointer (some ⟨(pblk f), (poff f), none⟩)), (31, [], Value.int .i64 last)] (congrArg (fun pp => ([(30, [], Value.pointer pp), (31, [], Value.int .i64 last)] : GEnv)) hp_11) ?_
            refine reg_run [.plain] 3 [(30, [], Value.pointer (some ⟨(pblk f), (poff f), none⟩)), (31, [], Value.int .i64 last), (32, [], Value.pointer (some ⟨(pblk f), (poff f), none⟩))] (by kernel_rfl) (by kernel_rfl) ?_
            refine reg_run [.plain] 4 [(31, [], Value.int .i64 last), (33, [], Value.pointer (some ⟨(pblk f), (poff f) + 2, none⟩))] (by kernel_rfl) (by kernel_rfl) ?_
            obtain ⟨hc, h⟩ := h
            refine reg_store (t := 3) (a := (Go.Operand.tmp 33)) (x := (Go.Operand.tmp 31)) (b := (pblk f)) (o := ((poff f) + 2)) (ty := 0) (dst := none) [Value.int .i64 last] (by kernel_rfl) (by kernel_rfl) (by kernel_rfl) (k := 1) (by kernel_rfl) (by kernel_rfl) (by kernel_rfl) hc (fun w3 hw => ?_)
            replace h := h w3 hw
            clear hw
            refine reg_end [] (by kernel_rfl) (by kernel_rfl) ?_
            change WpE _ _ c_feed_Feed_More_33 _ _ _
            refine wpE_seq (x := c_feed_Feed_More_34) (y := c_feed_Feed_More_36) (by kernel_rfl) ?_
            refine wpE_region (id := 8) (ops := r_feed_Feed_More_34) (by kernel_rfl) ?_
            refine reg_run [.plain] 1 [(4, [], Value.int .i64 0)] (by kernel_rfl) (by kernel_rfl) ?_
            refine reg_end [(4, Value.int .i64 0)] (by kernel_rfl) (by kernel_rfl) ?_
            change WpE _ _ c_feed_Feed_More_36 _ _ _
            refine wpE_ret (by kernel_rfl) ?_
            repeat (first | refine seqQ_ret ?_ | refine blockQ_ret ?_ | refine loopQ_ret ?_ | refine cutQ_ret ?_)
            exact retS (rs := [(Go.ResultVar.tmp 4)]) (v := Value.int .i64 0) (by kernel_rfl) (⟨by kernel_rfl, trivial⟩) ⟨0, rfl, h⟩
  · rintro e w' ⟨v, rfl, r0, rfl, h⟩; exact ⟨r0, rfl, h⟩

/-! ### (*towpath/feed.Feed).Read (function 14) -/
noncomputable def c_feed_Feed_Read_0 : Code := (Try.f14.body).getD Code.skip
noncomputable def c_feed_Feed_Read_1 : Code := Code.l c_feed_Feed_Read_0
noncomputable def r_feed_Feed_Read_1 : Array Oper := Code.ops c_feed_Feed_Read_1
noncomputable def c_feed_Feed_Read_3 : Code := Code.r c_feed_Feed_Read_0
noncomputable def c_feed_Feed_Read_4 : Code := Code.l c_feed_Feed_Read_3
noncomputable def c_feed_Feed_Read_5 : Code := Code.l c_feed_Feed_Read_4
noncomputable def c_feed_Feed_Read_6 : Code := Code.l c_feed_Feed_Read_5
noncomputable def r_feed_Feed_Read_6 : Array Oper := Code.ops c_feed_Feed_Read_6
noncomputable def c_feed_Feed_Read_8 : Code := Code.r c_feed_Feed_Read_5
noncomputable def c_feed_Feed_Read_9 : Code := Code.l c_feed_Feed_Read_8
noncomputable def c_feed_Feed_Read_10 : Code := Code.l c_feed_Feed_Read_9
noncomputable def r_feed_Feed_Read_10 : Array Oper := Code.ops c_feed_Feed_Read_10
noncomputable def c_feed_Feed_Read_12 : Code := Code.r c_feed_Feed_Read_9
noncomputable def c_feed_Feed_Read_13 : Code := Code.r c_feed_Feed_Read_8
noncomputable def c_feed_Feed_Read_14 : Code := Code.l c_feed_Feed_Read_13
noncomputable def r_feed_Feed_Read_14 : Array Oper := Code.ops c_feed_Feed_Read_14
noncomputable def c_feed_Feed_Read_16 : Code := Code.r c_feed_Feed_Read_13
noncomputable def c_feed_Feed_Read_17 : Code := Code.l c_feed_Feed_Read_16
noncomputable def c_feed_Feed_Read_18 : Code := Code.l c_feed_Feed_Read_17
noncomputable def r_feed_Feed_Read_18 : Array Oper := Code.ops c_feed_Feed_Read_18
noncomputable def c_feed_Feed_Read_20 : Code := Code.r c_feed_Feed_Read_17
noncomputable def c_feed_Feed_Read_21 : Code := Code.r c_feed_Feed_Read_16
noncomputable def c_feed_Feed_Read_22 : Code := Code.l c_feed_Feed_Read_21
noncomputable def r_feed_Feed_Read_22 : Array Oper := Code.ops c_feed_Feed_Read_22
noncomputable def c_feed_Feed_Read_24 : Code := Code.r c_feed_Feed_Read_21
noncomputable def c_feed_Feed_Read_25 : Code := Code.l c_feed_Feed_Read_24
noncomputable def c_feed_Feed_Read_26 : Code := Code.l c_feed_Feed_Read_25
noncomputable def r_feed_Feed_Read_26 : Array Oper := Code.ops c_feed_Feed_Read_26
noncomputable def c_feed_Feed_Read_28 : Code := Code.r c_feed_Feed_Read_25
noncomputable def c_feed_Feed_Read_29 : Code := Code.r c_feed_Feed_Read_24
noncomputable def c_feed_Feed_Read_30 : Code := Code.l c_feed_Feed_Read_29
noncomputable def r_feed_Feed_Read_30 : Array Oper := Code.ops c_feed_Feed_Read_30
noncomputable def c_feed_Feed_Read_32 : Code := Code.r c_feed_Feed_Read_29
noncomputable def c_feed_Feed_Read_33 : Code := Code.l c_feed_Feed_Read_32
noncomputable def c_feed_Feed_Read_34 : Code := Code.l c_feed_Feed_Read_33
noncomputable def r_feed_Feed_Read_34 : Array Oper := Code.ops c_feed_Feed_Read_34
noncomputable def c_feed_Feed_Read_36 : Code := Code.r c_feed_Feed_Read_33
noncomputable def c_feed_Feed_Read_37 : Code := Code.r c_feed_Feed_Read_32
noncomputable def c_feed_Feed_Read_38 : Code := Code.r c_feed_Feed_Read_3
noncomputable def c_feed_Feed_Read_39 : Code := Code.l c_feed_Feed_Read_38
noncomputable def r_feed_Feed_Read_39 : Array Oper := Code.ops c_feed_Feed_Read_39
noncomputable def c_feed_Feed_Read_41 : Code := Code.r c_feed_Feed_Read_38
noncomputable def c_feed_Feed_Read_42 : Code := Code.l c_feed_Feed_Read_41
noncomputable def c_feed_Feed_Read_43 : Code := Code.l c_feed_Feed_Read_42
noncomputable def r_feed_Feed_Read_43 : Array Oper := Code.ops c_feed_Feed_Read_43
noncomputable def c_feed_Feed_Read_45 : Code := Code.r c_feed_Feed_Read_42
noncomputable def c_feed_Feed_Read_46 : Code := Code.l c_feed_Feed_Read_45
noncomputable def c_feed_Feed_Read_47 : Code := Code.l c_feed_Feed_Read_46
noncomputable def r_feed_Feed_Read_47 : Array Oper := Code.ops c_feed_Feed_Read_47
noncomputable def c_feed_Feed_Read_49 : Code := Code.r c_feed_Feed_Read_46
noncomputable def c_feed_Feed_Read_50 : Code := Code.r c_feed_Feed_Read_45
noncomputable def c_feed_Feed_Read_51 : Code := Code.r c_feed_Feed_Read_41
noncomputable def c_feed_Feed_Read_52 : Code := Code.l c_feed_Feed_Read_51
noncomputable def r_feed_Feed_Read_52 : Array Oper := Code.ops c_feed_Feed_Read_52
noncomputable def c_feed_Feed_Read_54 : Code := Code.r c_feed_Feed_Read_51
noncomputable def c_feed_Feed_Read_55 : Code := Code.l c_feed_Feed_Read_54
noncomputable def r_feed_Feed_Read_55 : Array Oper := Code.ops c_feed_Feed_Read_55
noncomputable def c_feed_Feed_Read_57 : Code := Code.r c_feed_Feed_Read_54
noncomputable def c_feed_Feed_Read_58 : Code := Code.l c_feed_Feed_Read_57
noncomputable def r_feed_Feed_Read_58 : Array Oper := Code.ops c_feed_Feed_Read_58
noncomputable def c_feed_Feed_Read_60 : Code := Code.r c_feed_Feed_Read_57
def o_feed_Feed_Read_39 : List Nat := [0, 1, 2, 3, 4, 5, 6, 7, 8, 9, 10, 11, 12, 13, 14, 15]
def o_feed_Feed_Read_39_1 : List Nat := [0, 1, 2, 3, 4, 5, 6, 7, 8, 9, 10, 11, 12, 13, 14, 15]
def o_feed_Feed_Read_39_2 : List Nat := [0, 1, 2, 3, 4, 5, 6, 7, 8, 13, 9, 10, 11, 12, 14, 15]
def o_feed_Feed_Read_39_4 : List Nat := [0, 1, 2, 3, 4, 5, 6, 7, 8, 9, 10, 11, 12, 13, 14, 15]
def o_feed_Feed_Read_39_5 : List Nat := [0, 1, 2, 3, 4, 5, 6, 7, 8, 13, 9, 10, 11, 12, 14, 15]

set_option maxRecDepth 100000 in
set_option maxHeartbeats 4000000 in
theorem S_feed_Feed_Read {f : Option Addr} {w : World} {R : Int → Int → World → Prop} (h : F_feed_Feed_Read f R w) : C_feed_Feed_Read f w R := by
  unfold F_feed_Feed_Read at h
  unfold C_feed_Feed_Read
  refine Calls.mono (calls_of_wpE (args := [Value.pointer f]) (R := fun v w' => ∃ (r0 : Int) (r1 : Int), v = Value.tuple #[Value.int .i64 r0, Value.int .i64 r1] ∧ R r0 r1 w') Try.func14 (c := c_feed_Feed_Read_0) (by kernel_rfl) 59 (by kernel_rfl) (by kernel_rfl) [(0, Value.pointer f)] (by kernel_rfl) ?_) ?_
  · refine wpE_seq (x := c_feed_Feed_Read_1) (y := c_feed_Feed_Read_3) (by kernel_rfl) ?_
    refine wpE_region (id := 0) (ops := r_feed_Feed_Read_1) (by kernel_rfl) ?_
    refine reg_run [.plain, .plain] 2 [(0, [], Value.pointer f)] (by kernel_rfl) (by kernel_rfl) ?_
    refine reg_end [(0, Value.pointer f)] (by kernel_rfl) (by kernel_rfl) ?_
    change WpE _ _ c_feed_Feed_Read_3 _ _ _
    refine wpE_seq (x := c_feed_Feed_Read_4) (y := c_feed_Feed_Read_38) (by kernel_rfl) ?_
    refine wpE_block (id := 0) (x := c_feed_Feed_Read_5) (by kernel_rfl) ?_
    refine wpE_seq (x := c_feed_Feed_Read_6) (y := c_feed_Feed_Read_8) (by kernel_rfl) ?_
    refine wpE_region (id := 1) (ops := r_feed_Feed_Read_6) (by kernel_rfl) ?_
    refine reg_run [.plain] 1 [(0, [], Value.pointer f), (7, [], Value.pointer f)] (by kernel_rfl) (by kernel_rfl) ?_
    refine reg_enter (op := (Go.Op.call (Go.Call.mk (Go.Callee.value (Go.Operand.func 46)) #[(Go.Operand.tmp 7)] #[26]))) (ty := 4) (dst := some 8) 46 #[Value.pointer f] (by kernel_rfl) (fun ww => by kernel_rfl) (Calls.mono h ?_)
    rintro _ w1 ⟨v8, rfl, h⟩
    refine ⟨_, rfl, ?_⟩
    refine reg_run [.plain, .plain] 4 [(0, [], Value.pointer f), (6, [], Value.bool (!v8))] (by kernel_rfl) (by kernel_rfl) ?_
    refine reg_end [(0, Value.pointer f), (6, Value.bool (!v8))] (by kernel_rfl) (by kernel_rfl) ?_
    change WpE _ _ c_feed_Feed_Read_8 _ _ _
    refine wpE_cond (o := (Operand.tmp 6)) (b := (!v8)) (x := c_feed_Feed_Read_9) (y := c_feed_Feed_Read_13) (by kernel_rfl) (by kernel_rfl) (fun hb => ?_) (fun hb => ?_)
    · replace h := h.1 hb
      refine wpE_seq (x := c_feed_Feed_Read_10) (y := c_feed_Feed_Read_12) (by kernel_rfl) ?_
      refine wpE_region (id := 2) (ops := r_feed_Feed_Read_10) (by kernel_rfl) ?_
      refine reg_run [.plain, .plain] 2 [(2, [], Value.int .i64 0), (3, [], Value.int .i64 2)] (by kernel_rfl) (by kernel_rfl) ?_
      refine reg_end [(2, Value.int .i64 0), (3, Value.int .i64 2)] (by kernel_rfl) (by kernel_rfl) ?_
      change WpE _ _ c_feed_Feed_Read_12 _ _ _
      refine wpE_ret (by kernel_rfl) ?_
      repeat (first | refine seqQ_ret ?_ | refine blockQ_ret ?_ | refine loopQ_ret ?_ | refine cutQ_ret ?_)
      exact retT (rs := [(Go.ResultVar.tmp 2), (Go.ResultVar.tmp 3)]) (vs := [Value.int .i64 0, Value.int .i64 2]) (by kernel_rfl) (⟨by kernel_rfl, ⟨by kernel_rfl, trivial⟩⟩) (by kernel_rfl) ⟨0, 2, rfl, h⟩
    · replace h := h.2 hb
      refine wpE_seq (x := c_feed_Feed_Read_14) (y := c_feed_Feed_Read_16) (by kernel_rfl) ?_
      refine wpE_region (id := 3) (ops := r_feed_Feed_Read_14) (by kernel_rfl) ?_
      refine reg_run [.plain] 1 [(0, [], Value.pointer f), (11, [], Value.pointer f)] (by kernel_rfl) (by kernel_rfl) ?_
      obtain ⟨hp_9, h⟩ := h
      refine reg_conv [(0, [], Value.pointer f), (11, [], Value.pointer (some ⟨(pblk f), (poff f), none⟩))] (congrArg (fun pp => ([(0, [], Value.pointer f), (11, [], Value.pointer pp)] : GEnv)) hp_9) ?_
      refine reg_run [.plain] 2 [(0, [], Value.pointer f), (11, [], Value.pointer (some ⟨(pblk f), (poff f), none⟩)), (12, [], Value.pointer (some ⟨(pblk f), (poff f), none⟩))] (by kernel_rfl) (by kernel_rfl) ?_
      refine reg_run [.plain] 3 [(0, [], Value.pointer f), (13, [], Value.pointer (some ⟨(pblk f), (poff f) + 5, none⟩))] (by kernel_rfl) (by kernel_rfl) ?_
      obtain ⟨v14, hc, h⟩ := h
      refine reg_load1 (t := 57) (a := (Go.Operand.tmp 13)) (b := (pblk f)) (o := ((poff f) + 5)) (ty := 57) (dst := some 14) (by kernel_rfl) (by kernel_rfl) (by kernel_rfl) hc ?_
      refine reg_run [] 4 [(0, [], Value.pointer f), (14, [], Value.pointer v14)] (by kernel_rfl) (by kernel_rfl) ?_
      refine reg_val (op := (Go.Op.binOp Go.BinOp.neq 57 (Go.Operand.tmp 14) (Go.Operand.const (Go.Value.pointer none)) 57)) (ty := 4) (dst := some 15) (Value.bool (!v14.isNone)) (by kernel_rfl) (fun ww => run_ptr_neq_R (p := v14) (by kernel_rfl) (by kernel_rfl) (by kernel_rfl) ww) ?_
      refine reg_run [.plain] 6 [(0, [], Value.pointer f), (10, [], Value.bool (!v14.isNone))] (by kernel_rfl) (by kernel_rfl) ?_
      refine reg_end [(0, Value.pointer f), (10, Value.bool (!v14.isNone))] (by kernel_rfl) (by kernel_rfl) ?_
      change WpE _ _ c_feed_Feed_Read_16 _ _ _
      refine wpE_cond (o := (Operand.tmp 10)) (b := (!v14.isNone)) (x := c_feed_Feed_Read_17) (y := c_feed_Feed_Read_21) (by kernel_rfl) (by kernel_rfl) (fun hb => ?_) (fun hb => ?_)
      · replace h := h.1 hb
        refine wpE_seq (x := c_feed_Feed_Read_18) (y := c_feed_Feed_Read_20) (by kernel_rfl) ?_
        refine wpE_region (id := 4) (ops := r_feed_Feed_Read_18) (by kernel_rfl) ?_
        refine reg_run [.plain, .plain] 2 [(2, [], Value.int .i64 0), (3, [], Value.int .i64 10)] (by kernel_rfl) (by kernel_rfl) ?_
        refine reg_end [(2, Value.int .i64 0), (3, Value.int .i64 10)] (by kernel_rfl) (by kernel_rfl) ?_
        change WpE _ _ c_feed_Feed_Read_20 _ _ _
        refine wpE_ret (by kernel_rfl) ?_
        repeat (first | refine seqQ_ret ?_ | refine blockQ_ret ?_ | refine loopQ_ret ?_ | refine cutQ_ret ?_)
        exact retT (rs := [(Go.ResultVar.tmp 2), (Go.ResultVar.tmp 3)]) (vs := [Value.int .i64 0, Value.int .i64 10]) (by kernel_rfl) (⟨by kernel_rfl, ⟨by kernel_rfl, trivial⟩⟩) (by kernel_rfl) ⟨0, 10, rfl, h⟩
      · replace h := h.2 hb
        refine wpE_seq (x := c_feed_Feed_Read_22) (y := c_feed_Feed_Read_24) (by kernel_rfl) ?_
        refine wpE_region (id := 5) (ops := r_feed_Feed_Read_22) (by kernel_rfl) ?_
        refine reg_run [.plain] 1 [(0, [], Value.pointer f), (17, [], Value.pointer f)] (by kernel_rfl) (by kernel_rfl) ?_
        obtain ⟨hp_11, h⟩ := h
        refine reg_conv [(0, [], Value.pointer f), (17, [], Value.pointer (some ⟨(pblk f), (poff f), none⟩))] (congrArg (fun pp => ([(0, [], Value.pointer f), (17, [], Value.pointer pp)] : GEnv)) hp_11) ?_
        refine reg_run [.plain] 2 [(0, [], Value.pointer f), (17, [], Value.pointer (some ⟨(pblk f), (poff f), none⟩)), (18, [], Value.pointer (some ⟨(pblk f), (poff f), none⟩))] (by kernel_rfl) (by kernel_rfl) ?_
        refine reg_run [.plain] 3 [(0, [], Value.pointer f), (19, [], Value.pointer (some ⟨(pblk f), (poff f) + 6, none⟩))] (by kernel_rfl) (by kernel_rfl) ?_
        obtain ⟨v20, hc, h⟩ := h
        refine reg_load1 (t := 4) (a := (Go.Operand.tmp 19)) (b := (pblk f)) (o := ((poff f) + 6)) (ty := 4) (dst := some 20) (by kernel_rfl) (by kernel_rfl) (by kernel_rfl) hc ?_
        refine reg_run [.plain] 5 [(0, [], Value.pointer f), (16, [], Value.bool v20)] (by kernel_rfl) (by kernel_rfl) ?_
        refine reg_end [(0, Value.pointer f), (16, Value.bool v20)] (by kernel_rfl) (by kernel_rfl) ?_
        change WpE _ _ c_feed_Feed_Read_24 _ _ _
        refine wpE_cond (o := (Operand.tmp 16)) (b := v20) (x := c_feed_Feed_Read_25) (y := c_feed_Feed_Read_29) (by kernel_rfl) (by kernel_rfl) (fun hb => ?_) (fun hb => ?_)
        · replace h := h.1 hb
          refine wpE_seq (x := c_feed_Feed_Read_26) (y := c_feed_Feed_Read_28) (by kernel_rfl) ?_
          refine wpE_region (id := 6) (ops := r_feed_Feed_Read_26) (by kernel_rfl) ?_
          refine reg_run [.plain, .plain] 2 [(2, [], Value.int .i64 0), (3, [], Value.int .i64 12)] (by kernel_rfl) (by kernel_rfl) ?_
          refine reg_end [(2, Value.int .i64 0), (3, Value.int .i64 12)] (by kernel_rfl) (by kernel_rfl) ?_
          change WpE _ _ c_feed_Feed_Read_28 _ _ _
          refine wpE_ret (by kernel_rfl) ?_
          repeat (first | refine seqQ_ret ?_ | refine blockQ_ret ?_ | refine loopQ_ret ?_ | refine cutQ_ret ?_)
          exact retT (rs := [(Go.ResultVar.tmp 2), (Go.ResultVar.tmp 3)]) (vs := [Value.int .i64 0, Value.int .i64 12]) (by kernel_rfl) (⟨by kernel_rfl, ⟨by kernel_rfl, trivial⟩⟩) (by kernel_rfl) ⟨0, 12, rfl, h⟩
        · replace h := h.2 hb
          refine wpE_seq (x := c_feed_Feed_Read_30) (y := c_feed_Feed_Read_32) (by kernel_rfl) ?_
          refine wpE_drawregion (id := 7) (ops := r_feed_Feed_Read_30) (by kernel_rfl) (by kernel_rfl) (by kernel_rfl) ?_
          refine qreg_run [.plain] 1 [(0, [], Value.pointer f), (22, [], Value.pointer f)] (by kernel_rfl) (by kernel_rfl) ?_
          obtain ⟨hp_14, h⟩ := h
          refine qreg_conv [(0, [], Value.pointer f), (22, [], Value.pointer (some ⟨(pblk f), (poff f), none⟩))] (congrArg (fun pp => ([(0, [], Value.pointer f), (22, [], Value.pointer pp)] : GEnv)) hp_14) ?_
          refine qreg_run [.plain] 2 [(0, [], Value.pointer f), (22, [], Value.pointer (some ⟨(pblk f), (poff f), none⟩)), (23, [], Value.pointer (some ⟨(pblk f), (poff f), none⟩))] (by kernel_rfl) (by kernel_rfl) ?_
          refine qreg_run [.plain] 3 [(0, [], Value.pointer f), (24, [], Value.pointer (some ⟨(pblk f), (poff f) + 1, none⟩))] (by kernel_rfl) (by kernel_rfl) ?_
          obtain ⟨v25, hc, h⟩ := h
          refine qreg_load1 (t := 3) (a := (Go.Operand.tmp 24)) (b := (pblk f)) (o := ((poff f) + 1)) (ty := 3) (dst := some 25) (by kernel_rfl) (by kernel_rfl) (by kernel_rfl) hc ?_
          refine qreg_run [.plain] 5 [(0, [], Value.pointer f), (25, [], Value.int .i64 v25), (26, [], Value.pointer f)] (by kernel_rfl) (by kernel_rfl) ?_
          obtain ⟨hp_15, h⟩ := h
          refine qreg_conv [(0, [], Value.pointer f), (25, [], Value.int .i64 v25), (26, [], Value.pointer (some ⟨(pblk f), (poff f), none⟩))] (congrArg (fun pp => ([(0, [], Value.pointer f), (25, [], Value.int .i64 v25), (26, [], Value.pointer pp)] : GEnv)) hp_15) ?_
          refine qreg_run [.plain] 6 [(0, [], Value.pointer f), (25, [], Value.int .i64 v25), (26, [], Value.pointer (some ⟨(pblk f), (poff f), none⟩)), (27, [], Value.pointer (some ⟨(pblk f), (poff f), none⟩))] (by kernel_rfl) (by kernel_rfl) ?_
          refine qreg_run [.plain] 7 [(0, [], Value.pointer f), (25, [], Value.int .i64 v25), (28, [], Value.pointer (some ⟨(pblk f), (poff f) + 2, none⟩))] (by kernel_rfl) (by kernel_rfl) ?_
          obtain ⟨v29, hc, h⟩ := h
          refine qreg_load1 (t := 3) (a := (Go.Operand.tmp 28)) (b := (pblk f)) (o := ((poff f) + 2)) (ty := 3) (dst := some 29) (by kernel_rfl) (by kernel_rfl) (by kernel_rfl) hc ?_
          refine qreg_run [.plain, .plain] 10 [(0, [], Value.pointer f), (21, [], Value.bool (decide (v25 ≥ v29)))] (by kernel_rfl) (by kernel_rfl) ?_
          refine qreg_end [(0, Value.pointer f), (21, Value.bool (decide (v25 ≥ v29)))] (by kernel_rfl) (by kernel_rfl) (fun w2 hw => ?_)
          replace h := h w2 hw
          clear hw
          change WpE _ _ c_feed_Feed_Read_32 _ _ _
          refine wpE_cond (o := (Operand.tmp 21)) (b := (decide (v25 ≥ v29))) (x := c_feed_Feed_Read_33) (y := c_feed_Feed_Read_37) (by kernel_rfl) (by kernel_rfl) (fun hb => ?_) (fun hb => ?_)
          · replace h := h.1 hb
            refine wpE_seq (x := c_feed_Feed_Read_34) (y := c_feed_Feed_Read_36) (by kernel_rfl) ?_
            refine wpE_region (id := 8) (ops := r_feed_Feed_Read_34) (by kernel_rfl) ?_
            refine reg_run [.plain, .plain] 2 [(2, [], Value.int .i64 0), (3, [], Value.int .i64 9)] (by kernel_rfl) (by kernel_rfl) ?_
            refine reg_end [(2, Value.int .i64 0), (3, Value.int .i64 9)] (by kernel_rfl) (by kernel_rfl) ?_
            change WpE _ _ c_feed_Feed_Read_36 _ _ _
            refine wpE_ret (by kernel_rfl) ?_
            repeat (first | refine seqQ_ret ?_ | refine blockQ_ret ?_ | refine loopQ_ret ?_ | refine cutQ_ret ?_)
            exact retT (rs := [(Go.ResultVar.tmp 2), (Go.ResultVar.tmp 3)]) (vs := [Value.int .i64 0, Value.int .i64 9]) (by kernel_rfl) (⟨by kernel_rfl, ⟨by kernel_rfl, trivial⟩⟩) (by kernel_rfl) ⟨0, 9, rfl, h⟩
          · replace h := h.2 hb
            refine wpE_skip (by kernel_rfl) ?_
            change WpE _ _ c_feed_Feed_Read_38 _ _ _
            refine wpE_seq_cut (x := c_feed_Feed_Read_39) (y := c_feed_Feed_Read_41) (by kernel_rfl) (fun l w => ∃ (t_ : Option Addr) (e : Int), l = [(0, Value.pointer f), (4, Value.pointer t_), (5, Value.int .i64 e)] ∧ F_feed_Feed_Read_k0 f R t_ e w) ?_ ?_
            · refine wpE_mixregion (id := 9) (ops := r_feed_Feed_Read_39) o_feed_Feed_Read_39 (by kernel_rfl) (by kernel_rfl) (by kernel_rfl) (by kernel_rfl) (fun w6 hw => ?_)
              replace h := h w6 hw
              clear hw
              refine mreg_run [.plain] 1 [(0, [], Value.pointer f), (32, [], Value.pointer f)] (by kernel_rfl) (by kernel_rfl) ?_
              obtain ⟨hp_23, h⟩ := h
              refine mreg_conv [(0, [], Value.pointer f), (32, [], Value.pointer (some ⟨(pblk f), (poff f), none⟩))] (congrArg (fun pp => ([(0, [], Value.pointer f), (32, [], Value.pointer pp)] : GEnv)) hp_23) ?_
              refine mreg_run [.plain] 2 [(0, [], Value.pointer f), (32, [], Value.pointer (some ⟨(pblk f), (poff f), none⟩)), (33, [], Value.pointer (some ⟨(pblk f), (poff f), none⟩))] (by kernel_rfl) (by kernel_rfl) ?_
              refine mreg_run [.plain] 3 [(0, [], Value.pointer f), (34, [], Value.pointer (some ⟨(pblk f), (poff f), none⟩))] (by kernel_rfl) (by kernel_rfl) ?_
              obtain ⟨v35, hc, h⟩ := h
              refine mreg_load1 (i := 3) (by kernel_rfl) (t := 28) (a := (Go.Operand.tmp 34)) (b := (pblk f)) (o := (poff f)) (ty := 28) (dst := some 35) (by kernel_rfl) (by kernel_rfl) (by kernel_rfl) hc ?_
              refine mreg_run [.plain] 5 [(0, [], Value.pointer f), (35, [], Value.pointer v35), (36, [], Value.pointer f)] (by kernel_rfl) (by kernel_rfl) ?_
              obtain ⟨hp_24, h⟩ := h
              refine mreg_conv [(0, [], Value.pointer f), (35, [], Value.pointer v35), (36, [], Value.pointer (some ⟨(pblk f), (poff f), none⟩))] (congrArg (fun pp => ([(0, [], Value.pointer f), (35, [], Value.pointer v35), (36, [], Value.pointer pp)] : GEnv)) hp_24) ?_
              refine mreg_run [.plain] 6 [(0, [], Value.pointer f), (35, [], Value.pointer v35), (36, [], Value.pointer (some ⟨(pblk f), (poff f), none⟩)), (37, [], Value.pointer (some ⟨(pblk f), (poff f), none⟩))] (by kernel_rfl) (by kernel_rfl) ?_
              refine mreg_run [.plain] 7 [(0, [], Value.pointer f), (35, [], Value.pointer v35), (38, [], Value.pointer (some ⟨(pblk f), (poff f) + 1, none⟩))] (by kernel_rfl) (by kernel_rfl) ?_
              obtain ⟨v39, hc, h⟩ := h
              refine mreg_load1 (i := 7) (by kernel_rfl) (t := 3) (a := (Go.Operand.tmp 38)) (b := (pblk f)) (o := ((poff f) + 1)) (ty := 3) (dst := some 39) (by kernel_rfl) (by kernel_rfl) (by kernel_rfl) hc ?_
              refine mreg_run [.plain] 9 [(0, [], Value.pointer f), (35, [], Value.pointer v35), (40, [], Value.int .i64 (IntKind.i64.wrap (v39 + 1)))] (by kernel_rfl) (by kernel_rfl) ?_
              refine mreg_fork 9 [9, 13] (by kernel_rfl) (by kernel_rfl) (fork_two ?_ ?_)
              · replace h := h.1
                refine eff_enter (π := o_feed_Feed_Read_39_4) (k := 9) (op := (Go.Op.call (Go.Call.mk (Go.Callee.value (Go.Operand.func 48)) #[(Go.Operand.tmp 35), (Go.Operand.tmp 40)] #[28, 3]))) (ty := 43) (dst := some 41) 9 [3, 8, 2, 7, 1, 6, 0, 5, 4] [] 48 #[Value.pointer v35, Value.int .i64 (IntKind.i64.wrap (v39 + 1))] (by kernel_rfl) (by kernel_rfl) (by kernel_rfl) (by kernel_rfl) (by kernel_rfl) (by kernel_rfl) (fun ww => by kernel_rfl) (Calls.mono h ?_)
                rintro _ w7 ⟨v41, e1, rfl, h⟩
                refine ⟨_, rfl, trivial, ?_⟩
                refine mreg_run [.plain, .plain, .plain] 13 [(0, [], Value.pointer f), (42, [], Value.agg #[Value.int .i64 v41.Number, Value.slice v41.Writes.ptr v41.Writes.len v41.Writes.cap]), (43, [], Value.int .i64 e1)] (by kernel_rfl) (by kernel_rfl) ?_
                refine mreg_new (op := (Go.Op.alloc 42)) (ty := 0) (dst := some 4) 13 [] [] (fun bb => Value.pointer (some ⟨bb, 0, none⟩)) (Obj.cells ([Value.int .i64 0, Value.slice none 0 0]).toArray ty_api_Txn (0, 0)) (by kernel_rfl) (by kernel_rfl) (by kernel_rfl) (by kernel_rfl) (by kernel_rfl) (by kernel_rfl) (fun b_ w8 hb hw => ?_)
                replace h := h b_ w8 hb hw
                clear hb hw
                refine ⟨trivial, ?_⟩
                refine mreg_run [] 14 [(0, [], Value.pointer f), (4, [], Value.pointer (some ⟨b_, 0, none⟩)), (42, [], Value.agg #[Value.int .i64 v41.Number, Value.slice v41.Writes.ptr v41.Writes.len v41.Writes.cap]), (43, [], Value.int .i64 e1)] (by kernel_rfl) (by kernel_rfl) ?_
                obtain ⟨hc, h⟩ := h
                refine mreg_store (t := 42) (a := (Go.Operand.tmp 4)) (x := (Go.Operand.tmp 42)) (b := b_) (o := 0) (k := 2) (ty := 0) (dst := none) 14 [0, 1, 2, 3, 4, 5, 6, 7, 8, 9, 10, 11, 13] [] [Value.int .i64 v41.Number, Value.slice v41.Writes.ptr v41.Writes.len v41.Writes.cap] (by kernel_rfl) (by kernel_rfl) (by kernel_rfl) (by kernel_rfl) (by kernel_rfl) (by kernel_rfl) (by kernel_rfl) (by kernel_rfl) (by kernel_rfl) (by kernel_rfl) hc (fun w9 hw => ?_)
                replace h := h w9 hw
                clear hw
                refine ⟨trivial, ?_⟩
                refine mreg_run [.plain] 16 [(0, [], Value.pointer f), (4, [], Value.pointer (some ⟨b_, 0, none⟩)), (5, [], Value.int .i64 e1)] (by kernel_rfl) (by kernel_rfl) ?_
                refine mreg_end [(0, Value.pointer f), (4, Value.pointer (some ⟨b_, 0, none⟩)), (5, Value.int .i64 e1)] (by kernel_rfl) (by kernel_rfl) (by kernel_rfl) ?_
                exact ⟨[(0, Value.pointer f), (4, Value.pointer (some ⟨b_, 0, none⟩)), (5, Value.int .i64 e1)], Sub.mk (by kernel_rfl), (some ⟨b_, 0, none⟩), e1, rfl, h⟩
              · replace h := h.2
                refine eff_new (π := o_feed_Feed_Read_39_5) (k := 9) (op := (Go.Op.alloc 42)) (ty := 0) (dst := some 4) 13 [] [(7, fun w' => w'.cell? ⟨(pblk f), (poff f) + 1, none⟩ = some (Value.int .i64 v39)), (3, fun w' => w'.cell? ⟨(pblk f), (poff f), none⟩ = some (Value.pointer v35))] (fun bb => Value.pointer (some ⟨bb, 0, none⟩)) (Obj.cells ([Value.int .i64 0, Value.slice none 0 0]).toArray ty_api_Txn (0, 0)) (by kernel_rfl) (by kernel_rfl) (by kernel_rfl) (by kernel_rfl) (by kernel_rfl) (by kernel_rfl) (by kernel_rfl) (fun b_1 w10 hb hw => ?_)
                replace h := h b_1 w10 hb hw
                clear hb hw
                obtain ⟨hk0, hk1, h⟩ := h
                refine ⟨⟨hk0, hk1, trivial⟩, ?_⟩
                refine mreg_run [] 10 [(0, [], Value.pointer f), (4, [], Value.pointer (some ⟨b_1, 0, none⟩)), (35, [], Value.pointer v35), (40, [], Value.int .i64 (IntKind.i64.wrap (v39 + 1)))] (by kernel_rfl) (by kernel_rfl) ?_
                refine mreg_enter (op := (Go.Op.call (Go.Call.mk (Go.Callee.value (Go.Operand.func 48)) #[(Go.Operand.tmp 35), (Go.Operand.tmp 40)] #[28, 3]))) (ty := 43) (dst := some 41) 9 [3, 8, 2, 7, 1, 6, 0, 5, 4] [] 48 #[Value.pointer v35, Value.int .i64 (IntKind.i64.wrap (v39 + 1))] (by kernel_rfl) (by kernel_rfl) (by kernel_rfl) (by kernel_rfl) (by kernel_rfl) (fun ww => by kernel_rfl) (Calls.mono h ?_)
                rintro _ w11 ⟨v411, e2, rfl, h⟩
                refine ⟨_, rfl, trivial, ?_⟩
                refine mreg_run [.plain, .plain, .plain] 14 [(0, [], Value.pointer f), (4, [], Value.pointer (some ⟨b_1, 0, none⟩)), (42, [], Value.agg #[Value.int .i64 v411.Number, Value.slice v411.Writes.ptr v411.Writes.len v411.Writes.cap]), (43, [], Value.int .i64 e2)] (by kernel_rfl) (by kernel_rfl) ?_
                obtain ⟨hc, h⟩ := h
                refine mreg_store (t := 42) (a := (Go.Operand.tmp 4)) (x := (Go.Operand.tmp 42)) (b := b_1) (o := 0) (k := 2) (ty := 0) (dst := none) 14 [0, 1, 2, 3, 4, 5, 6, 7, 8, 9, 10, 11, 13] [] [Value.int .i64 v411.Number, Value.slice v411.Writes.ptr v411.Writes.len v411.Writes.cap] (by kernel_rfl) (by kernel_rfl) (by kernel_rfl) (by kernel_rfl) (by kernel_rfl) (by kernel_rfl) (by kernel_rfl) (by kernel_rfl) (by kernel_rfl) (by kernel_rfl) hc (fun w12 hw => ?_)
                replace h := h w12 hw
                clear hw
                refine ⟨trivial, ?_⟩
                refine mreg_run [.plain] 16 [(0, [], Value.pointer f), (4, [], Value.pointer (some ⟨b_1, 0, none⟩)), (5, [], Value.int .i64 e2)] (by kernel_rfl) (by kernel_rfl) ?_
                refine mreg_end [(0, Value.pointer f), (4, Value.pointer (some ⟨b_1, 0, none⟩)), (5, Value.int .i64 e2)] (by kernel_rfl) (by kernel_rfl) (by kernel_rfl) ?_
                exact ⟨[(0, Value.pointer f), (4, Value.pointer (some ⟨b_1, 0, none⟩)), (5, Value.int .i64 e2)], Sub.mk (by kernel_rfl), (some ⟨b_1, 0, none⟩), e2, rfl, h⟩
            · rintro _ w3 ⟨t_, e, rfl, h⟩
              unfold F_feed_Feed_Read_k0 at h
              refine wpE_seq (x := c_feed_Feed_Read_42) (y := c_feed_Feed_Read_51) (by kernel_rfl) ?_
              refine wpE_seq (x := c_feed_Feed_Read_43) (y := c_feed_Feed_Read_45) (by kernel_rfl) ?_
              refine wpE_region (id := 10) (ops := r_feed_Feed_Read_43) (by kernel_rfl) ?_
              refine reg_run [.plain, .plain] 2 [(0, [], Value.pointer f), (4, [], Value.pointer t_), (5, [], Value.int .i64 e), (45, [], Value.bool (e != 0))] (by kernel_rfl) (by kernel_rfl) ?_
              refine reg_end [(0, Value.pointer f), (4, Value.pointer t_), (5, Value.int .i64 e), (45, Value.bool (e != 0))] (by kernel_rfl) (by kernel_rfl) ?_
              change WpE _ _ c_feed_Feed_Read_45 _ _ _
              refine wpE_cond (o := (Operand.tmp 45)) (b := (e != 0)) (x := c_feed_Feed_Read_46) (y := c_feed_Feed_Read_50) (by kernel_rfl) (by kernel_rfl) (fun hb => ?_) (fun hb => ?_)
              · replace h := h.1 hb
                refine wpE_seq (x := c_feed_Feed_Read_47) (y := c_feed_Feed_Read_49) (by kernel_rfl) ?_
                refine wpE_region (id := 11) (ops := r_feed_Feed_Read_47) (by kernel_rfl) ?_
                refine reg_run [.plain, .plain, .plain] 3 [(2, [], Value.int .i64 0), (3, [], Value.int .i64 e)] (by kernel_rfl) (by kernel_rfl) ?_
                refine reg_end [(2, Value.int .i64 0), (3, Value.int .i64 e)] (by kernel_rfl) (by kernel_rfl) ?_
                change WpE _ _ c_feed_Feed_Read_49 _ _ _
                refine wpE_ret (by kernel_rfl) ?_
                repeat (first | refine seqQ_ret ?_ | refine blockQ_ret ?_ | refine loopQ_ret ?_ | refine cutQ_ret ?_)
                exact retT (rs := [(Go.ResultVar.tmp 2), (Go.ResultVar.tmp 3)]) (vs := [Value.int .i64 0, Value.int .i64 e]) (by kernel_rfl) (⟨by kernel_rfl, ⟨by kernel_rfl, trivial⟩⟩) (by kernel_rfl) ⟨0, e, rfl, h⟩
              · replace h := h.2 hb
                refine wpE_skip (by kernel_rfl) ?_
                change WpE _ _ c_feed_Feed_Read_51 _ _ _
                refine wpE_seq (x := c_feed_Feed_Read_52) (y := c_feed_Feed_Read_54) (by kernel_rfl) ?_
                refine wpE_region (id := 12) (ops := r_feed_Feed_Read_52) (by kernel_rfl) ?_
                refine reg_run [.plain] 1 [(0, [], Value.pointer f), (4, [], Value.pointer t_), (47, [], Value.pointer f)] (by kernel_rfl) (by kernel_rfl) ?_
                obtain ⟨hp_19, h⟩ := h
                refine reg_conv [(0, [], Value.pointer f), (4, [], Value.pointer t_), (47, [], Value.pointer (some ⟨(pblk f), (poff f), none⟩))] (congrArg (fun pp => ([(0, [], Value.pointer f), (4, [], Value.pointer t_), (47, [], Value.pointer pp)] : GEnv)) hp_19) ?_
                refine reg_run [.plain] 2 [(0, [], Value.pointer f), (4, [], Value.pointer t_), (47, [], Value.pointer (some ⟨(pblk f), (poff f), none⟩)), (48, [], Value.pointer (some ⟨(pblk f), (poff f), none⟩))] (by kernel_rfl) (by kernel_rfl) ?_
                refine reg_run [.plain] 3 [(0, [], Value.pointer f), (4, [], Value.pointer t_), (47, [], Value.pointer (some ⟨(pblk f), (poff f), none⟩)), (49, [], Value.pointer (some ⟨(pblk f), (poff f) + 1, none⟩))] (by kernel_rfl) (by kernel_rfl) ?_
                obtain ⟨v50, hc, h⟩ := h
                refine reg_load1 (t := 3) (a := (Go.Operand.tmp 49)) (b := (pblk f)) (o := ((poff f) + 1)) (ty := 3) (dst := some 50) (by kernel_rfl) (by kernel_rfl) (by kernel_rfl) hc ?_
                refine reg_run [.plain, .plain, .plain] 7 [(0, [], Value.pointer f), (4, [], Value.pointer t_), (51, [], Value.int .i64 (IntKind.i64.wrap (v50 + 1))), (53, [], Value.pointer (some ⟨(pblk f), (poff f) + 1, none⟩))] (by kernel_rfl) (by kernel_rfl) ?_
                obtain ⟨hc, h⟩ := h
                refine reg_store (t := 3) (a := (Go.Operand.tmp 53)) (x := (Go.Operand.tmp 51)) (b := (pblk f)) (o := ((poff f) + 1)) (ty := 0) (dst := none) [Value.int .i64 (IntKind.i64.wrap (v50 + 1))] (by kernel_rfl) (by kernel_rfl) (by kernel_rfl) (k := 1) (by kernel_rfl) (by kernel_rfl) (by kernel_rfl) hc (fun w4 hw => ?_)
                replace h := h w4 hw
                clear hw
                refine reg_end [(0, Value.pointer f), (4, Value.pointer t_)] (by kernel_rfl) (by kernel_rfl) ?_
                change WpE _ _ c_feed_Feed_Read_54 _ _ _
                refine wpE_seq (x := c_feed_Feed_Read_55) (y := c_feed_Feed_Read_57) (by kernel_rfl) ?_
                refine wpE_region (id := 13) (ops := r_feed_Feed_Read_55) (by kernel_rfl) ?_
                refine reg_run [.plain] 1 [(4, [], Value.pointer t_), (54, [], Value.pointer f)] (by kernel_rfl) (by kernel_rfl) ?_
                obtain ⟨hp_21, h⟩ := h
                refine reg_conv [(4, [], Value.pointer t_), (54, [], Value.pointer (some ⟨(pblk f), (poff f), none⟩))] (congrArg (fun pp => ([(4, [], Value.pointer t_), (54, [], Value.pointer pp)] : GEnv)) hp_21) ?_
                refine reg_run [.plain] 2 [(4, [], Value.pointer t_), (54, [], Value.pointer (some ⟨(pblk f), (poff f), none⟩)), (55, [], Value.pointer (some ⟨(pblk f), (poff f), none⟩))] (by kernel_rfl) (by kernel_rfl) ?_
                refine reg_run [.plain] 3 [(4, [], Value.pointer t_), (56, [], Value.pointer (some ⟨(pblk f), (poff f) + 5, none⟩))] (by kernel_rfl) (by kernel_rfl) ?_
                obtain ⟨hc, h⟩ := h
                refine reg_store (t := 57) (a := (Go.Operand.tmp 56)) (x := (Go.Operand.tmp 4)) (b := (pblk f)) (o := ((poff f) + 5)) (ty := 0) (dst := none) [Value.pointer t_] (by kernel_rfl) (by kernel_rfl) (by kernel_rfl) (k := 1) (by kernel_rfl) (by kernel_rfl) (by kernel_rfl) hc (fun w5 hw => ?_)
                replace h := h w5 hw
                clear hw
                refine reg_end [(4, Value.pointer t_)] (by kernel_rfl) (by kernel_rfl) ?_
                change WpE _ _ c_feed_Feed_Read_57 _ _ _
                refine wpE_seq (x := c_feed_Feed_Read_58) (y := c_feed_Feed_Read_60) (by kernel_rfl) ?_
                refine wpE_region (id := 14) (ops := r_feed_Feed_Read_58) (by kernel_rfl) ?_
                refine reg_run [] 0 [(4, [], Value.pointer t_)] (by kernel_rfl) (by kernel_rfl) ?_
                obtain ⟨hp_22, h⟩ := h
                refine reg_conv [(4, [], Value.pointer (some ⟨(pblk t_), (poff t_), none⟩))] (congrArg (fun pp => ([(4, [], Value.pointer pp)] : GEnv)) hp_22) ?_
                refine reg_run [.plain] 1 [(4, [], Value.pointer (some ⟨(pblk t_), (poff t_), none⟩)), (57, [], Value.pointer (some ⟨(pblk t_), (poff t_), none⟩))] (by kernel_rfl) (by kernel_rfl) ?_
                refine reg_run [] 1 [(57, [], Value.pointer (some ⟨(pblk t_), (poff t_), none⟩))] (by kernel_rfl) (by kernel_rfl) ?_
                obtain ⟨v58, hc, h⟩ := h
                refine reg_load1 (t := 3) (a := (Go.Operand.tmp 57)) (b := (pblk t_)) (o := (poff t_)) (ty := 3) (dst := some 58) (by kernel_rfl) (by kernel_rfl) (by kernel_rfl) hc ?_
                refine reg_run [.plain, .plain] 4 [(2, [], Value.int .i64 v58), (3, [], Value.int .i64 0)] (by kernel_rfl) (by kernel_rfl) ?_
                refine reg_end [(2, Value.int .i64 v58), (3, Value.int .i64 0)] (by kernel_rfl) (by kernel_rfl) ?_
                change WpE _ _ c_feed_Feed_Read_60 _ _ _
                refine wpE_ret (by kernel_rfl) ?_
                repeat (first | refine seqQ_ret ?_ | refine blockQ_ret ?_ | refine loopQ_ret ?_ | refine cutQ_ret ?_)
                exact retT (rs := [(Go.ResultVar.tmp 2), (Go.ResultVar.tmp 3)]) (vs := [Value.int .i64 v58, Value.int .i64 0]) (by kernel_rfl) (⟨by kernel_rfl, ⟨by kernel_rfl, trivial⟩⟩) (by kernel_rfl) ⟨v58, 0, rfl, h⟩
  · rintro e w' ⟨v, rfl, r0, r1, rfl, h⟩; exact ⟨r0, r1, rfl, h⟩

/-! ### (*towpath/feed.Feed).Close (function 15) -/
noncomputable def c_feed_Feed_Close_0 : Code := (Try.f15.body).getD Code.skip
noncomputable def c_feed_Feed_Close_1 : Code := Code.l c_feed_Feed_Close_0
noncomputable def r_feed_Feed_Close_1 : Array Oper := Code.ops c_feed_Feed_Close_1
noncomputable def c_feed_Feed_Close_3 : Code := Code.r c_feed_Feed_Close_0
noncomputable def c_feed_Feed_Close_4 : Code := Code.l c_feed_Feed_Close_3
noncomputable def r_feed_Feed_Close_4 : Array Oper := Code.ops c_feed_Feed_Close_4
noncomputable def c_feed_Feed_Close_6 : Code := Code.r c_feed_Feed_Close_3

set_option maxRecDepth 100000 in
set_option maxHeartbeats 4000000 in
theorem S_feed_Feed_Close {f : Option Addr} {w : World} {R : World → Prop} (h : F_feed_Feed_Close f R w) : C_feed_Feed_Close f w R := by
  unfold F_feed_Feed_Close at h
  unfold C_feed_Feed_Close
  refine Calls.mono (calls_of_wpE (args := [Value.pointer f]) (R := fun v w' => v = Value.tuple #[] ∧ R w') Try.func15 (c := c_feed_Feed_Close_0) (by kernel_rfl) 7 (by kernel_rfl) (by kernel_rfl) [(0, Value.pointer f)] (by kernel_rfl) ?_) ?_
  · refine wpE_seq (x := c_feed_Feed_Close_1) (y := c_feed_Feed_Close_3) (by kernel_rfl) ?_
    refine wpE_region (id := 0) (ops := r_feed_Feed_Close_1) (by kernel_rfl) ?_
    refine reg_run [.plain] 1 [(0, [], Value.pointer f), (2, [], Value.pointer f)] (by kernel_rfl) (by kernel_rfl) ?_
    refine reg_enter (op := (Go.Op.call (Go.Call.mk (Go.Callee.value (Go.Operand.func 46)) #[(Go.Operand.tmp 2)] #[26]))) (ty := 4) (dst := some 3) 46 #[Value.pointer f] (by kernel_rfl) (fun ww => by kernel_rfl) (Calls.mono h ?_)
    rintro _ w1 ⟨v3, rfl, h⟩
    refine ⟨_, rfl, ?_⟩
    refine reg_end [(0, Value.pointer f), (3, Value.bool v3)] (by kernel_rfl) (by kernel_rfl) ?_
    change WpE _ _ c_feed_Feed_Close_3 _ _ _
    refine wpE_cond (o := (Operand.tmp 3)) (b := v3) (x := c_feed_Feed_Close_4) (y := c_feed_Feed_Close_6) (by kernel_rfl) (by kernel_rfl) (fun hb => ?_) (fun hb => ?_)
    · replace h := h.1 hb
      refine wpE_region (id := 1) (ops := r_feed_Feed_Close_4) (by kernel_rfl) ?_
      refine reg_run [.plain] 1 [(4, [], Value.pointer f)] (by kernel_rfl) (by kernel_rfl) ?_
      obtain ⟨hp_0, h⟩ := h
      refine reg_conv [(4, [], Value.pointer (some ⟨(pblk f), (poff f), none⟩))] (congrArg (fun pp => ([(4, [], Value.pointer pp)] : GEnv)) hp_0) ?_
      refine reg_run [.plain] 2 [(4, [], Value.pointer (some ⟨(pblk f), (poff f), none⟩)), (5, [], Value.pointer (some ⟨(pblk f), (poff f), none⟩))] (by kernel_rfl) (by kernel_rfl) ?_
      refine reg_run [.plain] 3 [(6, [], Value.pointer (some ⟨(pblk f), (poff f) + 6, none⟩))] (by kernel_rfl) (by kernel_rfl) ?_
      obtain ⟨hc, h⟩ := h
      refine reg_store (t := 4) (a := (Go.Operand.tmp 6)) (x := (Go.Operand.const (Go.Value.bool true))) (b := (pblk f)) (o := ((poff f) + 6)) (ty := 0) (dst := none) [Value.bool true] (by kernel_rfl) (by kernel_rfl) (by kernel_rfl) (k := 1) (by kernel_rfl) (by kernel_rfl) (by kernel_rfl) hc (fun w2 hw => ?_)
      replace h := h w2 hw
      clear hw
      refine reg_end [] (by kernel_rfl) (by kernel_rfl) ?_
      repeat (first | refine seqQ_exit ?_ | refine loopQ_exit ?_ | refine cutQ_exit ?_ | refine blockQ_hit ?_ | refine blockQ_miss (by kernel_rfl) ?_)
      refine retQ_normal ?_
      repeat (first | refine seqQ_ret ?_ | refine blockQ_ret ?_ | refine loopQ_ret ?_ | refine cutQ_ret ?_)
      exact retT (rs := []) (vs := []) (by kernel_rfl) (trivial) (by kernel_rfl) ⟨rfl, h⟩
    · replace h := h.2 hb
      refine wpE_skip (by kernel_rfl) ?_
      repeat (first | refine seqQ_exit ?_ | refine loopQ_exit ?_ | refine cutQ_exit ?_ | refine blockQ_hit ?_ | refine blockQ_miss (by kernel_rfl) ?_)
      refine retQ_normal ?_
      repeat (first | refine seqQ_ret ?_ | refine blockQ_ret ?_ | refine loopQ_ret ?_ | refine cutQ_ret ?_)
      exact retT (rs := []) (vs := []) (by kernel_rfl) (trivial) (by kernel_rfl) ⟨rfl, h⟩
  · rintro e w' ⟨v, rfl, rfl, h⟩; exact ⟨rfl, h⟩

/-! ### (*towpath/feed.Feed).Held (function 17) -/
noncomputable def c_feed_Feed_Held_0 : Code := (Try.f17.body).getD Code.skip
noncomputable def c_feed_Feed_Held_1 : Code := Code.l c_feed_Feed_Held_0
noncomputable def r_feed_Feed_Held_1 : Array Oper := Code.ops c_feed_Feed_Held_1
noncomputable def c_feed_Feed_Held_3 : Code := Code.r c_feed_Feed_Held_0
noncomputable def c_feed_Feed_Held_4 : Code := Code.l c_feed_Feed_Held_3
noncomputable def c_feed_Feed_Held_5 : Code := Code.l c_feed_Feed_Held_4
noncomputable def r_feed_Feed_Held_5 : Array Oper := Code.ops c_feed_Feed_Held_5
noncomputable def c_feed_Feed_Held_7 : Code := Code.r c_feed_Feed_Held_4
noncomputable def c_feed_Feed_Held_8 : Code := Code.l c_feed_Feed_Held_7
noncomputable def c_feed_Feed_Held_9 : Code := Code.l c_feed_Feed_Held_8
noncomputable def r_feed_Feed_Held_9 : Array Oper := Code.ops c_feed_Feed_Held_9
noncomputable def c_feed_Feed_Held_11 : Code := Code.r c_feed_Feed_Held_8
noncomputable def c_feed_Feed_Held_12 : Code := Code.r c_feed_Feed_Held_7
noncomputable def c_feed_Feed_Held_13 : Code := Code.r c_feed_Feed_Held_3
noncomputable def c_feed_Feed_Held_14 : Code := Code.l c_feed_Feed_Held_13
noncomputable def r_feed_Feed_Held_14 : Array Oper := Code.ops c_feed_Feed_Held_14
noncomputable def c_feed_Feed_Held_16 : Code := Code.r c_feed_Feed_Held_13

set_option maxRecDepth 100000 in
set_option maxHeartbeats 4000000 in
theorem S_feed_Feed_Held {f : Option Addr} {w : World} {R : Int → World → Prop} (h : F_feed_Feed_Held f R w) : C_feed_Feed_Held f w R := by
  unfold F_feed_Feed_Held at h
  unfold C_feed_Feed_Held
  refine Calls.mono (calls_of_wpE (args := [Value.pointer f]) (R := fun v w' => ∃ (r0 : Int), v = Value.int .i64 r0 ∧ R r0 w') Try.func17 (c := c_feed_Feed_Held_0) (by kernel_rfl) 20 (by kernel_rfl) (by kernel_rfl) [(0, Value.pointer f)] (by kernel_rfl) ?_) ?_
  · refine wpE_seq (x := c_feed_Feed_Held_1) (y := c_feed_Feed_Held_3) (by kernel_rfl) ?_
    refine wpE_region (id := 0) (ops := r_feed_Feed_Held_1) (by kernel_rfl) ?_
    refine reg_run [.plain] 1 [(0, [], Value.pointer f)] (by kernel_rfl) (by kernel_rfl) ?_
    refine reg_end [(0, Value.pointer f)] (by kernel_rfl) (by kernel_rfl) ?_
    change WpE _ _ c_feed_Feed_Held_3 _ _ _
    refine wpE_seq (x := c_feed_Feed_Held_4) (y := c_feed_Feed_Held_13) (by kernel_rfl) ?_
    refine wpE_seq_cut (x := c_feed_Feed_Held_5) (y := c_feed_Feed_Held_7) (by kernel_rfl) (fun l w => ∃ (t12 : Bool), l = [(0, Value.pointer f), (12, Value.bool t12)] ∧ F_feed_Feed_Held_k0 f R t12 w) ?_ ?_
    · refine wpE_region (id := 1) (ops := r_feed_Feed_Held_5) (by kernel_rfl) ?_
      refine reg_run [.plain] 1 [(0, [], Value.pointer f), (3, [], Value.pointer f)] (by kernel_rfl) (by kernel_rfl) ?_
      refine reg_enter (op := (Go.Op.call (Go.Call.mk (Go.Callee.value (Go.Operand.func 46)) #[(Go.Operand.tmp 3)] #[26]))) (ty := 4) (dst := some 4) 46 #[Value.pointer f] (by kernel_rfl) (fun ww => by kernel_rfl) (Calls.mono h ?_)
      rintro _ w2 ⟨v4, rfl, h⟩
      refine ⟨_, rfl, ?_⟩
      refine reg_run [.plain, .plain, .plain] 5 [(0, [], Value.pointer f), (6, [], Value.bool (!v4)), (7, [(6, false)], Value.pointer f)] (by kernel_rfl) (by kernel_rfl) ?_
      refine reg_split 6 (!v4) (by kernel_rfl) (fun hb => ?_) (fun hb => ?_)
      · replace h := h.1 hb
        refine reg_run [] 5 [(0, [], Value.pointer f), (6, [], Value.bool true), (7, [], undef)] (by kernel_rfl) (by kernel_rfl) ?_
        refine reg_run [.skip, .skip, .skip, .skip, .plain] 10 [(0, [], Value.pointer f), (12, [], Value.bool true)] (by kernel_rfl) (by kernel_rfl) ?_
        refine reg_end [(0, Value.pointer f), (12, Value.bool true)] (by kernel_rfl) (by kernel_rfl) ?_
        exact ⟨[(0, Value.pointer f), (12, Value.bool true)], Sub.mk (by kernel_rfl), true, rfl, h⟩
      · replace h := h.2 hb
        refine reg_run [] 5 [(0, [], Value.pointer f), (6, [], Value.bool false), (7, [], Value.pointer f)] (by kernel_rfl) (by kernel_rfl) ?_
        refine reg_run [] 5 [(0, [], Value.pointer f), (6, [], Value.bool false), (7, [], Value.pointer f)] (by kernel_rfl) (by kernel_rfl) ?_
        obtain ⟨hp_5, h⟩ := h
        refine reg_conv [(0, [], Value.pointer f), (6, [], Value.bool false), (7, [], Value.pointer (some ⟨(pblk f), (poff f), none⟩))] (congrArg (fun pp => ([(0, [], Value.pointer f), (6, [], Value.bool false), (7, [], Value.pointer pp)] : GEnv)) hp_5) ?_
        refine reg_run [.sure] 6 [(0, [], Value.pointer f), (6, [], Value.bool false), (7, [], Value.pointer (some ⟨(pblk f), (poff f), none⟩)), (8, [], Value.pointer (some ⟨(pblk f), (poff f), none⟩))] (by kernel_rfl) (by kernel_rfl) ?_
        refine reg_run [.sure] 7 [(0, [], Value.pointer f), (6, [], Value.bool false), (9, [], Value.pointer (some ⟨(pblk f), (poff f) + 5, none⟩))] (by kernel_rfl) (by kernel_rfl) ?_
        obtain ⟨v10, hc, h⟩ := h
        refine reg_load1 (t := 57) (a := (Go.Operand.tmp 9)) (b := (pblk f)) (o := ((poff f) + 5)) (ty := 57) (dst := some 10) (by kernel_rfl) (by kernel_rfl) (by kernel_rfl) hc ?_
        refine reg_run [] 8 [(0, [], Value.pointer f), (6, [], Value.bool false), (10, [], Value.pointer v10)] (by kernel_rfl) (by kernel_rfl) ?_
        refine reg_val (op := (Go.Op.binOp Go.BinOp.eql 57 (Go.Operand.tmp 10) (Go.Operand.const (Go.Value.pointer none)) 57)) (ty := 4) (dst := some 11) (Value.bool v10.isNone) (by kernel_rfl) (fun ww => run_ptr_eql_R (p := v10) (by kernel_rfl) (by kernel_rfl) (by kernel_rfl) ww) ?_
        refine reg_run [.plain] 10 [(0, [], Value.pointer f), (12, [], Value.bool v10.isNone)] (by kernel_rfl) (by kernel_rfl) ?_
        refine reg_end [(0, Value.pointer f), (12, Value.bool v10.isNone)] (by kernel_rfl) (by kernel_rfl) ?_
        exact ⟨[(0, Value.pointer f), (12, Value.bool v10.isNone)], Sub.mk (by kernel_rfl), v10.isNone, rfl, h⟩
    · rintro _ w1 ⟨t12, rfl, h⟩
      unfold F_feed_Feed_Held_k0 at h
      refine wpE_cond (o := (Operand.tmp 12)) (b := t12) (x := c_feed_Feed_Held_8) (y := c_feed_Feed_Held_12) (by kernel_rfl) (by kernel_rfl) (fun hb => ?_) (fun hb => ?_)
      · replace h := h.1 hb
        refine wpE_seq (x := c_feed_Feed_Held_9) (y := c_feed_Feed_Held_11) (by kernel_rfl) ?_
        refine wpE_region (id := 2) (ops := r_feed_Feed_Held_9) (by kernel_rfl) ?_
        refine reg_run [.plain] 1 [(2, [], Value.int .i64 0)] (by kernel_rfl) (by kernel_rfl) ?_
        refine reg_end [(2, Value.int .i64 0)] (by kernel_rfl) (by kernel_rfl) ?_
        change WpE _ _ c_feed_Feed_Held_11 _ _ _
        refine wpE_ret (by kernel_rfl) ?_
        repeat (first | refine seqQ_ret ?_ | refine blockQ_ret ?_ | refine loopQ_ret ?_ | refine cutQ_ret ?_)
        exact retS (rs := [(Go.ResultVar.tmp 2)]) (v := Value.int .i64 0) (by kernel_rfl) (⟨by kernel_rfl, trivial⟩) ⟨0, rfl, h⟩
      · replace h := h.2 hb
        refine wpE_skip (by kernel_rfl) ?_
        change WpE _ _ c_feed_Feed_Held_13 _ _ _
        refine wpE_seq (x := c_feed_Feed_Held_14) (y := c_feed_Feed_Held_16) (by kernel_rfl) ?_
        refine wpE_region (id := 3) (ops := r_feed_Feed_Held_14) (by kernel_rfl) ?_
        refine reg_run [.plain] 1 [(13, [], Value.pointer f)] (by kernel_rfl) (by kernel_rfl) ?_
        obtain ⟨hp_3, h⟩ := h
        refine reg_conv [(13, [], Value.pointer (some ⟨(pblk f), (poff f), none⟩))] (congrArg (fun pp => ([(13, [], Value.pointer pp)] : GEnv)) hp_3) ?_
        refine reg_run [.plain] 2 [(13, [], Value.pointer (some ⟨(pblk f), (poff f), none⟩)), (14, [], Value.pointer (some ⟨(pblk f), (poff f), none⟩))] (by kernel_rfl) (by kernel_rfl) ?_
        refine reg_run [.plain] 3 [(15, [], Value.pointer (some ⟨(pblk f), (poff f) + 5, none⟩))] (by kernel_rfl) (by kernel_rfl) ?_
        obtain ⟨v16, hc, h⟩ := h
        refine reg_load1 (t := 57) (a := (Go.Operand.tmp 15)) (b := (pblk f)) (o := ((poff f) + 5)) (ty := 57) (dst := some 16) (by kernel_rfl) (by kernel_rfl) (by kernel_rfl) hc ?_
        refine reg_run [] 4 [(16, [], Value.pointer v16)] (by kernel_rfl) (by kernel_rfl) ?_
        obtain ⟨hp_4, h⟩ := h
        refine reg_conv [(16, [], Value.pointer (some ⟨(pblk v16), (poff v16), none⟩))] (congrArg (fun pp => ([(16, [], Value.pointer pp)] : GEnv)) hp_4) ?_
        refine reg_run [.plain] 5 [(16, [], Value.pointer (some ⟨(pblk v16), (poff v16), none⟩)), (17, [], Value.pointer (some ⟨(pblk v16), (poff v16), none⟩))] (by kernel_rfl) (by kernel_rfl) ?_
        refine reg_run [.plain] 6 [(18, [], Value.pointer (some ⟨(pblk v16), (poff v16), none⟩))] (by kernel_rfl) (by kernel_rfl) ?_
        obtain ⟨v19, hc, h⟩ := h
        refine reg_load1 (t := 3) (a := (Go.Operand.tmp 18)) (b := (pblk v16)) (o := (poff v16)) (ty := 3) (dst := some 19) (by kernel_rfl) (by kernel_rfl) (by kernel_rfl) hc ?_
        refine reg_run [.plain] 8 [(2, [], Value.int .i64 v19)] (by kernel_rfl) (by kernel_rfl) ?_
        refine reg_end [(2, Value.int .i64 v19)] (by kernel_rfl) (by kernel_rfl) ?_
        change WpE _ _ c_feed_Feed_Held_16 _ _ _
        refine wpE_ret (by kernel_rfl) ?_
        repeat (first | refine seqQ_ret ?_ | refine blockQ_ret ?_ | refine loopQ_ret ?_ | refine cutQ_ret ?_)
        exact retS (rs := [(Go.ResultVar.tmp 2)]) (v := Value.int .i64 v19) (by kernel_rfl) (⟨by kernel_rfl, trivial⟩) ⟨v19, rfl, h⟩
  · rintro e w' ⟨v, rfl, r0, rfl, h⟩; exact ⟨r0, rfl, h⟩

/-! ### (*towpath/feed.Feed).Can (function 18) -/
noncomputable def c_feed_Feed_Can_0 : Code := (Try.f18.body).getD Code.skip
noncomputable def c_feed_Feed_Can_1 : Code := Code.l c_feed_Feed_Can_0
noncomputable def r_feed_Feed_Can_1 : Array Oper := Code.ops c_feed_Feed_Can_1
noncomputable def c_feed_Feed_Can_3 : Code := Code.r c_feed_Feed_Can_0
noncomputable def c_feed_Feed_Can_4 : Code := Code.l c_feed_Feed_Can_3
noncomputable def c_feed_Feed_Can_5 : Code := Code.l c_feed_Feed_Can_4
noncomputable def r_feed_Feed_Can_5 : Array Oper := Code.ops c_feed_Feed_Can_5
noncomputable def c_feed_Feed_Can_7 : Code := Code.r c_feed_Feed_Can_4
noncomputable def c_feed_Feed_Can_8 : Code := Code.l c_feed_Feed_Can_7
noncomputable def c_feed_Feed_Can_9 : Code := Code.l c_feed_Feed_Can_8
noncomputable def r_feed_Feed_Can_9 : Array Oper := Code.ops c_feed_Feed_Can_9
noncomputable def c_feed_Feed_Can_11 : Code := Code.r c_feed_Feed_Can_8
noncomputable def c_feed_Feed_Can_12 : Code := Code.r c_feed_Feed_Can_7
noncomputable def c_feed_Feed_Can_13 : Code := Code.r c_feed_Feed_Can_3
noncomputable def c_feed_Feed_Can_14 : Code := Code.l c_feed_Feed_Can_13
noncomputable def r_feed_Feed_Can_14 : Array Oper := Code.ops c_feed_Feed_Can_14
noncomputable def c_feed_Feed_Can_16 : Code := Code.r c_feed_Feed_Can_13
noncomputable def c_feed_Feed_Can_17 : Code := Code.l c_feed_Feed_Can_16
noncomputable def c_feed_Feed_Can_18 : Code := Code.l c_feed_Feed_Can_17
noncomputable def c_feed_Feed_Can_19 : Code := Code.l c_feed_Feed_Can_18
noncomputable def c_feed_Feed_Can_20 : Code := Code.l c_feed_Feed_Can_19
noncomputable def c_feed_Feed_Can_21 : Code := Code.l c_feed_Feed_Can_20
noncomputable def c_feed_Feed_Can_22 : Code := Code.l c_feed_Feed_Can_21
noncomputable def c_feed_Feed_Can_23 : Code := Code.l c_feed_Feed_Can_22
noncomputable def c_feed_Feed_Can_24 : Code := Code.l c_feed_Feed_Can_23
noncomputable def c_feed_Feed_Can_25 : Code := Code.l c_feed_Feed_Can_24
noncomputable def c_feed_Feed_Can_26 : Code := Code.l c_feed_Feed_Can_25
noncomputable def c_feed_Feed_Can_27 : Code := Code.l c_feed_Feed_Can_26
noncomputable def c_feed_Feed_Can_28 : Code := Code.l c_feed_Feed_Can_27
noncomputable def c_feed_Feed_Can_29 : Code := Code.l c_feed_Feed_Can_28
noncomputable def c_feed_Feed_Can_30 : Code := Code.l c_feed_Feed_Can_29
noncomputable def r_feed_Feed_Can_30 : Array Oper := Code.ops c_feed_Feed_Can_30
noncomputable def c_feed_Feed_Can_32 : Code := Code.r c_feed_Feed_Can_29
noncomputable def c_feed_Feed_Can_33 : Code := Code.l c_feed_Feed_Can_32
noncomputable def c_feed_Feed_Can_34 : Code := Code.r c_feed_Feed_Can_32
noncomputable def c_feed_Feed_Can_35 : Code := Code.r c_feed_Feed_Can_28
noncomputable def c_feed_Feed_Can_36 : Code := Code.l c_feed_Feed_Can_35
noncomputable def c_feed_Feed_Can_37 : Code := Code.l c_feed_Feed_Can_36
noncomputable def r_feed_Feed_Can_37 : Array Oper := Code.ops c_feed_Feed_Can_37
noncomputable def c_feed_Feed_Can_39 : Code := Code.r c_feed_Feed_Can_36
noncomputable def c_feed_Feed_Can_40 : Code := Code.l c_feed_Feed_Can_39
noncomputable def c_feed_Feed_Can_41 : Code := Code.r c_feed_Feed_Can_39
noncomputable def c_feed_Feed_Can_42 : Code := Code.r c_feed_Feed_Can_35
noncomputable def c_feed_Feed_Can_43 : Code := Code.l c_feed_Feed_Can_42
noncomputable def c_feed_Feed_Can_44 : Code := Code.l c_feed_Feed_Can_43
noncomputable def c_feed_Feed_Can_45 : Code := Code.l c_feed_Feed_Can_44
noncomputable def r_feed_Feed_Can_45 : Array Oper := Code.ops c_feed_Feed_Can_45
noncomputable def c_feed_Feed_Can_47 : Code := Code.r c_feed_Feed_Can_44
noncomputable def c_feed_Feed_Can_48 : Code := Code.l c_feed_Feed_Can_47
noncomputable def c_feed_Feed_Can_49 : Code := Code.r c_feed_Feed_Can_47
noncomputable def r_feed_Feed_Can_49 : Array Oper := Code.ops c_feed_Feed_Can_49
noncomputable def c_feed_Feed_Can_51 : Code := Code.r c_feed_Feed_Can_43
noncomputable def c_feed_Feed_Can_52 : Code := Code.l c_feed_Feed_Can_51
noncomputable def c_feed_Feed_Can_53 : Code := Code.r c_feed_Feed_Can_51
noncomputable def c_feed_Feed_Can_54 : Code := Code.r c_feed_Feed_Can_42
noncomputable def c_feed_Feed_Can_55 : Code := Code.l c_feed_Feed_Can_54
noncomputable def r_feed_Feed_Can_55 : Array Oper := Code.ops c_feed_Feed_Can_55
noncomputable def c_feed_Feed_Can_57 : Code := Code.r c_feed_Feed_Can_54
noncomputable def c_feed_Feed_Can_58 : Code := Code.l c_feed_Feed_Can_57
noncomputable def c_feed_Feed_Can_59 : Code := Code.r c_feed_Feed_Can_57
noncomputable def c_feed_Feed_Can_60 : Code := Code.r c_feed_Feed_Can_27
noncomputable def c_feed_Feed_Can_61 : Code := Code.r c_feed_Feed_Can_25
noncomputable def c_feed_Feed_Can_62 : Code := Code.l c_feed_Feed_Can_61
noncomputable def r_feed_Feed_Can_62 : Array Oper := Code.ops c_feed_Feed_Can_62
noncomputable def c_feed_Feed_Can_64 : Code := Code.r c_feed_Feed_Can_61
noncomputable def c_feed_Feed_Can_65 : Code := Code.r c_feed_Feed_Can_23
noncomputable def c_feed_Feed_Can_66 : Code := Code.l c_feed_Feed_Can_65
noncomputable def r_feed_Feed_Can_66 : Array Oper := Code.ops c_feed_Feed_Can_66
noncomputable def c_feed_Feed_Can_68 : Code := Code.r c_feed_Feed_Can_65
noncomputable def c_feed_Feed_Can_69 : Code := Code.r c_feed_Feed_Can_20
noncomputable def c_feed_Feed_Can_70 : Code := Code.l c_feed_Feed_Can_69
noncomputable def c_feed_Feed_Can_71 : Code := Code.l c_feed_Feed_Can_70
noncomputable def r_feed_Feed_Can_71 : Array Oper := Code.ops c_feed_Feed_Can_71
noncomputable def c_feed_Feed_Can_73 : Code := Code.r c_feed_Feed_Can_70
noncomputable def c_feed_Feed_Can_74 : Code := Code.r c_feed_Feed_Can_69
noncomputable def c_feed_Feed_Can_75 : Code := Code.r c_feed_Feed_Can_18
noncomputable def c_feed_Feed_Can_76 : Code := Code.l c_feed_Feed_Can_75
noncomputable def r_feed_Feed_Can_76 : Array Oper := Code.ops c_feed_Feed_Can_76
noncomputable def c_feed_Feed_Can_78 : Code := Code.r c_feed_Feed_Can_75
noncomputable def c_feed_Feed_Can_79 : Code := Code.r c_feed_Feed_Can_16
noncomputable def c_feed_Feed_Can_80 : Code := Code.l c_feed_Feed_Can_79
noncomputable def r_feed_Feed_Can_80 : Array Oper := Code.ops c_feed_Feed_Can_80
noncomputable def c_feed_Feed_Can_82 : Code := Code.r c_feed_Feed_Can_79

set_option maxRecDepth 100000 in
set_option maxHeartbeats 4000000 in
theorem S_feed_Feed_Can {f : Option Addr} {mark : Int} {w : World} {R : Int → World → Prop} (h : F_feed_Feed_Can f mark R w) : C_feed_Feed_Can f mark w R := by
  unfold F_feed_Feed_Can at h
  unfold C_feed_Feed_Can
  refine Calls.mono (calls_of_wpE (args := [Value.pointer f, Value.int .i64 mark]) (R := fun v w' => ∃ (r0 : Int), v = Value.int .u8 r0 ∧ R r0 w') Try.func18 (c := c_feed_Feed_Can_0) (by kernel_rfl) 51 (by kernel_rfl) (by kernel_rfl) [(0, Value.pointer f), (1, Value.int .i64 mark)] (by kernel_rfl) ?_) ?_
  · refine wpE_seq (x := c_feed_Feed_Can_1) (y := c_feed_Feed_Can_3) (by kernel_rfl) ?_
    refine wpE_region (id := 0) (ops := r_feed_Feed_Can_1) (by kernel_rfl) ?_
    refine reg_run [.plain] 1 [(0, [], Value.pointer f), (1, [], Value.int .i64 mark)] (by kernel_rfl) (by kernel_rfl) ?_
    refine reg_end [(0, Value.pointer f), (1, Value.int .i64 mark)] (by kernel_rfl) (by kernel_rfl) ?_
    change WpE _ _ c_feed_Feed_Can_3 _ _ _
    refine wpE_seq (x := c_feed_Feed_Can_4) (y := c_feed_Feed_Can_13) (by kernel_rfl) ?_
    refine wpE_seq (x := c_feed_Feed_Can_5) (y := c_feed_Feed_Can_7) (by kernel_rfl) ?_
    refine wpE_region (id := 1) (ops := r_feed_Feed_Can_5) (by kernel_rfl) ?_
    refine reg_run [.plain] 1 [(0, [], Value.pointer f), (1, [], Value.int .i64 mark), (6, [], Value.pointer f)] (by kernel_rfl) (by kernel_rfl) ?_
    refine reg_enter (op := (Go.Op.call (Go.Call.mk (Go.Callee.value (Go.Operand.func 46)) #[(Go.Operand.tmp 6)] #[26]))) (ty := 4) (dst := some 7) 46 #[Value.pointer f] (by kernel_rfl) (fun ww => by kernel_rfl) (Calls.mono h ?_)
    rintro _ w1 ⟨v7, rfl, h⟩
    refine ⟨_, rfl, ?_⟩
    refine reg_run [.plain] 3 [(0, [], Value.pointer f), (1, [], Value.int .i64 mark), (8, [], Value.bool (!v7))] (by kernel_rfl) (by kernel_rfl) ?_
    refine reg_end [(0, Value.pointer f), (1, Value.int .i64 mark), (8, Value.bool (!v7))] (by kernel_rfl) (by kernel_rfl) ?_
    change WpE _ _ c_feed_Feed_Can_7 _ _ _
    refine wpE_cond (o := (Operand.tmp 8)) (b := (!v7)) (x := c_feed_Feed_Can_8) (y := c_feed_Feed_Can_12) (by kernel_rfl) (by kernel_rfl) (fun hb => ?_) (fun hb => ?_)
    · replace h := h.1 hb
      refine wpE_seq (x := c_feed_Feed_Can_9) (y := c_feed_Feed_Can_11) (by kernel_rfl) ?_
      refine wpE_region (id := 2) (ops := r_feed_Feed_Can_9) (by kernel_rfl) ?_
      refine reg_run [.plain] 1 [(4, [], Value.int .u8 0)] (by kernel_rfl) (by kernel_rfl) ?_
      refine reg_end [(4, Value.int .u8 0)] (by kernel_rfl) (by kernel_rfl) ?_
      change WpE _ _ c_feed_Feed_Can_11 _ _ _
      refine wpE_ret (by kernel_rfl) ?_
      repeat (first | refine seqQ_ret ?_ | refine blockQ_ret ?_ | refine loopQ_ret ?_ | refine cutQ_ret ?_)
      exact retS (rs := [(Go.ResultVar.tmp 4)]) (v := Value.int .u8 0) (by kernel_rfl) (⟨by kernel_rfl, trivial⟩) ⟨0, rfl, h⟩
    · replace h := h.2 hb
      refine wpE_skip (by kernel_rfl) ?_
      change WpE _ _ c_feed_Feed_Can_13 _ _ _
      refine wpE_seq (x := c_feed_Feed_Can_14) (y := c_feed_Feed_Can_16) (by kernel_rfl) ?_
      refine wpE_region (id := 3) (ops := r_feed_Feed_Can_14) (by kernel_rfl) ?_
      refine reg_run [.plain] 1 [(0, [], Value.pointer f), (1, [], Value.int .i64 mark)] (by kernel_rfl) (by kernel_rfl) ?_
      refine reg_end [(0, Value.pointer f), (1, Value.int .i64 mark)] (by kernel_rfl) (by kernel_rfl) ?_
      change WpE _ _ c_feed_Feed_Can_16 _ _ _
      refine wpE_seq_cut (x := c_feed_Feed_Can_17) (y := c_feed_Feed_Can_79) (by kernel_rfl) (fun l w => ∃ (k : Int), l = [(5, Value.int .u8 k)] ∧ F_feed_Feed_Can_k0 R k w) ?_ ?_
      · refine wpE_block (id := 0) (x := c_feed_Feed_Can_18) (by kernel_rfl) ?_
        refine wpE_seq (x := c_feed_Feed_Can_19) (y := c_feed_Feed_Can_75) (by kernel_rfl) ?_
        refine wpE_block (id := 5) (x := c_feed_Feed_Can_20) (by kernel_rfl) ?_
        refine wpE_seq_cut (x := c_feed_Feed_Can_21) (y := c_feed_Feed_Can_69) (by kernel_rfl) (fun l w => l = [] ∧ F_feed_Feed_Can_k1 R w) ?_ ?_
        · refine wpE_block (id := 4) (x := c_feed_Feed_Can_22) (by kernel_rfl) ?_
          refine wpE_block (id := 3) (x := c_feed_Feed_Can_23) (by kernel_rfl) ?_
          refine wpE_seq (x := c_feed_Feed_Can_24) (y := c_feed_Feed_Can_65) (by kernel_rfl) ?_
          refine wpE_block (id := 2) (x := c_feed_Feed_Can_25) (by kernel_rfl) ?_
          refine wpE_seq (x := c_feed_Feed_Can_26) (y := c_feed_Feed_Can_61) (by kernel_rfl) ?_
          refine wpE_block (id := 1) (x := c_feed_Feed_Can_27) (by kernel_rfl) ?_
          refine wpE_seq (x := c_feed_Feed_Can_28) (y := c_feed_Feed_Can_60) (by kernel_rfl) ?_
          refine wpE_seq (x := c_feed_Feed_Can_29) (y := c_feed_Feed_Can_35) (by kernel_rfl) ?_
          refine wpE_seq_cut (x := c_feed_Feed_Can_30) (y := c_feed_Feed_Can_32) (by kernel_rfl) (fun l w => ∃ (t9 : Bool), l = [(0, Value.pointer f), (1, Value.int .i64 mark), (9, Value.bool t9)] ∧ F_feed_Feed_Can_k2 f mark R t9 w) ?_ ?_
          · refine wpE_region (id := 4) (ops := r_feed_Feed_Can_30) (by kernel_rfl) ?_
            refine reg_run [.plain] 1 [(0, [], Value.pointer f), (1, [], Value.int .i64 mark), (10, [], Value.pointer f)] (by kernel_rfl) (by kernel_rfl) ?_
            obtain ⟨hp_1535, h⟩ := h
            refine reg_conv [(0, [], Value.pointer f), (1, [], Value.int .i64 mark), (10, [], Value.pointer (some ⟨(pblk f), (poff f), none⟩))] (congrArg (fun pp => ([(0, [], Value.pointer f), (1, [], Value.int .i64 mark), (10, [], Value.pointer pp)] : GEnv)) hp_1535) ?_
            refine reg_run [.plain] 2 [(0, [], Value.pointer f), (1, [], Value.int .i64 mark), (10, [], Value.pointer (some ⟨(pblk f), (poff f), none⟩)), (11, [], Value.pointer (some ⟨(pblk f), (poff f), none⟩))] (by kernel_rfl) (by kernel_rfl) ?_
            refine reg_run [.plain] 3 [(0, [], Value.pointer f), (1, [], Value.int .i64 mark), (12, [], Value.pointer (some ⟨(pblk f), (poff f) + 5, none⟩))] (by kernel_rfl) (by kernel_rfl) ?_
            obtain ⟨v13, hc, h⟩ := h
            refine reg_load1 (t := 57) (a := (Go.Operand.tmp 12)) (b := (pblk f)) (o := ((poff f) + 5)) (ty := 57) (dst := some 13) (by kernel_rfl) (by kernel_rfl) (by kernel_rfl) hc ?_
            refine reg_run [] 4 [(0, [], Value.pointer f), (1, [], Value.int .i64 mark), (13, [], Value.pointer v13)] (by kernel_rfl) (by kernel_rfl) ?_
            refine reg_val (op := (Go.Op.binOp Go.BinOp.neq 57 (Go.Operand.tmp 13) (Go.Operand.const (Go.Value.pointer none)) 57)) (ty := 4) (dst := some 14) (Value.bool (!v13.isNone)) (by kernel_rfl) (fun ww => run_ptr_neq_R (p := v13) (by kernel_rfl) (by kernel_rfl) (by kernel_rfl) ww) ?_
            refine reg_run [.plain, .plain] 7 [(0, [], Value.pointer f), (1, [], Value.int .i64 mark), (15, [], Value.bool (!v13.isNone)), (16, [(15, true)], Value.pointer f)] (by kernel_rfl) (by kernel_rfl) ?_
            refine reg_split 15 (!v13.isNone) (by kernel_rfl) (fun hb => ?_) (fun hb => ?_)
            · replace h := h.1 hb
              refine reg_run [] 7 [(0, [], Value.pointer f), (1, [], Value.int .i64 mark), (15, [], Value.bool true), (16, [], Value.pointer f)] (by kernel_rfl) (by kernel_rfl) ?_
              refine reg_run [] 7 [(0, [], Value.pointer f), (1, [], Value.int .i64 mark), (15, [], Value.bool true), (16, [], Value.pointer f)] (by kernel_rfl) (by kernel_rfl) ?_
              refine reg_enter (op := (Go.Op.call (Go.Call.mk (Go.Callee.value (Go.Operand.func 50)) #[(Go.Operand.tmp 16)] #[26]))) (ty := 4) (dst := some 17) 50 #[Value.pointer f] (by kernel_rfl) (fun ww => by kernel_rfl) (Calls.mono h ?_)
              rintro _ w9 ⟨v17, rfl, h⟩
              refine ⟨_, rfl, ?_⟩
              refine reg_run [.plain, .plain] 10 [(0, [], Value.pointer f), (1, [], Value.int .i64 mark), (9, [], Value.bool v17)] (by kernel_rfl) (by kernel_rfl) ?_
              refine reg_end [(0, Value.pointer f), (1, Value.int .i64 mark), (9, Value.bool v17)] (by kernel_rfl) (by kernel_rfl) ?_
              exact ⟨[(0, Value.pointer f), (1, Value.int .i64 mark), (9, Value.bool v17)], Sub.mk (by kernel_rfl), v17, rfl, h⟩
            · replace h := h.2 hb
              refine reg_run [] 7 [(0, [], Value.pointer f), (1, [], Value.int .i64 mark), (15, [], Value.bool false), (16, [], undef)] (by kernel_rfl) (by kernel_rfl) ?_
              refine reg_run [.skip, .plain, .plain] 10 [(0, [], Value.pointer f), (1, [], Value.int .i64 mark), (9, [], Value.bool false)] (by kernel_rfl) (by kernel_rfl) ?_
              refine reg_end [(0, Value.pointer f), (1, Value.int .i64 mark), (9, Value.bool false)] (by kernel_rfl) (by kernel_rfl) ?_
              exact ⟨[(0, Value.pointer f), (1, Value.int .i64 mark), (9, Value.bool false)], Sub.mk (by kernel_rfl), false, rfl, h⟩
          · rintro _ w4 ⟨t9, rfl, h⟩
            unfold F_feed_Feed_Can_k2 at h
            refine wpE_cond (o := (Operand.tmp 9)) (b := t9) (x := c_feed_Feed_Can_33) (y := c_feed_Feed_Can_34) (by kernel_rfl) (by kernel_rfl) (fun hb => ?_) (fun hb => ?_)
            · replace h := h.1 hb
              refine wpE_exit (id := 1) (by kernel_rfl) ?_
              change WpE _ _ c_feed_Feed_Can_61 _ _ _
              refine wpE_seq (x := c_feed_Feed_Can_62) (y := c_feed_Feed_Can_64) (by kernel_rfl) ?_
              refine wpE_region (id := 9) (ops := r_feed_Feed_Can_62) (by kernel_rfl) ?_
              refine reg_run [.plain] 1 [(5, [], Value.int .u8 2)] (by kernel_rfl) (by kernel_rfl) ?_
              refine reg_end [(5, Value.int .u8 2)] (by kernel_rfl) (by kernel_rfl) ?_
              change WpE _ _ c_feed_Feed_Can_64 _ _ _
              refine wpE_exit (id := 0) (by kernel_rfl) ?_
              exact ⟨[(5, Value.int .u8 2)], Sub.mk (by kernel_rfl), 2, rfl, h⟩
            · replace h := h.2 hb
              refine wpE_skip (by kernel_rfl) ?_
              change WpE _ _ c_feed_Feed_Can_35 _ _ _
              refine wpE_seq (x := c_feed_Feed_Can_36) (y := c_feed_Feed_Can_42) (by kernel_rfl) ?_
              refine wpE_seq_cut (x := c_feed_Feed_Can_37) (y := c_feed_Feed_Can_39) (by kernel_rfl) (fun l w => ∃ (t19 : Bool), l = [(0, Value.pointer f), (19, Value.bool t19)] ∧ F_feed_Feed_Can_k3 f R t19 w) ?_ ?_
              · refine wpE_region (id := 5) (ops := r_feed_Feed_Can_37) (by kernel_rfl) ?_
                refine reg_run [.plain] 1 [(0, [], Value.pointer f), (1, [], Value.int .i64 mark), (20, [], Value.pointer f)] (by kernel_rfl) (by kernel_rfl) ?_
                obtain ⟨hp_1534, h⟩ := h
                refine reg_conv [(0, [], Value.pointer f), (1, [], Value.int .i64 mark), (20, [], Value.pointer (some ⟨(pblk f), (poff f), none⟩))] (congrArg (fun pp => ([(0, [], Value.pointer f), (1, [], Value.int .i64 mark), (20, [], Value.pointer pp)] : GEnv)) hp_1534) ?_
                refine reg_run [.plain] 2 [(0, [], Value.pointer f), (1, [], Value.int .i64 mark), (20, [], Value.pointer (some ⟨(pblk f), (poff f), none⟩)), (21, [], Value.pointer (some ⟨(pblk f), (poff f), none⟩))] (by kernel_rfl) (by kernel_rfl) ?_
                refine reg_run [.plain] 3 [(0, [], Value.pointer f), (1, [], Value.int .i64 mark), (22, [], Value.pointer (some ⟨(pblk f), (poff f) + 5, none⟩))] (by kernel_rfl) (by kernel_rfl) ?_
                obtain ⟨v23, hc, h⟩ := h
                refine reg_load1 (t := 57) (a := (Go.Operand.tmp 22)) (b := (pblk f)) (o := ((poff f) + 5)) (ty := 57) (dst := some 23) (by kernel_rfl) (by kernel_rfl) (by kernel_rfl) hc ?_
                refine reg_run [] 4 [(0, [], Value.pointer f), (1, [], Value.int .i64 mark), (23, [], Value.pointer v23)] (by kernel_rfl) (by kernel_rfl) ?_
                refine reg_val (op := (Go.Op.binOp Go.BinOp.neq 57 (Go.Operand.tmp 23) (Go.Operand.const (Go.Value.pointer none)) 57)) (ty := 4) (dst := some 24) (Value.bool (!v23.isNone)) (by kernel_rfl) (fun ww => run_ptr_neq_R (p := v23) (by kernel_rfl) (by kernel_rfl) (by kernel_rfl) ww) ?_
                refine reg_run [.plain, .plain, .plain] 8 [(0, [], Value.pointer f), (25, [], Value.bool (!v23.isNone)), (26, [(25, true)], Value.pointer f), (27, [(25, true)], Value.int .i64 mark)] (by kernel_rfl) (by kernel_rfl) ?_
                refine reg_split 25 (!v23.isNone) (by kernel_rfl) (fun hb => ?_) (fun hb => ?_)
                · replace h := h.1 hb
                  refine reg_run [] 8 [(0, [], Value.pointer f), (25, [], Value.bool true), (26, [], Value.pointer f), (27, [], Value.int .i64 mark)] (by kernel_rfl) (by kernel_rfl) ?_
                  refine reg_run [] 8 [(0, [], Value.pointer f), (25, [], Value.bool true), (26, [], Value.pointer f), (27, [], Value.int .i64 mark)] (by kernel_rfl) (by kernel_rfl) ?_
                  refine reg_enter (op := (Go.Op.call (Go.Call.mk (Go.Callee.value (Go.Operand.func 51)) #[(Go.Operand.tmp 26), (Go.Operand.tmp 27)] #[26, 3]))) (ty := 4) (dst := some 28) 51 #[Value.pointer f, Value.int .i64 mark] (by kernel_rfl) (fun ww => by kernel_rfl) (Calls.mono h ?_)
                  rintro _ w8 ⟨v28, rfl, h⟩
                  refine ⟨_, rfl, ?_⟩
                  refine reg_run [.plain, .plain] 11 [(0, [], Value.pointer f), (19, [], Value.bool v28)] (by kernel_rfl) (by kernel_rfl) ?_
                  refine reg_end [(0, Value.pointer f), (19, Value.bool v28)] (by kernel_rfl) (by kernel_rfl) ?_
                  exact ⟨[(0, Value.pointer f), (19, Value.bool v28)], Sub.mk (by kernel_rfl), v28, rfl, h⟩
                · replace h := h.2 hb
                  refine reg_run [] 8 [(0, [], Value.pointer f), (25, [], Value.bool false), (26, [], undef), (27, [], undef)] (by kernel_rfl) (by kernel_rfl) ?_
                  refine reg_run [.skip, .plain, .plain] 11 [(0, [], Value.pointer f), (19, [], Value.bool false)] (by kernel_rfl) (by kernel_rfl) ?_
                  refine reg_end [(0, Value.pointer f), (19, Value.bool false)] (by kernel_rfl) (by kernel_rfl) ?_
                  exact ⟨[(0, Value.pointer f), (19, Value.bool false)], Sub.mk (by kernel_rfl), false, rfl, h⟩
              · rintro _ w5 ⟨t19, rfl, h⟩
                unfold F_feed_Feed_Can_k3 at h
                refine wpE_cond (o := (Operand.tmp 19)) (b := t19) (x := c_feed_Feed_Can_40) (y := c_feed_Feed_Can_41) (by kernel_rfl) (by kernel_rfl) (fun hb => ?_) (fun hb => ?_)
                · replace h := h.1 hb
                  refine wpE_exit (id := 2) (by kernel_rfl) ?_
                  change WpE _ _ c_feed_Feed_Can_65 _ _ _
                  refine wpE_seq (x := c_feed_Feed_Can_66) (y := c_feed_Feed_Can_68) (by kernel_rfl) ?_
                  refine wpE_region (id := 10) (ops := r_feed_Feed_Can_66) (by kernel_rfl) ?_
                  refine reg_run [.plain] 1 [(5, [], Value.int .u8 3)] (by kernel_rfl) (by kernel_rfl) ?_
                  refine reg_end [(5, Value.int .u8 3)] (by kernel_rfl) (by kernel_rfl) ?_
                  change WpE _ _ c_feed_Feed_Can_68 _ _ _
                  refine wpE_exit (id := 0) (by kernel_rfl) ?_
                  exact ⟨[(5, Value.int .u8 3)], Sub.mk (by kernel_rfl), 3, rfl, h⟩
                · replace h := h.2 hb
                  refine wpE_skip (by kernel_rfl) ?_
                  change WpE _ _ c_feed_Feed_Can_42 _ _ _
                  refine wpE_seq (x := c_feed_Feed_Can_43) (y := c_feed_Feed_Can_54) (by kernel_rfl) ?_
                  refine wpE_seq_cut (x := c_feed_Feed_Can_44) (y := c_feed_Feed_Can_51) (by kernel_rfl) (fun l w => ∃ (t30 : Bool), l = [(0, Value.pointer f), (30, Value.bool t30)] ∧ F_feed_Feed_Can_k4 f R t30 w) ?_ ?_
                  · refine wpE_seq (x := c_feed_Feed_Can_45) (y := c_feed_Feed_Can_47) (by kernel_rfl) ?_
                    refine wpE_region (id := 6) (ops := r_feed_Feed_Can_45) (by kernel_rfl) ?_
                    refine reg_run [.plain] 1 [(0, [], Value.pointer f), (31, [], Value.pointer f)] (by kernel_rfl) (by kernel_rfl) ?_
                    obtain ⟨hp_1532, h⟩ := h
                    refine reg_conv [(0, [], Value.pointer f), (31, [], Value.pointer (some ⟨(pblk f), (poff f), none⟩))] (congrArg (fun pp => ([(0, [], Value.pointer f), (31, [], Value.pointer pp)] : GEnv)) hp_1532) ?_
                    refine reg_run [.plain] 2 [(0, [], Value.pointer f), (31, [], Value.pointer (some ⟨(pblk f), (poff f), none⟩)), (32, [], Value.pointer (some ⟨(pblk f), (poff f), none⟩))] (by kernel_rfl) (by kernel_rfl) ?_
                    refine reg_run [.plain] 3 [(0, [], Value.pointer f), (33, [], Value.pointer (some ⟨(pblk f), (poff f) + 5, none⟩))] (by kernel_rfl) (by kernel_rfl) ?_
                    obtain ⟨v34, hc, h⟩ := h
                    refine reg_load1 (t := 57) (a := (Go.Operand.tmp 33)) (b := (pblk f)) (o := ((poff f) + 5)) (ty := 57) (dst := some 34) (by kernel_rfl) (by kernel_rfl) (by kernel_rfl) hc ?_
                    refine reg_run [] 4 [(0, [], Value.pointer f), (34, [], Value.pointer v34)] (by kernel_rfl) (by kernel_rfl) ?_
                    refine reg_val (op := (Go.Op.binOp Go.BinOp.neq 57 (Go.Operand.tmp 34) (Go.Operand.const (Go.Value.pointer none)) 57)) (ty := 4) (dst := some 35) (Value.bool (!v34.isNone)) (by kernel_rfl) (fun ww => run_ptr_neq_R (p := v34) (by kernel_rfl) (by kernel_rfl) (by kernel_rfl) ww) ?_
                    refine reg_run [.plain] 6 [(0, [], Value.pointer f), (30, [], Value.bool (!v34.isNone))] (by kernel_rfl) (by kernel_rfl) ?_
                    refine reg_end [(0, Value.pointer f), (30, Value.bool (!v34.isNone))] (by kernel_rfl) (by kernel_rfl) ?_
                    change WpE _ _ c_feed_Feed_Can_47 _ _ _
                    refine wpE_cond (o := (Operand.tmp 30)) (b := (!v34.isNone)) (x := c_feed_Feed_Can_48) (y := c_feed_Feed_Can_49) (by kernel_rfl) (by kernel_rfl) (fun hb => ?_) (fun hb => ?_)
                    · replace h := h.1 hb
                      refine wpE_skip (by kernel_rfl) ?_
                      exact ⟨[(0, Value.pointer f), (30, Value.bool (!v34.isNone))], Sub.mk (by kernel_rfl), (!v34.isNone), rfl, h⟩
                    · replace h := h.2 hb
                      refine wpE_region (id := 7) (ops := r_feed_Feed_Can_49) (by kernel_rfl) ?_
                      refine reg_run [.plain] 1 [(0, [], Value.pointer f), (30, [], Value.bool (!v34.isNone)), (36, [], Value.pointer f)] (by kernel_rfl) (by kernel_rfl) ?_
                      obtain ⟨hp_1533, h⟩ := h
                      refine reg_conv [(0, [], Value.pointer f), (30, [], Value.bool (!v34.isNone)), (36, [], Value.pointer (some ⟨(pblk f), (poff f), none⟩))] (congrArg (fun pp => ([(0, [], Value.pointer f), (30, [], Value.bool (!v34.isNone)), (36, [], Value.pointer pp)] : GEnv)) hp_1533) ?_
                      refine reg_run [.plain] 2 [(0, [], Value.pointer f), (30, [], Value.bool (!v34.isNone)), (36, [], Value.pointer (some ⟨(pblk f), (poff f), none⟩)), (37, [], Value.pointer (some ⟨(pblk f), (poff f), none⟩))] (by kernel_rfl) (by kernel_rfl) ?_
                      refine reg_run [.plain] 3 [(0, [], Value.pointer f), (30, [], Value.bool (!v34.isNone)), (38, [], Value.pointer (some ⟨(pblk f), (poff f) + 6, none⟩))] (by kernel_rfl) (by kernel_rfl) ?_
                      obtain ⟨v39, hc, h⟩ := h
                      refine reg_load1 (t := 4) (a := (Go.Operand.tmp 38)) (b := (pblk f)) (o := ((poff f) + 6)) (ty := 4) (dst := some 39) (by kernel_rfl) (by kernel_rfl) (by kernel_rfl) hc ?_
                      refine reg_run [.plain] 5 [(0, [], Value.pointer f), (30, [], Value.bool v39)] (by kernel_rfl) (by kernel_rfl) ?_
                      refine reg_end [(0, Value.pointer f), (30, Value.bool v39)] (by kernel_rfl) (by kernel_rfl) ?_
                      exact ⟨[(0, Value.pointer f), (30, Value.bool v39)], Sub.mk (by kernel_rfl), v39, rfl, h⟩
                  · rintro _ w6 ⟨t30, rfl, h⟩
                    unfold F_feed_Feed_Can_k4 at h
                    refine wpE_cond (o := (Operand.tmp 30)) (b := t30) (x := c_feed_Feed_Can_52) (y := c_feed_Feed_Can_53) (by kernel_rfl) (by kernel_rfl) (fun hb => ?_) (fun hb => ?_)
                    · replace h := h.1 hb
                      refine wpE_exit (id := 3) (by kernel_rfl) ?_
                      exact ⟨[], Sub.mk (by kernel_rfl), rfl, h⟩
                    · replace h := h.2 hb
                      refine wpE_skip (by kernel_rfl) ?_
                      change WpE _ _ c_feed_Feed_Can_54 _ _ _
                      refine wpE_seq (x := c_feed_Feed_Can_55) (y := c_feed_Feed_Can_57) (by kernel_rfl) ?_
                      refine wpE_drawregion (id := 8) (ops := r_feed_Feed_Can_55) (by kernel_rfl) (by kernel_rfl) (by kernel_rfl) ?_
                      refine qreg_run [.plain] 1 [(0, [], Value.pointer f), (41, [], Value.pointer f)] (by kernel_rfl) (by kernel_rfl) ?_
                      obtain ⟨hp_1529, h⟩ := h
                      refine qreg_conv [(0, [], Value.pointer f), (41, [], Value.pointer (some ⟨(pblk f), (poff f), none⟩))] (congrArg (fun pp => ([(0, [], Value.pointer f), (41, [], Value.pointer pp)] : GEnv)) hp_1529) ?_
                      refine qreg_run [.plain] 2 [(0, [], Value.pointer f), (41, [], Value.pointer (some ⟨(pblk f), (poff f), none⟩)), (42, [], Value.pointer (some ⟨(pblk f), (poff f), none⟩))] (by kernel_rfl) (by kernel_rfl) ?_
                      refine qreg_run [.plain] 3 [(0, [], Value.pointer f), (43, [], Value.pointer (some ⟨(pblk f), (poff f) + 1, none⟩))] (by kernel_rfl) (by kernel_rfl) ?_
                      obtain ⟨v44, hc, h⟩ := h
                      refine qreg_load1 (t := 3) (a := (Go.Operand.tmp 43)) (b := (pblk f)) (o := ((poff f) + 1)) (ty := 3) (dst := some 44) (by kernel_rfl) (by kernel_rfl) (by kernel_rfl) hc ?_
                      refine qreg_run [.plain] 5 [(44, [], Value.int .i64 v44), (45, [], Value.pointer f)] (by kernel_rfl) (by kernel_rfl) ?_
                      obtain ⟨hp_1530, h⟩ := h
                      refine qreg_conv [(44, [], Value.int .i64 v44), (45, [], Value.pointer (some ⟨(pblk f), (poff f), none⟩))] (congrArg (fun pp => ([(44, [], Value.int .i64 v44), (45, [], Value.pointer pp)] : GEnv)) hp_1530) ?_
                      refine qreg_run [.plain] 6 [(44, [], Value.int .i64 v44), (45, [], Value.pointer (some ⟨(pblk f), (poff f), none⟩)), (46, [], Value.pointer (some ⟨(pblk f), (poff f), none⟩))] (by kernel_rfl) (by kernel_rfl) ?_
                      refine qreg_run [.plain] 7 [(44, [], Value.int .i64 v44), (47, [], Value.pointer (some ⟨(pblk f), (poff f) + 2, none⟩))] (by kernel_rfl) (by kernel_rfl) ?_
                      obtain ⟨v48, hc, h⟩ := h
                      refine qreg_load1 (t := 3) (a := (Go.Operand.tmp 47)) (b := (pblk f)) (o := ((poff f) + 2)) (ty := 3) (dst := some 48) (by kernel_rfl) (by kernel_rfl) (by kernel_rfl) hc ?_
                      refine qreg_run [.plain, .plain] 10 [(40, [], Value.bool (decide (v44 ≥ v48)))] (by kernel_rfl) (by kernel_rfl) ?_
                      refine qreg_end [(40, Value.bool (decide (v44 ≥ v48)))] (by kernel_rfl) (by kernel_rfl) (fun w7 hw => ?_)
                      replace h := h w7 hw
                      clear hw
                      change WpE _ _ c_feed_Feed_Can_57 _ _ _
                      refine wpE_cond (o := (Operand.tmp 40)) (b := (decide (v44 ≥ v48))) (x := c_feed_Feed_Can_58) (y := c_feed_Feed_Can_59) (by kernel_rfl) (by kernel_rfl) (fun hb => ?_) (fun hb => ?_)
                      · replace h := h.1 hb
                        refine wpE_exit (id := 4) (by kernel_rfl) ?_
                        exact ⟨[], Sub.mk (by kernel_rfl), rfl, h⟩
                      · replace h := h.2 hb
                        refine wpE_skip (by kernel_rfl) ?_
                        change WpE _ _ c_feed_Feed_Can_60 _ _ _
                        refine wpE_exit (id := 5) (by kernel_rfl) ?_
                        change WpE _ _ c_feed_Feed_Can_75 _ _ _
                        refine wpE_seq (x := c_feed_Feed_Can_76) (y := c_feed_Feed_Can_78) (by kernel_rfl) ?_
                        refine wpE_region (id := 12) (ops := r_feed_Feed_Can_76) (by kernel_rfl) ?_
                        refine reg_run [.plain] 1 [(5, [], Value.int .u8 1)] (by kernel_rfl) (by kernel_rfl) ?_
                        refine reg_end [(5, Value.int .u8 1)] (by kernel_rfl) (by kernel_rfl) ?_
                        change WpE _ _ c_feed_Feed_Can_78 _ _ _
                        refine wpE_exit (id := 0) (by kernel_rfl) ?_
                        exact ⟨[(5, Value.int .u8 1)], Sub.mk (by kernel_rfl), 1, rfl, h⟩
        · rintro _ w3 ⟨rfl, h⟩
          unfold F_feed_Feed_Can_k1 at h
          refine wpE_seq (x := c_feed_Feed_Can_70) (y := c_feed_Feed_Can_74) (by kernel_rfl) ?_
          refine wpE_seq (x := c_feed_Feed_Can_71) (y := c_feed_Feed_Can_73) (by kernel_rfl) ?_
          refine wpE_region (id := 11) (ops := r_feed_Feed_Can_71) (by kernel_rfl) ?_
          refine reg_run [.plain] 1 [(4, [], Value.int .u8 0)] (by kernel_rfl) (by kernel_rfl) ?_
          refine reg_end [(4, Value.int .u8 0)] (by kernel_rfl) (by kernel_rfl) ?_
          change WpE _ _ c_feed_Feed_Can_73 _ _ _
          refine wpE_ret (by kernel_rfl) ?_
          repeat (first | refine seqQ_ret ?_ | refine blockQ_ret ?_ | refine loopQ_ret ?_ | refine cutQ_ret ?_)
          exact retS (rs := [(Go.ResultVar.tmp 4)]) (v := Value.int .u8 0) (by kernel_rfl) (⟨by kernel_rfl, trivial⟩) ⟨0, rfl, h⟩
      · rintro _ w2 ⟨k, rfl, h⟩
        unfold F_feed_Feed_Can_k0 at h
        refine wpE_seq (x := c_feed_Feed_Can_80) (y := c_feed_Feed_Can_82) (by kernel_rfl) ?_
        refine wpE_region (id := 13) (ops := r_feed_Feed_Can_80) (by kernel_rfl) ?_
        refine reg_run [.plain, .plain] 2 [(4, [], Value.int .u8 k)] (by kernel_rfl) (by kernel_rfl) ?_
        refine reg_end [(4, Value.int .u8 k)] (by kernel_rfl) (by kernel_rfl) ?_
        change WpE _ _ c_feed_Feed_Can_82 _ _ _
        refine wpE_ret (by kernel_rfl) ?_
        repeat (first | refine seqQ_ret ?_ | refine blockQ_ret ?_ | refine loopQ_ret ?_ | refine cutQ_ret ?_)
        exact retS (rs := [(Go.ResultVar.tmp 4)]) (v := Value.int .u8 k) (by kernel_rfl) (⟨by kernel_rfl, trivial⟩) ⟨k, rfl, h⟩
  · rintro e w' ⟨v, rfl, r0, rfl, h⟩; exact ⟨r0, rfl, h⟩

/-! ### (*towpath/feed.Feed).Dispatch (function 19) -/
noncomputable def c_feed_Feed_Dispatch_0 : Code := (Try.f19.body).getD Code.skip
noncomputable def c_feed_Feed_Dispatch_1 : Code := Code.l c_feed_Feed_Dispatch_0
noncomputable def r_feed_Feed_Dispatch_1 : Array Oper := Code.ops c_feed_Feed_Dispatch_1
noncomputable def c_feed_Feed_Dispatch_3 : Code := Code.r c_feed_Feed_Dispatch_0
noncomputable def c_feed_Feed_Dispatch_4 : Code := Code.l c_feed_Feed_Dispatch_3
noncomputable def c_feed_Feed_Dispatch_5 : Code := Code.l c_feed_Feed_Dispatch_4
noncomputable def c_feed_Feed_Dispatch_6 : Code := Code.l c_feed_Feed_Dispatch_5
noncomputable def r_feed_Feed_Dispatch_6 : Array Oper := Code.ops c_feed_Feed_Dispatch_6
noncomputable def c_feed_Feed_Dispatch_8 : Code := Code.r c_feed_Feed_Dispatch_5
noncomputable def c_feed_Feed_Dispatch_9 : Code := Code.l c_feed_Feed_Dispatch_8
noncomputable def c_feed_Feed_Dispatch_10 : Code := Code.l c_feed_Feed_Dispatch_9
noncomputable def r_feed_Feed_Dispatch_10 : Array Oper := Code.ops c_feed_Feed_Dispatch_10
noncomputable def c_feed_Feed_Dispatch_12 : Code := Code.r c_feed_Feed_Dispatch_9
noncomputable def c_feed_Feed_Dispatch_13 : Code := Code.r c_feed_Feed_Dispatch_8
noncomputable def c_feed_Feed_Dispatch_14 : Code := Code.l c_feed_Feed_Dispatch_13
noncomputable def r_feed_Feed_Dispatch_14 : Array Oper := Code.ops c_feed_Feed_Dispatch_14
noncomputable def c_feed_Feed_Dispatch_16 : Code := Code.r c_feed_Feed_Dispatch_13
noncomputable def c_feed_Feed_Dispatch_17 : Code := Code.l c_feed_Feed_Dispatch_16
noncomputable def c_feed_Feed_Dispatch_18 : Code := Code.l c_feed_Feed_Dispatch_17
noncomputable def r_feed_Feed_Dispatch_18 : Array Oper := Code.ops c_feed_Feed_Dispatch_18
noncomputable def c_feed_Feed_Dispatch_20 : Code := Code.r c_feed_Feed_Dispatch_17
noncomputable def c_feed_Feed_Dispatch_21 : Code := Code.r c_feed_Feed_Dispatch_16
noncomputable def c_feed_Feed_Dispatch_22 : Code := Code.l c_feed_Feed_Dispatch_21
noncomputable def r_feed_Feed_Dispatch_22 : Array Oper := Code.ops c_feed_Feed_Dispatch_22
noncomputable def c_feed_Feed_Dispatch_24 : Code := Code.r c_feed_Feed_Dispatch_21
noncomputable def c_feed_Feed_Dispatch_25 : Code := Code.l c_feed_Feed_Dispatch_24
noncomputable def c_feed_Feed_Dispatch_26 : Code := Code.l c_feed_Feed_Dispatch_25
noncomputable def r_feed_Feed_Dispatch_26 : Array Oper := Code.ops c_feed_Feed_Dispatch_26
noncomputable def c_feed_Feed_Dispatch_28 : Code := Code.r c_feed_Feed_Dispatch_25
noncomputable def c_feed_Feed_Dispatch_29 : Code := Code.r c_feed_Feed_Dispatch_24
noncomputable def c_feed_Feed_Dispatch_30 : Code := Code.r c_feed_Feed_Dispatch_3
noncomputable def c_feed_Feed_Dispatch_31 : Code := Code.l c_feed_Feed_Dispatch_30
noncomputable def r_feed_Feed_Dispatch_31 : Array Oper := Code.ops c_feed_Feed_Dispatch_31
noncomputable def c_feed_Feed_Dispatch_33 : Code := Code.r c_feed_Feed_Dispatch_30
noncomputable def c_feed_Feed_Dispatch_34 : Code := Code.l c_feed_Feed_Dispatch_33
noncomputable def r_feed_Feed_Dispatch_34 : Array Oper := Code.ops c_feed_Feed_Dispatch_34
noncomputable def c_feed_Feed_Dispatch_36 : Code := Code.r c_feed_Feed_Dispatch_33
noncomputable def c_feed_Feed_Dispatch_37 : Code := Code.l c_feed_Feed_Dispatch_36
noncomputable def r_feed_Feed_Dispatch_37 : Array Oper := Code.ops c_feed_Feed_Dispatch_37
noncomputable def c_feed_Feed_Dispatch_39 : Code := Code.r c_feed_Feed_Dispatch_36

set_option maxRecDepth 100000 in
set_option maxHeartbeats 4000000 in
theorem S_feed_Feed_Dispatch {f : Option Addr} {mark : Int} {w : World} {R : T_api_Txn → Int → World → Prop} (h : F_feed_Feed_Dispatch f mark R w) : C_feed_Feed_Dispatch f mark w R := by
  unfold F_feed_Feed_Dispatch at h
  unfold C_feed_Feed_Dispatch
  refine Calls.mono (calls_of_wpE (args := [Value.pointer f, Value.int .i64 mark]) (R := fun v w' => ∃ (r0 : T_api_Txn) (r1 : Int), v = Value.tuple #[Value.agg #[Value.int .i64 r0.Number, Value.slice r0.Writes.ptr r0.Writes.len r0.Writes.cap], Value.int .i64 r1] ∧ R r0 r1 w') Try.func19 (c := c_feed_Feed_Dispatch_0) (by kernel_rfl) 39 (by kernel_rfl) (by kernel_rfl) [(0, Value.pointer f), (1, Value.int .i64 mark)] (by kernel_rfl) ?_) ?_
  · refine wpE_seq (x := c_feed_Feed_Dispatch_1) (y := c_feed_Feed_Dispatch_3) (by kernel_rfl) ?_
    refine wpE_region (id := 0) (ops := r_feed_Feed_Dispatch_1) (by kernel_rfl) ?_
    refine reg_run [] 0 [(0, [], Value.pointer f), (1, [], Value.int .i64 mark)] (by kernel_rfl) (by kernel_rfl) ?_
    refine reg_new (op := (Go.Op.alloc 42)) (ty := 0) (dst := some 4) (fun bb => Value.pointer (some ⟨bb, 0, none⟩)) (Obj.cells ([Value.int .i64 0, Value.slice none 0 0]).toArray ty_api_Txn (0, 0)) (by kernel_rfl) (by kernel_rfl) (fun b_ w1 hb hw => ?_)
    replace h := h b_ w1 hb hw
    clear hb hw
    refine reg_run [.plain] 2 [(0, [], Value.pointer f), (1, [], Value.int .i64 mark), (4, [], Value.pointer (some ⟨b_, 0, none⟩))] (by kernel_rfl) (by kernel_rfl) ?_
    refine reg_end [(0, Value.pointer f), (1, Value.int .i64 mark), (4, Value.pointer (some ⟨b_, 0, none⟩))] (by kernel_rfl) (by kernel_rfl) ?_
    change WpE _ _ c_feed_Feed_Dispatch_3 _ _ _
    refine wpE_seq (x := c_feed_Feed_Dispatch_4) (y := c_feed_Feed_Dispatch_30) (by kernel_rfl) ?_
    refine wpE_block (id := 0) (x := c_feed_Feed_Dispatch_5) (by kernel_rfl) ?_
    refine wpE_seq (x := c_feed_Feed_Dispatch_6) (y := c_feed_Feed_Dispatch_8) (by kernel_rfl) ?_
    refine wpE_region (id := 1) (ops := r_feed_Feed_Dispatch_6) (by kernel_rfl) ?_
    refine reg_run [.plain] 1 [(0, [], Value.pointer f), (1, [], Value.int .i64 mark), (4, [], Value.pointer (some ⟨b_, 0, none⟩)), (8, [], Value.pointer f)] (by kernel_rfl) (by kernel_rfl) ?_
    refine reg_enter (op := (Go.Op.call (Go.Call.mk (Go.Callee.value (Go.Operand.func 46)) #[(Go.Operand.tmp 8)] #[26]))) (ty := 4) (dst := some 9) 46 #[Value.pointer f] (by kernel_rfl) (fun ww => by kernel_rfl) (Calls.mono h ?_)
    rintro _ w2 ⟨v9, rfl, h⟩
    refine ⟨_, rfl, ?_⟩
    refine reg_run [.plain, .plain] 4 [(0, [], Value.pointer f), (1, [], Value.int .i64 mark), (4, [], Value.pointer (some ⟨b_, 0, none⟩)), (7, [], Value.bool (!v9))] (by kernel_rfl) (by kernel_rfl) ?_
    refine reg_end [(0, Value.pointer f), (1, Value.int .i64 mark), (4, Value.pointer (some ⟨b_, 0, none⟩)), (7, Value.bool (!v9))] (by kernel_rfl) (by kernel_rfl) ?_
    change WpE _ _ c_feed_Feed_Dispatch_8 _ _ _
    refine wpE_cond (o := (Operand.tmp 7)) (b := (!v9)) (x := c_feed_Feed_Dispatch_9) (y := c_feed_Feed_Dispatch_13) (by kernel_rfl) (by kernel_rfl) (fun hb => ?_) (fun hb => ?_)
    · replace h := h.1 hb
      refine wpE_seq (x := c_feed_Feed_Dispatch_10) (y := c_feed_Feed_Dispatch_12) (by kernel_rfl) ?_
      refine wpE_region (id := 2) (ops := r_feed_Feed_Dispatch_10) (by kernel_rfl) ?_
      refine reg_run [.plain] 1 [(4, [], Value.pointer (some ⟨b_, 0, none⟩)), (11, [], Value.agg #[Value.int .i64 0, Value.slice none 0 0])] (by kernel_rfl) (by kernel_rfl) ?_
      obtain ⟨hc, h⟩ := h
      refine reg_store (t := 42) (a := (Go.Operand.tmp 4)) (x := (Go.Operand.tmp 11)) (b := b_) (o := 0) (ty := 0) (dst := none) [Value.int .i64 0, Value.slice none 0 0] (by kernel_rfl) (by kernel_rfl) (by kernel_rfl) (k := 2) (by kernel_rfl) (by kernel_rfl) (by kernel_rfl) hc (fun w3 hw => ?_)
      replace h := h w3 hw
      clear hw
      refine reg_run [.plain] 3 [(4, [], Value.pointer (some ⟨b_, 0, none⟩)), (5, [], Value.int .i64 2)] (by kernel_rfl) (by kernel_rfl) ?_
      refine reg_end [(4, Value.pointer (some ⟨b_, 0, none⟩)), (5, Value.int .i64 2)] (by kernel_rfl) (by kernel_rfl) ?_
      change WpE _ _ c_feed_Feed_Dispatch_12 _ _ _
      refine wpE_ret (by kernel_rfl) ?_
      obtain ⟨res, hc_res, h⟩ := h
      repeat (first | refine seqQ_ret ?_ | refine blockQ_ret ?_ | refine loopQ_ret ?_ | refine cutQ_ret ?_)
      exact retT (rs := [(Go.ResultVar.cell 4 42), (Go.ResultVar.tmp 5)]) (vs := [Value.agg #[Value.int .i64 res.Number, Value.slice res.Writes.ptr res.Writes.len res.Writes.cap], Value.int .i64 2]) (by kernel_rfl) (⟨b_, 0, [Value.int .i64 res.Number, Value.slice res.Writes.ptr res.Writes.len res.Writes.cap], by kernel_rfl, hc_res, (sizeP_of (k := 2) (by kernel_rfl) (by kernel_rfl)), .inl ⟨by kernel_rfl, rfl⟩, ⟨by kernel_rfl, trivial⟩⟩) (by kernel_rfl) ⟨res, 2, rfl, h⟩
    · replace h := h.2 hb
      refine wpE_seq (x := c_feed_Feed_Dispatch_14) (y := c_feed_Feed_Dispatch_16) (by kernel_rfl) ?_
      refine wpE_region (id := 3) (ops := r_feed_Feed_Dispatch_14) (by kernel_rfl) ?_
      refine reg_run [.plain] 1 [(0, [], Value.pointer f), (1, [], Value.int .i64 mark), (4, [], Value.pointer (some ⟨b_, 0, none⟩)), (13, [], Value.pointer f)] (by kernel_rfl) (by kernel_rfl) ?_
      obtain ⟨hp_3, h⟩ := h
      refine reg_conv [(0, [], Value.pointer f), (1, [], Value.int .i64 mark), (4, [], Value.pointer (some ⟨b_, 0, none⟩)), (13, [], Value.pointer (some ⟨(pblk f), (poff f), none⟩))] (congrArg (fun pp => ([(0, [], Value.pointer f), (1, [], Value.int .i64 mark), (4, [], Value.pointer (some ⟨b_, 0, none⟩)), (13, [], Value.pointer pp)] : GEnv)) hp_3) ?_
      refine reg_run [.plain] 2 [(0, [], Value.pointer f), (1, [], Value.int .i64 mark), (4, [], Value.pointer (some ⟨b_, 0, none⟩)), (13, [], Value.pointer (some ⟨(pblk f), (poff f), none⟩)), (14, [], Value.pointer (some ⟨(pblk f), (poff f), none⟩))] (by kernel_rfl) (by kernel_rfl) ?_
      refine reg_run [.plain] 3 [(0, [], Value.pointer f), (1, [], Value.int .i64 mark), (4, [], Value.pointer (some ⟨b_, 0, none⟩)), (15, [], Value.pointer (some ⟨(pblk f), (poff f) + 5, none⟩))] (by kernel_rfl) (by kernel_rfl) ?_
      obtain ⟨v16, hc, h⟩ := h
      refine reg_load1 (t := 57) (a := (Go.Operand.tmp 15)) (b := (pblk f)) (o := ((poff f) + 5)) (ty := 57) (dst := some 16) (by kernel_rfl) (by kernel_rfl) (by kernel_rfl) hc ?_
      refine reg_run [] 4 [(0, [], Value.pointer f), (1, [], Value.int .i64 mark), (4, [], Value.pointer (some ⟨b_, 0, none⟩)), (16, [], Value.pointer v16)] (by kernel_rfl) (by kernel_rfl) ?_
      refine reg_val (op := (Go.Op.binOp Go.BinOp.eql 57 (Go.Operand.tmp 16) (Go.Operand.const (Go.Value.pointer none)) 57)) (ty := 4) (dst := some 17) (Value.bool v16.isNone) (by kernel_rfl) (fun ww => run_ptr_eql_R (p := v16) (by kernel_rfl) (by kernel_rfl) (by kernel_rfl) ww) ?_
      refine reg_run [.plain] 6 [(0, [], Value.pointer f), (1, [], Value.int .i64 mark), (4, [], Value.pointer (some ⟨b_, 0, none⟩)), (12, [], Value.bool v16.isNone)] (by kernel_rfl) (by kernel_rfl) ?_
      refine reg_end [(0, Value.pointer f), (1, Value.int .i64 mark), (4, Value.pointer (some ⟨b_, 0, none⟩)), (12, Value.bool v16.isNone)] (by kernel_rfl) (by kernel_rfl) ?_
      change WpE _ _ c_feed_Feed_Dispatch_16 _ _ _
      refine wpE_cond (o := (Operand.tmp 12)) (b := v16.isNone) (x := c_feed_Feed_Dispatch_17) (y := c_feed_Feed_Dispatch_21) (by kernel_rfl) (by kernel_rfl) (fun hb => ?_) (fun hb => ?_)
      · replace h := h.1 hb
        refine wpE_seq (x := c_feed_Feed_Dispatch_18) (y := c_feed_Feed_Dispatch_20) (by kernel_rfl) ?_
        refine wpE_region (id := 4) (ops := r_feed_Feed_Dispatch_18) (by kernel_rfl) ?_
        refine reg_run [.plain] 1 [(4, [], Value.pointer (some ⟨b_, 0, none⟩)), (18, [], Value.agg #[Value.int .i64 0, Value.slice none 0 0])] (by kernel_rfl) (by kernel_rfl) ?_
        obtain ⟨hc, h⟩ := h
        refine reg_store (t := 42) (a := (Go.Operand.tmp 4)) (x := (Go.Operand.tmp 18)) (b := b_) (o := 0) (ty := 0) (dst := none) [Value.int .i64 0, Value.slice none 0 0] (by kernel_rfl) (by kernel_rfl) (by kernel_rfl) (k := 2) (by kernel_rfl) (by kernel_rfl) (by kernel_rfl) hc (fun w4 hw => ?_)
        replace h := h w4 hw
        clear hw
        refine reg_run [.plain] 3 [(4, [], Value.pointer (some ⟨b_, 0, none⟩)), (5, [], Value.int .i64 9)] (by kernel_rfl) (by kernel_rfl) ?_
        refine reg_end [(4, Value.pointer (some ⟨b_, 0, none⟩)), (5, Value.int .i64 9)] (by kernel_rfl) (by kernel_rfl) ?_
        change WpE _ _ c_feed_Feed_Dispatch_20 _ _ _
        refine wpE_ret (by kernel_rfl) ?_
        obtain ⟨res1, hc_res1, h⟩ := h
        repeat (first | refine seqQ_ret ?_ | refine blockQ_ret ?_ | refine loopQ_ret ?_ | refine cutQ_ret ?_)
        exact retT (rs := [(Go.ResultVar.cell 4 42), (Go.ResultVar.tmp 5)]) (vs := [Value.agg #[Value.int .i64 res1.Number, Value.slice res1.Writes.ptr res1.Writes.len res1.Writes.cap], Value.int .i64 9]) (by kernel_rfl) (⟨b_, 0, [Value.int .i64 res1.Number, Value.slice res1.Writes.ptr res1.Writes.len res1.Writes.cap], by kernel_rfl, hc_res1, (sizeP_of (k := 2) (by kernel_rfl) (by kernel_rfl)), .inl ⟨by kernel_rfl, rfl⟩, ⟨by kernel_rfl, trivial⟩⟩) (by kernel_rfl) ⟨res1, 9, rfl, h⟩
      · replace h := h.2 hb
        refine wpE_seq_cut (x := c_feed_Feed_Dispatch_22) (y := c_feed_Feed_Dispatch_24) (by kernel_rfl) (fun l w => ∃ (t19 : Bool), l = [(0, Value.pointer f), (4, Value.pointer (some ⟨b_, 0, none⟩)), (19, Value.bool t19)] ∧ F_feed_Feed_Dispatch_k0 f R b_ t19 w) ?_ ?_
        · refine wpE_region (id := 5) (ops := r_feed_Feed_Dispatch_22) (by kernel_rfl) ?_
          refine reg_run [.plain] 1 [(0, [], Value.pointer f), (1, [], Value.int .i64 mark), (4, [], Value.pointer (some ⟨b_, 0, none⟩)), (20, [], Value.pointer f)] (by kernel_rfl) (by kernel_rfl) ?_
          refine reg_enter (op := (Go.Op.call (Go.Call.mk (Go.Callee.value (Go.Operand.func 50)) #[(Go.Operand.tmp 20)] #[26]))) (ty := 4) (dst := some 21) 50 #[Value.pointer f] (by kernel_rfl) (fun ww => by kernel_rfl) (Calls.mono h ?_)
          rintro _ w11 ⟨v21, rfl, h⟩
          refine ⟨_, rfl, ?_⟩
          refine reg_run [.plain, .plain, .plain] 5 [(0, [], Value.pointer f), (4, [], Value.pointer (some ⟨b_, 0, none⟩)), (22, [], Value.bool v21), (23, [(22, false)], Value.pointer f), (24, [(22, false)], Value.int .i64 mark)] (by kernel_rfl) (by kernel_rfl) ?_
          refine reg_split 22 v21 (by kernel_rfl) (fun hb => ?_) (fun hb => ?_)
          · replace h := h.1 hb
            refine reg_run [] 5 [(0, [], Value.pointer f), (4, [], Value.pointer (some ⟨b_, 0, none⟩)), (22, [], Value.bool true), (23, [], undef), (24, [], undef)] (by kernel_rfl) (by kernel_rfl) ?_
            refine reg_run [.skip, .skip, .plain, .plain] 9 [(0, [], Value.pointer f), (4, [], Value.pointer (some ⟨b_, 0, none⟩)), (19, [], Value.bool true)] (by kernel_rfl) (by kernel_rfl) ?_
            refine reg_end [(0, Value.pointer f), (4, Value.pointer (some ⟨b_, 0, none⟩)), (19, Value.bool true)] (by kernel_rfl) (by kernel_rfl) ?_
            exact ⟨[(0, Value.pointer f), (4, Value.pointer (some ⟨b_, 0, none⟩)), (19, Value.bool true)], Sub.mk (by kernel_rfl), true, rfl, h⟩
          · replace h := h.2 hb
            refine reg_run [] 5 [(0, [], Value.pointer f), (4, [], Value.pointer (some ⟨b_, 0, none⟩)), (22, [], Value.bool false), (23, [], Value.pointer f), (24, [], Value.int .i64 mark)] (by kernel_rfl) (by kernel_rfl) ?_
            refine reg_run [] 5 [(0, [], Value.pointer f), (4, [], Value.pointer (some ⟨b_, 0, none⟩)), (22, [], Value.bool false), (23, [], Value.pointer f), (24, [], Value.int .i64 mark)] (by kernel_rfl) (by kernel_rfl) ?_
            refine reg_enter (op := (Go.Op.call (Go.Call.mk (Go.Callee.value (Go.Operand.func 51)) #[(Go.Operand.tmp 23), (Go.Operand.tmp 24)] #[26, 3]))) (ty := 4) (dst := some 25) 51 #[Value.pointer f, Value.int .i64 mark] (by kernel_rfl) (fun ww => by kernel_rfl) (Calls.mono h ?_)
            rintro _ w12 ⟨v25, rfl, h⟩
            refine ⟨_, rfl, ?_⟩
            refine reg_run [.sure, .plain, .plain] 9 [(0, [], Value.pointer f), (4, [], Value.pointer (some ⟨b_, 0, none⟩)), (19, [], Value.bool (!v25))] (by kernel_rfl) (by kernel_rfl) ?_
            refine reg_end [(0, Value.pointer f), (4, Value.pointer (some ⟨b_, 0, none⟩)), (19, Value.bool (!v25))] (by kernel_rfl) (by kernel_rfl) ?_
            exact ⟨[(0, Value.pointer f), (4, Value.pointer (some ⟨b_, 0, none⟩)), (19, Value.bool (!v25))], Sub.mk (by kernel_rfl), (!v25), rfl, h⟩
        · rintro _ w5 ⟨t19, rfl, h⟩
          unfold F_feed_Feed_Dispatch_k0 at h
          refine wpE_cond (o := (Operand.tmp 19)) (b := t19) (x := c_feed_Feed_Dispatch_25) (y := c_feed_Feed_Dispatch_29) (by kernel_rfl) (by kernel_rfl) (fun hb => ?_) (fun hb => ?_)
          · replace h := h.1 hb
            refine wpE_seq (x := c_feed_Feed_Dispatch_26) (y := c_feed_Feed_Dispatch_28) (by kernel_rfl) ?_
            refine wpE_region (id := 6) (ops := r_feed_Feed_Dispatch_26) (by kernel_rfl) ?_
            refine reg_run [.plain] 1 [(4, [], Value.pointer (some ⟨b_, 0, none⟩)), (28, [], Value.agg #[Value.int .i64 0, Value.slice none 0 0])] (by kernel_rfl) (by kernel_rfl) ?_
            obtain ⟨hc, h⟩ := h
            refine reg_store (t := 42) (a := (Go.Operand.tmp 4)) (x := (Go.Operand.tmp 28)) (b := b_) (o := 0) (ty := 0) (dst := none) [Value.int .i64 0, Value.slice none 0 0] (by kernel_rfl) (by kernel_rfl) (by kernel_rfl) (k := 2) (by kernel_rfl) (by kernel_rfl) (by kernel_rfl) hc (fun w6 hw => ?_)
            replace h := h w6 hw
            clear hw
            refine reg_run [.plain] 3 [(4, [], Value.pointer (some ⟨b_, 0, none⟩)), (5, [], Value.int .i64 6)] (by kernel_rfl) (by kernel_rfl) ?_
            refine reg_end [(4, Value.pointer (some ⟨b_, 0, none⟩)), (5, Value.int .i64 6)] (by kernel_rfl) (by kernel_rfl) ?_
            change WpE _ _ c_feed_Feed_Dispatch_28 _ _ _
            refine wpE_ret (by kernel_rfl) ?_
            obtain ⟨res2, hc_res2, h⟩ := h
            repeat (first | refine seqQ_ret ?_ | refine blockQ_ret ?_ | refine loopQ_ret ?_ | refine cutQ_ret ?_)
            exact retT (rs := [(Go.ResultVar.cell 4 42), (Go.ResultVar.tmp 5)]) (vs := [Value.agg #[Value.int .i64 res2.Number, Value.slice res2.Writes.ptr res2.Writes.len res2.Writes.cap], Value.int .i64 6]) (by kernel_rfl) (⟨b_, 0, [Value.int .i64 res2.Number, Value.slice res2.Writes.ptr res2.Writes.len res2.Writes.cap], by kernel_rfl, hc_res2, (sizeP_of (k := 2) (by kernel_rfl) (by kernel_rfl)), .inl ⟨by kernel_rfl, rfl⟩, ⟨by kernel_rfl, trivial⟩⟩) (by kernel_rfl) ⟨res2, 6, rfl, h⟩
          · replace h := h.2 hb
            refine wpE_skip (by kernel_rfl) ?_
            change WpE _ _ c_feed_Feed_Dispatch_30 _ _ _
            refine wpE_seq (x := c_feed_Feed_Dispatch_31) (y := c_feed_Feed_Dispatch_33) (by kernel_rfl) ?_
            refine wpE_region (id := 7) (ops := r_feed_Feed_Dispatch_31) (by kernel_rfl) ?_
            refine reg_run [.plain] 1 [(0, [], Value.pointer f), (4, [], Value.pointer (some ⟨b_, 0, none⟩)), (29, [], Value.pointer f)] (by kernel_rfl) (by kernel_rfl) ?_
            obtain ⟨hp_6, h⟩ := h
            refine reg_conv [(0, [], Value.pointer f), (4, [], Value.pointer (some ⟨b_, 0, none⟩)), (29, [], Value.pointer (some ⟨(pblk f), (poff f), none⟩))] (congrArg (fun pp => ([(0, [], Value.pointer f), (4, [], Value.pointer (some ⟨b_, 0, none⟩)), (29, [], Value.pointer pp)] : GEnv)) hp_6) ?_
            refine reg_run [.plain] 2 [(0, [], Value.pointer f), (4, [], Value.pointer (some ⟨b_, 0, none⟩)), (29, [], Value.pointer (some ⟨(pblk f), (poff f), none⟩)), (30, [], Value.pointer (some ⟨(pblk f), (poff f), none⟩))] (by kernel_rfl) (by kernel_rfl) ?_
            refine reg_run [.plain] 3 [(0, [], Value.pointer f), (4, [], Value.pointer (some ⟨b_, 0, none⟩)), (31, [], Value.pointer (some ⟨(pblk f), (poff f) + 5, none⟩))] (by kernel_rfl) (by kernel_rfl) ?_
            obtain ⟨v32, hc, h⟩ := h
            refine reg_load1 (t := 57) (a := (Go.Operand.tmp 31)) (b := (pblk f)) (o := ((poff f) + 5)) (ty := 57) (dst := some 32) (by kernel_rfl) (by kernel_rfl) (by kernel_rfl) hc ?_
            refine reg_run [] 4 [(0, [], Value.pointer f), (4, [], Value.pointer (some ⟨b_, 0, none⟩)), (32, [], Value.pointer v32)] (by kernel_rfl) (by kernel_rfl) ?_
            obtain ⟨hp_7, h⟩ := h
            refine reg_conv [(0, [], Value.pointer f), (4, [], Value.pointer (some ⟨b_, 0, none⟩)), (32, [], Value.pointer (some ⟨(pblk v32), (poff v32), none⟩))] (congrArg (fun pp => ([(0, [], Value.pointer f), (4, [], Value.pointer (some ⟨b_, 0, none⟩)), (32, [], Value.pointer pp)] : GEnv)) hp_7) ?_
            refine reg_run [.plain] 5 [(0, [], Value.pointer f), (4, [], Value.pointer (some ⟨b_, 0, none⟩)), (32, [], Value.pointer (some ⟨(pblk v32), (poff v32), none⟩)), (33, [], Value.pointer (some ⟨(pblk v32), (poff v32), none⟩))] (by kernel_rfl) (by kernel_rfl) ?_
            refine reg_run [] 5 [(0, [], Value.pointer f), (4, [], Value.pointer (some ⟨b_, 0, none⟩)), (33, [], Value.pointer (some ⟨(pblk v32), (poff v32), none⟩))] (by kernel_rfl) (by kernel_rfl) ?_
            obtain ⟨v34, hc, h⟩ := h
            refine reg_loadN (t := 42) (a := (Go.Operand.tmp 33)) (b := (pblk v32)) (o := (poff v32)) (ty := 42) (dst := some 34) [Value.int .i64 v34.Number, Value.slice v34.Writes.ptr v34.Writes.len v34.Writes.cap] (by kernel_rfl) (by kernel_rfl) (by kernel_rfl) (k := 2) (by kernel_rfl) (by kernel_rfl) hc ?_
            refine reg_run [] 6 [(0, [], Value.pointer f), (4, [], Value.pointer (some ⟨b_, 0, none⟩)), (34, [], Value.agg #[Value.int .i64 v34.Number, Value.slice v34.Writes.ptr v34.Writes.len v34.Writes.cap])] (by kernel_rfl) (by kernel_rfl) ?_
            refine reg_new (op := (Go.Op.alloc 42)) (ty := 0) (dst := some 6) (fun bb => Value.pointer (some ⟨bb, 0, none⟩)) (Obj.cells ([Value.int .i64 0, Value.slice none 0 0]).toArray ty_api_Txn (0, 0)) (by kernel_rfl) (by kernel_rfl) (fun b_1 w7 hb hw => ?_)
            replace h := h b_1 w7 hb hw
            clear hb hw
            refine reg_run [] 7 [(0, [], Value.pointer f), (4, [], Value.pointer (some ⟨b_, 0, none⟩)), (6, [], Value.pointer (some ⟨b_1, 0, none⟩)), (34, [], Value.agg #[Value.int .i64 v34.Number, Value.slice v34.Writes.ptr v34.Writes.len v34.Writes.cap])] (by kernel_rfl) (by kernel_rfl) ?_
            obtain ⟨hc, h⟩ := h
            refine reg_store (t := 42) (a := (Go.Operand.tmp 6)) (x := (Go.Operand.tmp 34)) (b := b_1) (o := 0) (ty := 0) (dst := none) [Value.int .i64 v34.Number, Value.slice v34.Writes.ptr v34.Writes.len v34.Writes.cap] (by kernel_rfl) (by kernel_rfl) (by kernel_rfl) (k := 2) (by kernel_rfl) (by kernel_rfl) (by kernel_rfl) hc (fun w8 hw => ?_)
            replace h := h w8 hw
            clear hw
            refine reg_end [(0, Value.pointer f), (4, Value.pointer (some ⟨b_, 0, none⟩)), (6, Value.pointer (some ⟨b_1, 0, none⟩))] (by kernel_rfl) (by kernel_rfl) ?_
            change WpE _ _ c_feed_Feed_Dispatch_33 _ _ _
            refine wpE_seq (x := c_feed_Feed_Dispatch_34) (y := c_feed_Feed_Dispatch_36) (by kernel_rfl) ?_
            refine wpE_region (id := 8) (ops := r_feed_Feed_Dispatch_34) (by kernel_rfl) ?_
            refine reg_run [.plain] 1 [(4, [], Value.pointer (some ⟨b_, 0, none⟩)), (6, [], Value.pointer (some ⟨b_1, 0, none⟩)), (35, [], Value.pointer f)] (by kernel_rfl) (by kernel_rfl) ?_
            obtain ⟨hp_9, h⟩ := h
            refine reg_conv [(4, [], Value.pointer (some ⟨b_, 0, none⟩)), (6, [], Value.pointer (some ⟨b_1, 0, none⟩)), (35, [], Value.pointer (some ⟨(pblk f), (poff f), none⟩))] (congrArg (fun pp => ([(4, [], Value.pointer (some ⟨b_, 0, none⟩)), (6, [], Value.pointer (some ⟨b_1, 0, none⟩)), (35, [], Value.pointer pp)] : GEnv)) hp_9) ?_
            refine reg_run [.plain] 2 [(4, [], Value.pointer (some ⟨b_, 0, none⟩)), (6, [], Value.pointer (some ⟨b_1, 0, none⟩)), (35, [], Value.pointer (some ⟨(pblk f), (poff f), none⟩)), (36, [], Value.pointer (some ⟨(pblk f), (poff f), none⟩))] (by kernel_rfl) (by kernel_rfl) ?_
            refine reg_run [.plain] 3 [(4, [], Value.pointer (some ⟨b_, 0, none⟩)), (6, [], Value.pointer (some ⟨b_1, 0, none⟩)), (37, [], Value.pointer (some ⟨(pblk f), (poff f) + 5, none⟩))] (by kernel_rfl) (by kernel_rfl) ?_
            obtain ⟨hc, h⟩ := h
            refine reg_store (t := 57) (a := (Go.Operand.tmp 37)) (x := (Go.Operand.const (Go.Value.pointer none))) (b := (pblk f)) (o := ((poff f) + 5)) (ty := 0) (dst := none) [Value.pointer none] (by kernel_rfl) (by kernel_rfl) (by kernel_rfl) (k := 1) (by kernel_rfl) (by kernel_rfl) (by kernel_rfl) hc (fun w9 hw => ?_)
            replace h := h w9 hw
            clear hw
            refine reg_end [(4, Value.pointer (some ⟨b_, 0, none⟩)), (6, Value.pointer (some ⟨b_1, 0, none⟩))] (by kernel_rfl) (by kernel_rfl) ?_
            change WpE _ _ c_feed_Feed_Dispatch_36 _ _ _
            refine wpE_seq (x := c_feed_Feed_Dispatch_37) (y := c_feed_Feed_Dispatch_39) (by kernel_rfl) ?_
            refine wpE_region (id := 9) (ops := r_feed_Feed_Dispatch_37) (by kernel_rfl) ?_
            refine reg_run [] 0 [(4, [], Value.pointer (some ⟨b_, 0, none⟩)), (6, [], Value.pointer (some ⟨b_1, 0, none⟩))] (by kernel_rfl) (by kernel_rfl) ?_
            obtain ⟨v38, hc, h⟩ := h
            refine reg_loadN (t := 42) (a := (Go.Operand.tmp 6)) (b := b_1) (o := 0) (ty := 42) (dst := some 38) [Value.int .i64 v38.Number, Value.slice v38.Writes.ptr v38.Writes.len v38.Writes.cap] (by kernel_rfl) (by kernel_rfl) (by kernel_rfl) (k := 2) (by kernel_rfl) (by kernel_rfl) hc ?_
            refine reg_run [] 1 [(4, [], Value.pointer (some ⟨b_, 0, none⟩)), (38, [], Value.agg #[Value.int .i64 v38.Number, Value.slice v38.Writes.ptr v38.Writes.len v38.Writes.cap])] (by kernel_rfl) (by kernel_rfl) ?_
            obtain ⟨hc, h⟩ := h
            refine reg_store (t := 42) (a := (Go.Operand.tmp 4)) (x := (Go.Operand.tmp 38)) (b := b_) (o := 0) (ty := 0) (dst := none) [Value.int .i64 v38.Number, Value.slice v38.Writes.ptr v38.Writes.len v38.Writes.cap] (by kernel_rfl) (by kernel_rfl) (by kernel_rfl) (k := 2) (by kernel_rfl) (by kernel_rfl) (by kernel_rfl) hc (fun w10 hw => ?_)
            replace h := h w10 hw
            clear hw
            refine reg_run [.plain] 3 [(4, [], Value.pointer (some ⟨b_, 0, none⟩)), (5, [], Value.int .i64 0)] (by kernel_rfl) (by kernel_rfl) ?_
            refine reg_end [(4, Value.pointer (some ⟨b_, 0, none⟩)), (5, Value.int .i64 0)] (by kernel_rfl) (by kernel_rfl) ?_
            change WpE _ _ c_feed_Feed_Dispatch_39 _ _ _
            refine wpE_ret (by kernel_rfl) ?_
            obtain ⟨res3, hc_res3, h⟩ := h
            repeat (first | refine seqQ_ret ?_ | refine blockQ_ret ?_ | refine loopQ_ret ?_ | refine cutQ_ret ?_)
            exact retT (rs := [(Go.ResultVar.cell 4 42), (Go.ResultVar.tmp 5)]) (vs := [Value.agg #[Value.int .i64 res3.Number, Value.slice res3.Writes.ptr res3.Writes.len res3.Writes.cap], Value.int .i64 0]) (by kernel_rfl) (⟨b_, 0, [Value.int .i64 res3.Number, Value.slice res3.Writes.ptr res3.Writes.len res3.Writes.cap], by kernel_rfl, hc_res3, (sizeP_of (k := 2) (by kernel_rfl) (by kernel_rfl)), .inl ⟨by kernel_rfl, rfl⟩, ⟨by kernel_rfl, trivial⟩⟩) (by kernel_rfl) ⟨res3, 0, rfl, h⟩
  · rintro e w' ⟨v, rfl, r0, r1, rfl, h⟩; exact ⟨r0, r1, rfl, h⟩

/-! ### (*towpath/feed.Feed).Skip (function 20) -/
noncomputable def c_feed_Feed_Skip_0 : Code := (Try.f20.body).getD Code.skip
noncomputable def c_feed_Feed_Skip_1 : Code := Code.l c_feed_Feed_Skip_0
noncomputable def r_feed_Feed_Skip_1 : Array Oper := Code.ops c_feed_Feed_Skip_1
noncomputable def c_feed_Feed_Skip_3 : Code := Code.r c_feed_Feed_Skip_0
noncomputable def c_feed_Feed_Skip_4 : Code := Code.l c_feed_Feed_Skip_3
noncomputable def c_feed_Feed_Skip_5 : Code := Code.l c_feed_Feed_Skip_4
noncomputable def c_feed_Feed_Skip_6 : Code := Code.l c_feed_Feed_Skip_5
noncomputable def r_feed_Feed_Skip_6 : Array Oper := Code.ops c_feed_Feed_Skip_6
noncomputable def c_feed_Feed_Skip_8 : Code := Code.r c_feed_Feed_Skip_5
noncomputable def c_feed_Feed_Skip_9 : Code := Code.l c_feed_Feed_Skip_8
noncomputable def c_feed_Feed_Skip_10 : Code := Code.l c_feed_Feed_Skip_9
noncomputable def r_feed_Feed_Skip_10 : Array Oper := Code.ops c_feed_Feed_Skip_10
noncomputable def c_feed_Feed_Skip_12 : Code := Code.r c_feed_Feed_Skip_9
noncomputable def c_feed_Feed_Skip_13 : Code := Code.r c_feed_Feed_Skip_8
noncomputable def c_feed_Feed_Skip_14 : Code := Code.l c_feed_Feed_Skip_13
noncomputable def r_feed_Feed_Skip_14 : Array Oper := Code.ops c_feed_Feed_Skip_14
noncomputable def c_feed_Feed_Skip_16 : Code := Code.r c_feed_Feed_Skip_13
noncomputable def c_feed_Feed_Skip_17 : Code := Code.l c_feed_Feed_Skip_16
noncomputable def c_feed_Feed_Skip_18 : Code := Code.l c_feed_Feed_Skip_17
noncomputable def r_feed_Feed_Skip_18 : Array Oper := Code.ops c_feed_Feed_Skip_18
noncomputable def c_feed_Feed_Skip_20 : Code := Code.r c_feed_Feed_Skip_17
noncomputable def c_feed_Feed_Skip_21 : Code := Code.r c_feed_Feed_Skip_16
noncomputable def c_feed_Feed_Skip_22 : Code := Code.l c_feed_Feed_Skip_21
noncomputable def r_feed_Feed_Skip_22 : Array Oper := Code.ops c_feed_Feed_Skip_22
noncomputable def c_feed_Feed_Skip_24 : Code := Code.r c_feed_Feed_Skip_21
noncomputable def c_feed_Feed_Skip_25 : Code := Code.l c_feed_Feed_Skip_24
noncomputable def c_feed_Feed_Skip_26 : Code := Code.l c_feed_Feed_Skip_25
noncomputable def r_feed_Feed_Skip_26 : Array Oper := Code.ops c_feed_Feed_Skip_26
noncomputable def c_feed_Feed_Skip_28 : Code := Code.r c_feed_Feed_Skip_25
noncomputable def c_feed_Feed_Skip_29 : Code := Code.r c_feed_Feed_Skip_24
noncomputable def c_feed_Feed_Skip_30 : Code := Code.r c_feed_Feed_Skip_3
noncomputable def c_feed_Feed_Skip_31 : Code := Code.l c_feed_Feed_Skip_30
noncomputable def r_feed_Feed_Skip_31 : Array Oper := Code.ops c_feed_Feed_Skip_31
noncomputable def c_feed_Feed_Skip_33 : Code := Code.r c_feed_Feed_Skip_30
noncomputable def c_feed_Feed_Skip_34 : Code := Code.l c_feed_Feed_Skip_33
noncomputable def r_feed_Feed_Skip_34 : Array Oper := Code.ops c_feed_Feed_Skip_34
noncomputable def c_feed_Feed_Skip_36 : Code := Code.r c_feed_Feed_Skip_33
noncomputable def c_feed_Feed_Skip_37 : Code := Code.l c_feed_Feed_Skip_36
noncomputable def r_feed_Feed_Skip_37 : Array Oper := Code.ops c_feed_Feed_Skip_37
noncomputable def c_feed_Feed_Skip_39 : Code := Code.r c_feed_Feed_Skip_36

set_option maxRecDepth 100000 in
set_option maxHeartbeats 4000000 in
theorem S_feed_Feed_Skip {f : Option Addr} {w : World} {R : Int → Int → World → Prop} (h : F_feed_Feed_Skip f R w) : C_feed_Feed_Skip f w R := by
  unfold F_feed_Feed_Skip at h
  unfold C_feed_Feed_Skip
  refine Calls.mono (calls_of_wpE (args := [Value.pointer f]) (R := fun v w' => ∃ (r0 : Int) (r1 : Int), v = Value.tuple #[Value.int .i64 r0, Value.int .i64 r1] ∧ R r0 r1 w') Try.func20 (c := c_feed_Feed_Skip_0) (by kernel_rfl) 30 (by kernel_rfl) (by kernel_rfl) [(0, Value.pointer f)] (by kernel_rfl) ?_) ?_
  · refine wpE_seq (x := c_feed_Feed_Skip_1) (y := c_feed_Feed_Skip_3) (by kernel_rfl) ?_
    refine wpE_region (id := 0) (ops := r_feed_Feed_Skip_1) (by kernel_rfl) ?_
    refine reg_run [.plain, .plain] 2 [(0, [], Value.pointer f)] (by kernel_rfl) (by kernel_rfl) ?_
    refine reg_end [(0, Value.pointer f)] (by kernel_rfl) (by kernel_rfl) ?_
    change WpE _ _ c_feed_Feed_Skip_3 _ _ _
    refine wpE_seq (x := c_feed_Feed_Skip_4) (y := c_feed_Feed_Skip_30) (by kernel_rfl) ?_
    refine wpE_block (id := 0) (x := c_feed_Feed_Skip_5) (by kernel_rfl) ?_
    refine wpE_seq (x := c_feed_Feed_Skip_6) (y := c_feed_Feed_Skip_8) (by kernel_rfl) ?_
    refine wpE_region (id := 1) (ops := r_feed_Feed_Skip_6) (by kernel_rfl) ?_
    refine reg_run [.plain] 1 [(0, [], Value.pointer f), (6, [], Value.pointer f)] (by kernel_rfl) (by kernel_rfl) ?_
    refine reg_enter (op := (Go.Op.call (Go.Call.mk (Go.Callee.value (Go.Operand.func 46)) #[(Go.Operand.tmp 6)] #[26]))) (ty := 4) (dst := some 7) 46 #[Value.pointer f] (by kernel_rfl) (fun ww => by kernel_rfl) (Calls.mono h ?_)
    rintro _ w1 ⟨v7, rfl, h⟩
    refine ⟨_, rfl, ?_⟩
    refine reg_run [.plain, .plain] 4 [(0, [], Value.pointer f), (5, [], Value.bool (!v7))] (by kernel_rfl) (by kernel_rfl) ?_
    refine reg_end [(0, Value.pointer f), (5, Value.bool (!v7))] (by kernel_rfl) (by kernel_rfl) ?_
    change WpE _ _ c_feed_Feed_Skip_8 _ _ _
    refine wpE_cond (o := (Operand.tmp 5)) (b := (!v7)) (x := c_feed_Feed_Skip_9) (y := c_feed_Feed_Skip_13) (by kernel_rfl) (by kernel_rfl) (fun hb => ?_) (fun hb => ?_)
    · replace h := h.1 hb
      refine wpE_seq (x := c_feed_Feed_Skip_10) (y := c_feed_Feed_Skip_12) (by kernel_rfl) ?_
      refine wpE_region (id := 2) (ops := r_feed_Feed_Skip_10) (by kernel_rfl) ?_
      refine reg_run [.plain, .plain] 2 [(2, [], Value.int .i64 0), (3, [], Value.int .i64 2)] (by kernel_rfl) (by kernel_rfl) ?_
      refine reg_end [(2, Value.int .i64 0), (3, Value.int .i64 2)] (by kernel_rfl) (by kernel_rfl) ?_
      change WpE _ _ c_feed_Feed_Skip_12 _ _ _
      refine wpE_ret (by kernel_rfl) ?_
      repeat (first | refine seqQ_ret ?_ | refine blockQ_ret ?_ | refine loopQ_ret ?_ | refine cutQ_ret ?_)
      exact retT (rs := [(Go.ResultVar.tmp 2), (Go.ResultVar.tmp 3)]) (vs := [Value.int .i64 0, Value.int .i64 2]) (by kernel_rfl) (⟨by kernel_rfl, ⟨by kernel_rfl, trivial⟩⟩) (by kernel_rfl) ⟨0, 2, rfl, h⟩
    · replace h := h.2 hb
      refine wpE_seq (x := c_feed_Feed_Skip_14) (y := c_feed_Feed_Skip_16) (by kernel_rfl) ?_
      refine wpE_region (id := 3) (ops := r_feed_Feed_Skip_14) (by kernel_rfl) ?_
      refine reg_run [.plain] 1 [(0, [], Value.pointer f), (10, [], Value.pointer f)] (by kernel_rfl) (by kernel_rfl) ?_
      obtain ⟨hp_3, h⟩ := h
      refine reg_conv [(0, [], Value.pointer f), (10, [], Value.pointer (some ⟨(pblk f), (poff f), none⟩))] (congrArg (fun pp => ([(0, [], Value.pointer f), (10, [], Value.pointer pp)] : GEnv)) hp_3) ?_
      refine reg_run [.plain] 2 [(0, [], Value.pointer f), (10, [], Value.pointer (some ⟨(pblk f), (poff f), none⟩)), (11, [], Value.pointer (some ⟨(pblk f), (poff f), none⟩))] (by kernel_rfl) (by kernel_rfl) ?_
      refine reg_run [.plain] 3 [(0, [], Value.pointer f), (12, [], Value.pointer (some ⟨(pblk f), (poff f) + 5, none⟩))] (by kernel_rfl) (by kernel_rfl) ?_
      obtain ⟨v13, hc, h⟩ := h
      refine reg_load1 (t := 57) (a := (Go.Operand.tmp 12)) (b := (pblk f)) (o := ((poff f) + 5)) (ty := 57) (dst := some 13) (by kernel_rfl) (by kernel_rfl) (by kernel_rfl) hc ?_
      refine reg_run [] 4 [(0, [], Value.pointer f), (13, [], Value.pointer v13)] (by kernel_rfl) (by kernel_rfl) ?_
      refine reg_val (op := (Go.Op.binOp Go.BinOp.eql 57 (Go.Operand.tmp 13) (Go.Operand.const (Go.Value.pointer none)) 57)) (ty := 4) (dst := some 14) (Value.bool v13.isNone) (by kernel_rfl) (fun ww => run_ptr_eql_R (p := v13) (by kernel_rfl) (by kernel_rfl) (by kernel_rfl) ww) ?_
      refine reg_run [.plain] 6 [(0, [], Value.pointer f), (9, [], Value.bool v13.isNone)] (by kernel_rfl) (by kernel_rfl) ?_
      refine reg_end [(0, Value.pointer f), (9, Value.bool v13.isNone)] (by kernel_rfl) (by kernel_rfl) ?_
      change WpE _ _ c_feed_Feed_Skip_16 _ _ _
      refine wpE_cond (o := (Operand.tmp 9)) (b := v13.isNone) (x := c_feed_Feed_Skip_17) (y := c_feed_Feed_Skip_21) (by kernel_rfl) (by kernel_rfl) (fun hb => ?_) (fun hb => ?_)
      · replace h := h.1 hb
        refine wpE_seq (x := c_feed_Feed_Skip_18) (y := c_feed_Feed_Skip_20) (by kernel_rfl) ?_
        refine wpE_region (id := 4) (ops := r_feed_Feed_Skip_18) (by kernel_rfl) ?_
        refine reg_run [.plain, .plain] 2 [(2, [], Value.int .i64 0), (3, [], Value.int .i64 9)] (by kernel_rfl) (by kernel_rfl) ?_
        refine reg_end [(2, Value.int .i64 0), (3, Value.int .i64 9)] (by kernel_rfl) (by kernel_rfl) ?_
        change WpE _ _ c_feed_Feed_Skip_20 _ _ _
        refine wpE_ret (by kernel_rfl) ?_
        repeat (first | refine seqQ_ret ?_ | refine blockQ_ret ?_ | refine loopQ_ret ?_ | refine cutQ_ret ?_)
        exact retT (rs := [(Go.ResultVar.tmp 2), (Go.ResultVar.tmp 3)]) (vs := [Value.int .i64 0, Value.int .i64 9]) (by kernel_rfl) (⟨by kernel_rfl, ⟨by kernel_rfl, trivial⟩⟩) (by kernel_rfl) ⟨0, 9, rfl, h⟩
      · replace h := h.2 hb
        refine wpE_seq (x := c_feed_Feed_Skip_22) (y := c_feed_Feed_Skip_24) (by kernel_rfl) ?_
        refine wpE_region (id := 5) (ops := r_feed_Feed_Skip_22) (by kernel_rfl) ?_
        refine reg_run [.plain] 1 [(0, [], Value.pointer f), (16, [], Value.pointer f)] (by kernel_rfl) (by kernel_rfl) ?_
        refine reg_enter (op := (Go.Op.call (Go.Call.mk (Go.Callee.value (Go.Operand.func 50)) #[(Go.Operand.tmp 16)] #[26]))) (ty := 4) (dst := some 17) 50 #[Value.pointer f] (by kernel_rfl) (fun ww => by kernel_rfl) (Calls.mono h ?_)
        rintro _ w2 ⟨v17, rfl, h⟩
        refine ⟨_, rfl, ?_⟩
        refine reg_run [.plain, .plain] 4 [(0, [], Value.pointer f), (15, [], Value.bool (!v17))] (by kernel_rfl) (by kernel_rfl) ?_
        refine reg_end [(0, Value.pointer f), (15, Value.bool (!v17))] (by kernel_rfl) (by kernel_rfl) ?_
        change WpE _ _ c_feed_Feed_Skip_24 _ _ _
        refine wpE_cond (o := (Operand.tmp 15)) (b := (!v17)) (x := c_feed_Feed_Skip_25) (y := c_feed_Feed_Skip_29) (by kernel_rfl) (by kernel_rfl) (fun hb => ?_) (fun hb => ?_)
        · replace h := h.1 hb
          refine wpE_seq (x := c_feed_Feed_Skip_26) (y := c_feed_Feed_Skip_28) (by kernel_rfl) ?_
          refine wpE_region (id := 6) (ops := r_feed_Feed_Skip_26) (by kernel_rfl) ?_
          refine reg_run [.plain, .plain] 2 [(2, [], Value.int .i64 0), (3, [], Value.int .i64 6)] (by kernel_rfl) (by kernel_rfl) ?_
          refine reg_end [(2, Value.int .i64 0), (3, Value.int .i64 6)] (by kernel_rfl) (by kernel_rfl) ?_
          change WpE _ _ c_feed_Feed_Skip_28 _ _ _
          refine wpE_ret (by kernel_rfl) ?_
          repeat (first | refine seqQ_ret ?_ | refine blockQ_ret ?_ | refine loopQ_ret ?_ | refine cutQ_ret ?_)
          exact retT (rs := [(Go.ResultVar.tmp 2), (Go.ResultVar.tmp 3)]) (vs := [Value.int .i64 0, Value.int .i64 6]) (by kernel_rfl) (⟨by kernel_rfl, ⟨by kernel_rfl, trivial⟩⟩) (by kernel_rfl) ⟨0, 6, rfl, h⟩
        · replace h := h.2 hb
          refine wpE_skip (by kernel_rfl) ?_
          change WpE _ _ c_feed_Feed_Skip_30 _ _ _
          refine wpE_seq (x := c_feed_Feed_Skip_31) (y := c_feed_Feed_Skip_33) (by kernel_rfl) ?_
          refine wpE_region (id := 7) (ops := r_feed_Feed_Skip_31) (by kernel_rfl) ?_
          refine reg_run [.plain] 1 [(0, [], Value.pointer f), (19, [], Value.pointer f)] (by kernel_rfl) (by kernel_rfl) ?_
          obtain ⟨hp_6, h⟩ := h
          refine reg_conv [(0, [], Value.pointer f), (19, [], Value.pointer (some ⟨(pblk f), (poff f), none⟩))] (congrArg (fun pp => ([(0, [], Value.pointer f), (19, [], Value.pointer pp)] : GEnv)) hp_6) ?_
          refine reg_run [.plain] 2 [(0, [], Value.pointer f), (19, [], Value.pointer (some ⟨(pblk f), (poff f), none⟩)), (20, [], Value.pointer (some ⟨(pblk f), (poff f), none⟩))] (by kernel_rfl) (by kernel_rfl) ?_
          refine reg_run [.plain] 3 [(0, [], Value.pointer f), (21, [], Value.pointer (some ⟨(pblk f), (poff f) + 5, none⟩))] (by kernel_rfl) (by kernel_rfl) ?_
          obtain ⟨v22, hc, h⟩ := h
          refine reg_load1 (t := 57) (a := (Go.Operand.tmp 21)) (b := (pblk f)) (o := ((poff f) + 5)) (ty := 57) (dst := some 22) (by kernel_rfl) (by kernel_rfl) (by kernel_rfl) hc ?_
          refine reg_run [] 4 [(0, [], Value.pointer f), (22, [], Value.pointer v22)] (by kernel_rfl) (by kernel_rfl) ?_
          obtain ⟨hp_7, h⟩ := h
          refine reg_conv [(0, [], Value.pointer f), (22, [], Value.pointer (some ⟨(pblk v22), (poff v22), none⟩))] (congrArg (fun pp => ([(0, [], Value.pointer f), (22, [], Value.pointer pp)] : GEnv)) hp_7) ?_
          refine reg_run [.plain] 5 [(0, [], Value.pointer f), (22, [], Value.pointer (some ⟨(pblk v22), (poff v22), none⟩)), (23, [], Value.pointer (some ⟨(pblk v22), (poff v22), none⟩))] (by kernel_rfl) (by kernel_rfl) ?_
          refine reg_run [.plain] 6 [(0, [], Value.pointer f), (24, [], Value.pointer (some ⟨(pblk v22), (poff v22), none⟩))] (by kernel_rfl) (by kernel_rfl) ?_
          obtain ⟨n_, hc, h⟩ := h
          refine reg_load1 (t := 3) (a := (Go.Operand.tmp 24)) (b := (pblk v22)) (o := (poff v22)) (ty := 3) (dst := some 25) (by kernel_rfl) (by kernel_rfl) (by kernel_rfl) hc ?_
          refine reg_run [.plain] 8 [(0, [], Value.pointer f), (4, [], Value.int .i64 n_)] (by kernel_rfl) (by kernel_rfl) ?_
          refine reg_end [(0, Value.pointer f), (4, Value.int .i64 n_)] (by kernel_rfl) (by kernel_rfl) ?_
          change WpE _ _ c_feed_Feed_Skip_33 _ _ _
          refine wpE_seq (x := c_feed_Feed_Skip_34) (y := c_feed_Feed_Skip_36) (by kernel_rfl) ?_
          refine wpE_region (id := 8) (ops := r_feed_Feed_Skip_34) (by kernel_rfl) ?_
          refine reg_run [.plain] 1 [(4, [], Value.int .i64 n_), (26, [], Value.pointer f)] (by kernel_rfl) (by kernel_rfl) ?_
          obtain ⟨hp_9, h⟩ := h
          refine reg_conv [(4, [], Value.int .i64 n_), (26, [], Value.pointer (some ⟨(pblk f), (poff f), none⟩))] (congrArg (fun pp => ([(4, [], Value.int .i64 n_), (26, [], Value.pointer pp)] : GEnv)) hp_9) ?_
          refine reg_run [.plain] 2 [(4, [], Value.int .i64 n_), (26, [], Value.pointer (some ⟨(pblk f), (poff f), none⟩)), (27, [], Value.pointer (some ⟨(pblk f), (poff f), none⟩))] (by kernel_rfl) (by kernel_rfl) ?_
          refine reg_run [.plain] 3 [(4, [], Value.int .i64 n_), (28, [], Value.pointer (some ⟨(pblk f), (poff f) + 5, none⟩))] (by kernel_rfl) (by kernel_rfl) ?_
          obtain ⟨hc, h⟩ := h
          refine reg_store (t := 57) (a := (Go.Operand.tmp 28)) (x := (Go.Operand.const (Go.Value.pointer none))) (b := (pblk f)) (o := ((poff f) + 5)) (ty := 0) (dst := none) [Value.pointer none] (by kernel_rfl) (by kernel_rfl) (by kernel_rfl) (k := 1) (by kernel_rfl) (by kernel_rfl) (by kernel_rfl) hc (fun w3 hw => ?_)
          replace h := h w3 hw
          clear hw
          refine reg_end [(4, Value.int .i64 n_)] (by kernel_rfl) (by kernel_rfl) ?_
          change WpE _ _ c_feed_Feed_Skip_36 _ _ _
          refine wpE_seq (x := c_feed_Feed_Skip_37) (y := c_feed_Feed_Skip_39) (by kernel_rfl) ?_
          refine wpE_region (id := 9) (ops := r_feed_Feed_Skip_37) (by kernel_rfl) ?_
          refine reg_run [.plain, .plain, .plain] 3 [(2, [], Value.int .i64 n_), (3, [], Value.int .i64 0)] (by kernel_rfl) (by kernel_rfl) ?_
          refine reg_end [(2, Value.int .i64 n_), (3, Value.int .i64 0)] (by kernel_rfl) (by kernel_rfl) ?_
          change WpE _ _ c_feed_Feed_Skip_39 _ _ _
          refine wpE_ret (by kernel_rfl) ?_
          repeat (first | refine seqQ_ret ?_ | refine blockQ_ret ?_ | refine loopQ_ret ?_ | refine cutQ_ret ?_)
          exact retT (rs := [(Go.ResultVar.tmp 2), (Go.ResultVar.tmp 3)]) (vs := [Value.int .i64 n_, Value.int .i64 0]) (by kernel_rfl) (⟨by kernel_rfl, ⟨by kernel_rfl, trivial⟩⟩) (by kernel_rfl) ⟨n_, 0, rfl, h⟩
  · rintro e w' ⟨v, rfl, r0, r1, rfl, h⟩; exact ⟨r0, r1, rfl, h⟩

/-! ### (*towpath/feed.Feed).Fed (function 25) -/
noncomputable def c_feed_Feed_Fed_0 : Code := (Try.f25.body).getD Code.skip
noncomputable def c_feed_Feed_Fed_1 : Code := Code.l c_feed_Feed_Fed_0
noncomputable def r_feed_Feed_Fed_1 : Array Oper := Code.ops c_feed_Feed_Fed_1
noncomputable def c_feed_Feed_Fed_3 : Code := Code.r c_feed_Feed_Fed_0
noncomputable def c_feed_Feed_Fed_4 : Code := Code.l c_feed_Feed_Fed_3
noncomputable def c_feed_Feed_Fed_5 : Code := Code.l c_feed_Feed_Fed_4
noncomputable def r_feed_Feed_Fed_5 : Array Oper := Code.ops c_feed_Feed_Fed_5
noncomputable def c_feed_Feed_Fed_7 : Code := Code.r c_feed_Feed_Fed_4
noncomputable def c_feed_Feed_Fed_8 : Code := Code.l c_feed_Feed_Fed_7
noncomputable def c_feed_Feed_Fed_9 : Code := Code.l c_feed_Feed_Fed_8
noncomputable def r_feed_Feed_Fed_9 : Array Oper := Code.ops c_feed_Feed_Fed_9
noncomputable def c_feed_Feed_Fed_11 : Code := Code.r c_feed_Feed_Fed_8
noncomputable def c_feed_Feed_Fed_12 : Code := Code.r c_feed_Feed_Fed_7
noncomputable def c_feed_Feed_Fed_13 : Code := Code.r c_feed_Feed_Fed_3
noncomputable def c_feed_Feed_Fed_14 : Code := Code.l c_feed_Feed_Fed_13
noncomputable def r_feed_Feed_Fed_14 : Array Oper := Code.ops c_feed_Feed_Fed_14
noncomputable def c_feed_Feed_Fed_16 : Code := Code.r c_feed_Feed_Fed_13

set_option maxRecDepth 100000 in
set_option maxHeartbeats 4000000 in
theorem S_feed_Feed_Fed {f : Option Addr} {w : World} {R : Int → World → Prop} (h : F_feed_Feed_Fed f R w) : C_feed_Feed_Fed f w R := by
  unfold F_feed_Feed_Fed at h
  unfold C_feed_Feed_Fed
  refine Calls.mono (calls_of_wpE (args := [Value.pointer f]) (R := fun v w' => ∃ (r0 : Int), v = Value.int .i64 r0 ∧ R r0 w') Try.func25 (c := c_feed_Feed_Fed_0) (by kernel_rfl) 10 (by kernel_rfl) (by kernel_rfl) [(0, Value.pointer f)] (by kernel_rfl) ?_) ?_
  · refine wpE_seq (x := c_feed_Feed_Fed_1) (y := c_feed_Feed_Fed_3) (by kernel_rfl) ?_
    refine wpE_region (id := 0) (ops := r_feed_Feed_Fed_1) (by kernel_rfl) ?_
    refine reg_run [.plain] 1 [(0, [], Value.pointer f)] (by kernel_rfl) (by kernel_rfl) ?_
    refine reg_end [(0, Value.pointer f)] (by kernel_rfl) (by kernel_rfl) ?_
    change WpE _ _ c_feed_Feed_Fed_3 _ _ _
    refine wpE_seq (x := c_feed_Feed_Fed_4) (y := c_feed_Feed_Fed_13) (by kernel_rfl) ?_
    refine wpE_seq (x := c_feed_Feed_Fed_5) (y := c_feed_Feed_Fed_7) (by kernel_rfl) ?_
    refine wpE_region (id := 1) (ops := r_feed_Feed_Fed_5) (by kernel_rfl) ?_
    refine reg_run [.plain] 1 [(0, [], Value.pointer f), (3, [], Value.pointer f)] (by kernel_rfl) (by kernel_rfl) ?_
    refine reg_enter (op := (Go.Op.call (Go.Call.mk (Go.Callee.value (Go.Operand.func 46)) #[(Go.Operand.tmp 3)] #[26]))) (ty := 4) (dst := some 4) 46 #[Value.pointer f] (by kernel_rfl) (fun ww => by kernel_rfl) (Calls.mono h ?_)
    rintro _ w1 ⟨v4, rfl, h⟩
    refine ⟨_, rfl, ?_⟩
    refine reg_run [.plain] 3 [(0, [], Value.pointer f), (5, [], Value.bool (!v4))] (by kernel_rfl) (by kernel_rfl) ?_
    refine reg_end [(0, Value.pointer f), (5, Value.bool (!v4))] (by kernel_rfl) (by kernel_rfl) ?_
    change WpE _ _ c_feed_Feed_Fed_7 _ _ _
    refine wpE_cond (o := (Operand.tmp 5)) (b := (!v4)) (x := c_feed_Feed_Fed_8) (y := c_feed_Feed_Fed_12) (by kernel_rfl) (by kernel_rfl) (fun hb => ?_) (fun hb => ?_)
    · replace h := h.1 hb
      refine wpE_seq (x := c_feed_Feed_Fed_9) (y := c_feed_Feed_Fed_11) (by kernel_rfl) ?_
      refine wpE_region (id := 2) (ops := r_feed_Feed_Fed_9) (by kernel_rfl) ?_
      refine reg_run [.plain] 1 [(2, [], Value.int .i64 0)] (by kernel_rfl) (by kernel_rfl) ?_
      refine reg_end [(2, Value.int .i64 0)] (by kernel_rfl) (by kernel_rfl) ?_
      change WpE _ _ c_feed_Feed_Fed_11 _ _ _
      refine wpE_ret (by kernel_rfl) ?_
      repeat (first | refine seqQ_ret ?_ | refine blockQ_ret ?_ | refine loopQ_ret ?_ | refine cutQ_ret ?_)
      exact retS (rs := [(Go.ResultVar.tmp 2)]) (v := Value.int .i64 0) (by kernel_rfl) (⟨by kernel_rfl, trivial⟩) ⟨0, rfl, h⟩
    · replace h := h.2 hb
      refine wpE_skip (by kernel_rfl) ?_
      change WpE _ _ c_feed_Feed_Fed_13 _ _ _
      refine wpE_seq (x := c_feed_Feed_Fed_14) (y := c_feed_Feed_Fed_16) (by kernel_rfl) ?_
      refine wpE_region (id := 3) (ops := r_feed_Feed_Fed_14) (by kernel_rfl) ?_
      refine reg_run [.plain] 1 [(6, [], Value.pointer f)] (by kernel_rfl) (by kernel_rfl) ?_
      obtain ⟨hp_0, h⟩ := h
      refine reg_conv [(6, [], Value.pointer (some ⟨(pblk f), (poff f), none⟩))] (congrArg (fun pp => ([(6, [], Value.pointer pp)] : GEnv)) hp_0) ?_
      refine reg_run [.plain] 2 [(6, [], Value.pointer (some ⟨(pblk f), (poff f), none⟩)), (7, [], Value.pointer (some ⟨(pblk f), (poff f), none⟩))] (by kernel_rfl) (by kernel_rfl) ?_
      refine reg_run [.plain] 3 [(8, [], Value.pointer (some ⟨(pblk f), (poff f) + 2, none⟩))] (by kernel_rfl) (by kernel_rfl) ?_
      obtain ⟨v9, hc, h⟩ := h
      refine reg_load1 (t := 3) (a := (Go.Operand.tmp 8)) (b := (pblk f)) (o := ((poff f) + 2)) (ty := 3) (dst := some 9) (by kernel_rfl) (by kernel_rfl) (by kernel_rfl) hc ?_
      refine reg_run [.plain] 5 [(2, [], Value.int .i64 v9)] (by kernel_rfl) (by kernel_rfl) ?_
      refine reg_end [(2, Value.int .i64 v9)] (by kernel_rfl) (by kernel_rfl) ?_
      change WpE _ _ c_feed_Feed_Fed_16 _ _ _
      refine wpE_ret (by kernel_rfl) ?_
      repeat (first | refine seqQ_ret ?_ | refine blockQ_ret ?_ | refine loopQ_ret ?_ | refine cutQ_ret ?_)
      exact retS (rs := [(Go.ResultVar.tmp 2)]) (v := Value.int .i64 v9) (by kernel_rfl) (⟨by kernel_rfl, trivial⟩) ⟨v9, rfl, h⟩
  · rintro e w' ⟨v, rfl, r0, rfl, h⟩; exact ⟨r0, rfl, h⟩
end Go.Proofs.Ytpedclhflmhakaa
