/- WRITTEN BY PROGRAM (dec.py): for each Go function the clean formula F, the call's contract C, and the proof S that F gives C. -/
import Derived.Test.YtfmkemmgakdddaaGreatDoorRows
import Derived.Test.YtfmkemmgakdddaaGreatDoorGF
namespace Go.Proofs.YtfmkemmgakdddaaGreatDoor
open Go
set_option linter.unusedVariables false
set_option maxRecDepth 100000
set_option maxHeartbeats 4000000

/-! ### (*towpath/towpathlaw01.Book).lookHeldList (function 63) -/
noncomputable def c63_0 := (Tryz.f63.body).getD Code.skip
noncomputable def c63_3 := Code.r c63_0
noncomputable def c63_4 := Code.l c63_3
noncomputable def c63_7 := Code.r c63_4
noncomputable def c63_8 := Code.l c63_7
noncomputable def c63_9 := Code.l c63_8
noncomputable def c63_10 := Code.l c63_9
noncomputable def c63_11 := Code.l c63_10
noncomputable def r63_11 := Code.ops c63_11
noncomputable def c63_13 := Code.r c63_10
noncomputable def c63_14 := Code.l c63_13
noncomputable def c63_15 := Code.r c63_13
noncomputable def c63_16 := Code.r c63_9
noncomputable def c63_58 := Code.r c63_3
noncomputable def c63_61 := Code.r c63_58

theorem S_towpathlaw01_Book_lookHeldList {b_ : Option Addr} {w : World} {R : Bool → World → Prop} (h : F_towpathlaw01_Book_lookHeldList b_ R w) : C_towpathlaw01_Book_lookHeldList b_ w R := by
  unfold F_towpathlaw01_Book_lookHeldList at h
  unfold C_towpathlaw01_Book_lookHeldList
  refine Calls.mono (calls_of_wpE (args := [Value.pointer b_]) (R := fun v w' => ∃ (r0 : Bool), v = Value.bool r0 ∧ R r0 w') Tryz.func63 (c := c63_0) (by kernel_rfl) 64 (by kernel_rfl) (by kernel_rfl) [(0, Value.pointer b_)] (by kernel_rfl) ?_) ?_
  · refine Zp c63_3 P1 [(0, .pointer b_)] ?_
    refine Zs c63_4 c63_58 ?_
    refine Zp c63_7 P1 [(0, .pointer b_), (3, .int .i64 0)] ?_
    refine Zb 0 c63_8 ?_
    obtain ⟨I, μ, h0, hr⟩ := h
    refine wpE_loop (x := c63_9) (by kernel_rfl) (fun m l w => ∃ (i : Int), l = [(0, Value.pointer b_), (3, Value.int .i64 i)] ∧ I i w ∧ μ i w = m) (l' := [(0, Value.pointer b_), (3, Value.int .i64 0)]) (Sub.mk (by kernel_rfl)) ⟨0, rfl, h0, rfl⟩ ?_
    rintro _ _ w1 ⟨i, rfl, hI, rfl⟩
    obtain ⟨again_, again__h, h⟩ : ∃ again_ : Int → World → Prop, (∀ i' w', again_ i' w' → I i' w' ∧ μ i' w' < μ i w1) ∧ F_towpathlaw01_Book_lookHeldList_L0 b_ R again_ i w1 := ⟨_, fun _ _ h => h, hr i w1 hI⟩
    clear h0 hI
    unfold F_towpathlaw01_Book_lookHeldList_L0 at h
    refine Zs c63_10 c63_16 ?_
    refine Zt r63_11 c63_13 ?_
    refine Zn P2 2 [(0, [], .pointer b_), (3, [], .int .i64 i), (6, [], .int .i64 i), (7, [], .pointer b_)] ?_
    obtain ⟨hp_7, h⟩ := h
    refine Zv (fun pp => [(0, [], .pointer b_), (3, [], .int .i64 i), (6, [], .int .i64 i), (7, [], .pointer pp)]) hp_7 ?_
    refine Zn P1 3 [(0, [], .pointer b_), (3, [], .int .i64 i), (6, [], .int .i64 i), (7, [], .pointer (some ⟨(pblk b_), (poff b_), none⟩)), (8, [], .pointer (some ⟨(pblk b_), (poff b_), none⟩))] ?_
    refine Zn P1 4 [(0, [], .pointer b_), (3, [], .int .i64 i), (6, [], .int .i64 i), (9, [], .pointer (some ⟨(pblk b_), (poff b_) + 9, none⟩))] ?_
    obtain ⟨v10, hc, h⟩ := h
    refine Zl 45 9 (pblk b_) ((poff b_) + 9) 45 10 hc ?_
    refine Zf P2 [(0, .pointer b_), (3, .int .i64 i), (12, .bool (decide (i < ((v10.len : Nat) : Int))))] ?_
    change WpE _ _ c63_13 _ _ _
    refine Zc 12 (decide (i < ((v10.len : Nat) : Int))) c63_14 c63_15 (fun hb => ?_) (fun hb => ?_)
    · replace h := h.1 hb
      exact h.elim
    · replace h := h.2 hb
      refine wpE_exit (id := 0) (by kernel_rfl) ?_
      change WpE _ _ c63_58 _ _ _
      refine Zp c63_61 P1 [(2, .bool true)] ?_
      refine wpE_ret (by kernel_rfl) ?_
      repeat (first | refine seqQ_ret ?_ | refine blockQ_ret ?_ | refine loopQ_ret ?_ | refine cutQ_ret ?_)
      exact retS (rs := [(ResultVar.tmp 2)]) (v := Value.bool true) (by kernel_rfl) (⟨by kernel_rfl, trivial⟩) ⟨true, rfl, h⟩
  · rintro e w' ⟨v, rfl, r0, rfl, h⟩; exact ⟨r0, rfl, h⟩

/-! ### (*towpath/towpathlaw01.Book).lookEvent (function 64) -/
noncomputable def c64_0 := (Tryz.f64.body).getD Code.skip
noncomputable def c64_3 := Code.r c64_0
noncomputable def c64_4 := Code.l c64_3
noncomputable def c64_7 := Code.r c64_4
noncomputable def c64_8 := Code.l c64_7
noncomputable def c64_9 := Code.l c64_8
noncomputable def c64_10 := Code.l c64_9
noncomputable def c64_11 := Code.l c64_10
noncomputable def r64_11 := Code.ops c64_11
noncomputable def c64_13 := Code.r c64_10
noncomputable def c64_14 := Code.l c64_13
noncomputable def c64_15 := Code.r c64_13
noncomputable def c64_16 := Code.r c64_9
noncomputable def c64_58 := Code.r c64_3
noncomputable def c64_61 := Code.r c64_58

theorem S_towpathlaw01_Book_lookEvent {b_ : Option Addr} {w : World} {R : Bool → World → Prop} (h : F_towpathlaw01_Book_lookEvent b_ R w) : C_towpathlaw01_Book_lookEvent b_ w R := by
  unfold F_towpathlaw01_Book_lookEvent at h
  unfold C_towpathlaw01_Book_lookEvent
  refine Calls.mono (calls_of_wpE (args := [Value.pointer b_]) (R := fun v w' => ∃ (r0 : Bool), v = Value.bool r0 ∧ R r0 w') Tryz.func64 (c := c64_0) (by kernel_rfl) 64 (by kernel_rfl) (by kernel_rfl) [(0, Value.pointer b_)] (by kernel_rfl) ?_) ?_
  · refine Zp c64_3 P1 [(0, .pointer b_)] ?_
    refine Zs c64_4 c64_58 ?_
    refine Zp c64_7 P1 [(0, .pointer b_), (3, .int .i64 0)] ?_
    refine Zb 0 c64_8 ?_
    obtain ⟨I, μ, h0, hr⟩ := h
    refine wpE_loop (x := c64_9) (by kernel_rfl) (fun m l w => ∃ (i : Int), l = [(0, Value.pointer b_), (3, Value.int .i64 i)] ∧ I i w ∧ μ i w = m) (l' := [(0, Value.pointer b_), (3, Value.int .i64 0)]) (Sub.mk (by kernel_rfl)) ⟨0, rfl, h0, rfl⟩ ?_
    rintro _ _ w1 ⟨i, rfl, hI, rfl⟩
    obtain ⟨again_, again__h, h⟩ : ∃ again_ : Int → World → Prop, (∀ i' w', again_ i' w' → I i' w' ∧ μ i' w' < μ i w1) ∧ F_towpathlaw01_Book_lookEvent_L0 b_ R again_ i w1 := ⟨_, fun _ _ h => h, hr i w1 hI⟩
    clear h0 hI
    unfold F_towpathlaw01_Book_lookEvent_L0 at h
    refine Zs c64_10 c64_16 ?_
    refine Zt r64_11 c64_13 ?_
    refine Zn P2 2 [(0, [], .pointer b_), (3, [], .int .i64 i), (6, [], .int .i64 i), (7, [], .pointer b_)] ?_
    obtain ⟨hp_7, h⟩ := h
    refine Zv (fun pp => [(0, [], .pointer b_), (3, [], .int .i64 i), (6, [], .int .i64 i), (7, [], .pointer pp)]) hp_7 ?_
    refine Zn P1 3 [(0, [], .pointer b_), (3, [], .int .i64 i), (6, [], .int .i64 i), (7, [], .pointer (some ⟨(pblk b_), (poff b_), none⟩)), (8, [], .pointer (some ⟨(pblk b_), (poff b_), none⟩))] ?_
    refine Zn P1 4 [(0, [], .pointer b_), (3, [], .int .i64 i), (6, [], .int .i64 i), (9, [], .pointer (some ⟨(pblk b_), (poff b_) + 10, none⟩))] ?_
    obtain ⟨v10, hc, h⟩ := h
    refine Zl 46 9 (pblk b_) ((poff b_) + 10) 46 10 hc ?_
    refine Zf P2 [(0, .pointer b_), (3, .int .i64 i), (12, .bool (decide (i < ((v10.len : Nat) : Int))))] ?_
    change WpE _ _ c64_13 _ _ _
    refine Zc 12 (decide (i < ((v10.len : Nat) : Int))) c64_14 c64_15 (fun hb => ?_) (fun hb => ?_)
    · replace h := h.1 hb
      exact h.elim
    · replace h := h.2 hb
      refine wpE_exit (id := 0) (by kernel_rfl) ?_
      change WpE _ _ c64_58 _ _ _
      refine Zp c64_61 P1 [(2, .bool true)] ?_
      refine wpE_ret (by kernel_rfl) ?_
      repeat (first | refine seqQ_ret ?_ | refine blockQ_ret ?_ | refine loopQ_ret ?_ | refine cutQ_ret ?_)
      exact retS (rs := [(ResultVar.tmp 2)]) (v := Value.bool true) (by kernel_rfl) (⟨by kernel_rfl, trivial⟩) ⟨true, rfl, h⟩
  · rintro e w' ⟨v, rfl, r0, rfl, h⟩; exact ⟨r0, rfl, h⟩

/-! ### (*towpath/towpathlaw01.Book).lookAnswer (function 65) -/
noncomputable def c65_0 := (Tryz.f65.body).getD Code.skip
noncomputable def c65_3 := Code.r c65_0
noncomputable def c65_4 := Code.l c65_3
noncomputable def c65_7 := Code.r c65_4
noncomputable def c65_8 := Code.l c65_7
noncomputable def c65_9 := Code.l c65_8
noncomputable def c65_10 := Code.l c65_9
noncomputable def c65_11 := Code.l c65_10
noncomputable def r65_11 := Code.ops c65_11
noncomputable def c65_13 := Code.r c65_10
noncomputable def c65_14 := Code.l c65_13
noncomputable def c65_15 := Code.r c65_13
noncomputable def c65_16 := Code.r c65_9
noncomputable def c65_58 := Code.r c65_3
noncomputable def c65_61 := Code.r c65_58

theorem S_towpathlaw01_Book_lookAnswer {b_ : Option Addr} {w : World} {R : Bool → World → Prop} (h : F_towpathlaw01_Book_lookAnswer b_ R w) : C_towpathlaw01_Book_lookAnswer b_ w R := by
  unfold F_towpathlaw01_Book_lookAnswer at h
  unfold C_towpathlaw01_Book_lookAnswer
  refine Calls.mono (calls_of_wpE (args := [Value.pointer b_]) (R := fun v w' => ∃ (r0 : Bool), v = Value.bool r0 ∧ R r0 w') Tryz.func65 (c := c65_0) (by kernel_rfl) 64 (by kernel_rfl) (by kernel_rfl) [(0, Value.pointer b_)] (by kernel_rfl) ?_) ?_
  · refine Zp c65_3 P1 [(0, .pointer b_)] ?_
    refine Zs c65_4 c65_58 ?_
    refine Zp c65_7 P1 [(0, .pointer b_), (3, .int .i64 0)] ?_
    refine Zb 0 c65_8 ?_
    obtain ⟨I, μ, h0, hr⟩ := h
    refine wpE_loop (x := c65_9) (by kernel_rfl) (fun m l w => ∃ (i : Int), l = [(0, Value.pointer b_), (3, Value.int .i64 i)] ∧ I i w ∧ μ i w = m) (l' := [(0, Value.pointer b_), (3, Value.int .i64 0)]) (Sub.mk (by kernel_rfl)) ⟨0, rfl, h0, rfl⟩ ?_
    rintro _ _ w1 ⟨i, rfl, hI, rfl⟩
    obtain ⟨again_, again__h, h⟩ : ∃ again_ : Int → World → Prop, (∀ i' w', again_ i' w' → I i' w' ∧ μ i' w' < μ i w1) ∧ F_towpathlaw01_Book_lookAnswer_L0 b_ R again_ i w1 := ⟨_, fun _ _ h => h, hr i w1 hI⟩
    clear h0 hI
    unfold F_towpathlaw01_Book_lookAnswer_L0 at h
    refine Zs c65_10 c65_16 ?_
    refine Zt r65_11 c65_13 ?_
    refine Zn P2 2 [(0, [], .pointer b_), (3, [], .int .i64 i), (6, [], .int .i64 i), (7, [], .pointer b_)] ?_
    obtain ⟨hp_7, h⟩ := h
    refine Zv (fun pp => [(0, [], .pointer b_), (3, [], .int .i64 i), (6, [], .int .i64 i), (7, [], .pointer pp)]) hp_7 ?_
    refine Zn P1 3 [(0, [], .pointer b_), (3, [], .int .i64 i), (6, [], .int .i64 i), (7, [], .pointer (some ⟨(pblk b_), (poff b_), none⟩)), (8, [], .pointer (some ⟨(pblk b_), (poff b_), none⟩))] ?_
    refine Zn P1 4 [(0, [], .pointer b_), (3, [], .int .i64 i), (6, [], .int .i64 i), (9, [], .pointer (some ⟨(pblk b_), (poff b_) + 11, none⟩))] ?_
    obtain ⟨v10, hc, h⟩ := h
    refine Zl 47 9 (pblk b_) ((poff b_) + 11) 47 10 hc ?_
    refine Zf P2 [(0, .pointer b_), (3, .int .i64 i), (12, .bool (decide (i < ((v10.len : Nat) : Int))))] ?_
    change WpE _ _ c65_13 _ _ _
    refine Zc 12 (decide (i < ((v10.len : Nat) : Int))) c65_14 c65_15 (fun hb => ?_) (fun hb => ?_)
    · replace h := h.1 hb
      exact h.elim
    · replace h := h.2 hb
      refine wpE_exit (id := 0) (by kernel_rfl) ?_
      change WpE _ _ c65_58 _ _ _
      refine Zp c65_61 P1 [(2, .bool true)] ?_
      refine wpE_ret (by kernel_rfl) ?_
      repeat (first | refine seqQ_ret ?_ | refine blockQ_ret ?_ | refine loopQ_ret ?_ | refine cutQ_ret ?_)
      exact retS (rs := [(ResultVar.tmp 2)]) (v := Value.bool true) (by kernel_rfl) (⟨by kernel_rfl, trivial⟩) ⟨true, rfl, h⟩
  · rintro e w' ⟨v, rfl, r0, rfl, h⟩; exact ⟨r0, rfl, h⟩

/-! ### (*towpath/towpathlaw01.Book).keepWrite (function 71) -/
noncomputable def c71_0 := (Tryz.f71.body).getD Code.skip
noncomputable def c71_1 := Code.l c71_0
noncomputable def r71_1 := Code.ops c71_1
noncomputable def c71_3 := Code.r c71_0
noncomputable def r71_3 := Code.ops c71_3
def o_towpathlaw01_Book_keepWrite_3 : List Nat := [0, 1, 2, 3, 4, 5, 6, 7, 8, 9, 10, 11, 12, 13, 14, 15]

theorem S_towpathlaw01_Book_keepWrite {b_ : Option Addr} {l_ : Slc} {w : World} {R : World → Prop} (h : F_towpathlaw01_Book_keepWrite b_ l_ R w) : C_towpathlaw01_Book_keepWrite b_ l_ w R := by
  unfold F_towpathlaw01_Book_keepWrite at h
  unfold C_towpathlaw01_Book_keepWrite
  refine Calls.mono (calls_of_wpE (args := [Value.pointer b_, Value.slice l_.ptr l_.len l_.cap]) (R := fun v w' => v = Value.tuple #[] ∧ R w') Tryz.func71 (c := c71_0) (by kernel_rfl) 26 (by kernel_rfl) (by kernel_rfl) [(0, Value.pointer b_), (1, Value.slice l_.ptr l_.len l_.cap)] (by kernel_rfl) ?_) ?_
  · refine Zt r71_1 c71_3 ?_
    refine Zn P1 1 [(0, [], .pointer b_), (1, [], .slice l_.ptr l_.len l_.cap), (4, [], .pointer b_)] ?_
    obtain ⟨hp_1, h⟩ := h
    refine Zv (fun pp => [(0, [], .pointer b_), (1, [], .slice l_.ptr l_.len l_.cap), (4, [], .pointer pp)]) hp_1 ?_
    refine Zn P1 2 [(0, [], .pointer b_), (1, [], .slice l_.ptr l_.len l_.cap), (4, [], .pointer (some ⟨(pblk b_), (poff b_), none⟩)), (5, [], .pointer (some ⟨(pblk b_), (poff b_), none⟩))] ?_
    refine Zn P1 3 [(0, [], .pointer b_), (1, [], .slice l_.ptr l_.len l_.cap), (4, [], .pointer (some ⟨(pblk b_), (poff b_), none⟩)), (6, [], .pointer (some ⟨(pblk b_), (poff b_), none⟩))] ?_
    obtain ⟨v7, hc, h⟩ := h
    refine Zl 3 6 (pblk b_) (poff b_) 3 7 hc ?_
    refine Zn P3 7 [(0, [], .pointer b_), (1, [], .slice l_.ptr l_.len l_.cap), (8, [], .int .i64 (IntKind.i64.wrap (v7 + 1))), (10, [], .pointer (some ⟨(pblk b_), (poff b_), none⟩))] ?_
    obtain ⟨hc, h⟩ := h
    refine Zo 3 10 8 (pblk b_) (poff b_) 1 [.int .i64 (IntKind.i64.wrap (v7 + 1))] hc (fun w1 hw => ?_)
    replace h := h w1 hw
    clear hw
    refine Ze [(0, .pointer b_), (1, .slice l_.ptr l_.len l_.cap)] ?_
    change WpE _ _ c71_3 _ _ _
    refine wpE_mixregion (id := 1) (ops := r71_3) o_towpathlaw01_Book_keepWrite_3 (by kernel_rfl) (by kernel_rfl) (by kernel_rfl) (by kernel_rfl) (fun w2 hw => ?_)
    replace h := h w2 hw
    clear hw
    refine mreg_run P2 2 [(0, [], Value.pointer b_), (1, [], Value.slice l_.ptr l_.len l_.cap), (11, [], Value.pointer b_), (12, [], Value.pointer b_)] (by kernel_rfl) (by kernel_rfl) ?_
    obtain ⟨hp_2, h⟩ := h
    refine mreg_conv [(0, [], Value.pointer b_), (1, [], Value.slice l_.ptr l_.len l_.cap), (11, [], Value.pointer b_), (12, [], Value.pointer (some ⟨(pblk b_), (poff b_), none⟩))] (congrArg (fun pp => ([(0, [], Value.pointer b_), (1, [], Value.slice l_.ptr l_.len l_.cap), (11, [], Value.pointer b_), (12, [], Value.pointer pp)] : GEnv)) hp_2) ?_
    refine mreg_run P1 3 [(0, [], Value.pointer b_), (1, [], Value.slice l_.ptr l_.len l_.cap), (11, [], Value.pointer b_), (12, [], Value.pointer (some ⟨(pblk b_), (poff b_), none⟩)), (13, [], Value.pointer (some ⟨(pblk b_), (poff b_), none⟩))] (by kernel_rfl) (by kernel_rfl) ?_
    refine mreg_run P1 4 [(0, [], Value.pointer b_), (1, [], Value.slice l_.ptr l_.len l_.cap), (11, [], Value.pointer b_), (14, [], Value.pointer (some ⟨(pblk b_), (poff b_) + 4, none⟩))] (by kernel_rfl) (by kernel_rfl) ?_
    obtain ⟨v15, hc, h⟩ := h
    refine mreg_load1 (i := 4) (by kernel_rfl) (t := 40) (a := (Operand.tmp 14)) (b := (pblk b_)) (o := ((poff b_) + 4)) (ty := 40) (dst := some 15) (by kernel_rfl) (by kernel_rfl) (by kernel_rfl) hc ?_
    refine mreg_run P2 7 [(11, [], Value.pointer b_), (15, [], Value.slice v15.ptr v15.len v15.cap), (16, [], Value.slice l_.ptr l_.len l_.cap), (17, [], Value.pointer b_)] (by kernel_rfl) (by kernel_rfl) ?_
    obtain ⟨hp_3, h⟩ := h
    refine mreg_conv [(11, [], Value.pointer b_), (15, [], Value.slice v15.ptr v15.len v15.cap), (16, [], Value.slice l_.ptr l_.len l_.cap), (17, [], Value.pointer (some ⟨(pblk b_), (poff b_), none⟩))] (congrArg (fun pp => ([(11, [], Value.pointer b_), (15, [], Value.slice v15.ptr v15.len v15.cap), (16, [], Value.slice l_.ptr l_.len l_.cap), (17, [], Value.pointer pp)] : GEnv)) hp_3) ?_
    refine mreg_run P1 8 [(11, [], Value.pointer b_), (15, [], Value.slice v15.ptr v15.len v15.cap), (16, [], Value.slice l_.ptr l_.len l_.cap), (17, [], Value.pointer (some ⟨(pblk b_), (poff b_), none⟩)), (18, [], Value.pointer (some ⟨(pblk b_), (poff b_), none⟩))] (by kernel_rfl) (by kernel_rfl) ?_
    refine mreg_run P1 9 [(11, [], Value.pointer b_), (15, [], Value.slice v15.ptr v15.len v15.cap), (16, [], Value.slice l_.ptr l_.len l_.cap), (19, [], Value.pointer (some ⟨(pblk b_), (poff b_), none⟩))] (by kernel_rfl) (by kernel_rfl) ?_
    obtain ⟨v20, hc, h⟩ := h
    refine mreg_load1 (i := 9) (by kernel_rfl) (t := 3) (a := (Operand.tmp 19)) (b := (pblk b_)) (o := (poff b_)) (ty := 3) (dst := some 20) (by kernel_rfl) (by kernel_rfl) (by kernel_rfl) hc ?_
    refine mreg_run P1 11 [(11, [], Value.pointer b_), (15, [], Value.slice v15.ptr v15.len v15.cap), (21, [], Value.agg #[Value.slice l_.ptr l_.len l_.cap, Value.slice none 0 0, Value.int .i64 v20])] (by kernel_rfl) (by kernel_rfl) ?_
    refine mreg_new (op := (Op.buildSlice 40 1 #[(0, (Operand.tmp 21))])) (ty := 40) (dst := some 22) 11 [10, 5, 9, 8, 7, 6] [(4, fun w' => w'.cell? ⟨(pblk b_), (poff b_) + 4, none⟩ = some (Value.slice v15.ptr v15.len v15.cap))] (fun bb => Value.slice (some ⟨bb, 0, none⟩) 1 1) (Obj.cells ([Value.slice l_.ptr l_.len l_.cap, Value.slice none 0 0, Value.int .i64 v20]).toArray ty_towpathlaw01_heldWrite (0, 0)) (by kernel_rfl) (by kernel_rfl) (by kernel_rfl) (by kernel_rfl) (by kernel_rfl) (by kernel_rfl) (fun b_1 w3 hb hw => ?_)
    replace h := h b_1 w3 hb hw
    clear hb hw
    obtain ⟨hk0, h⟩ := h
    refine ⟨⟨hk0, trivial⟩, ?_⟩
    refine mreg_run [] 12 [(11, [], Value.pointer b_), (15, [], Value.slice v15.ptr v15.len v15.cap), (22, [], Value.slice (some ⟨b_1, 0, none⟩) 1 1)] (by kernel_rfl) (by kernel_rfl) ?_
    obtain ⟨src, hs, h⟩ := h
    refine mreg_append (t := 40) (tx := 40) (e := 91) (a := (Operand.tmp 15)) (xo := (Operand.tmp 22)) (s := v15) (x := (Slc.mk (some ⟨b_1, 0, none⟩) 1 1)) (sz := 3) (by_ := 56) (zs := [Value.slice none 0 0, Value.slice none 0 0, Value.int .i64 0]) (ty := 40) (dst := some 23) 12 [4, 11, 3, 10, 2, 5, 9, 1, 8, 7, 6] [] src (by kernel_rfl) (by kernel_rfl) (by kernel_rfl) (by kernel_rfl) (by kernel_rfl) (by kernel_rfl) (by kernel_rfl) (by kernel_rfl) (by kernel_rfl) (by kernel_rfl) (by kernel_rfl) (by kernel_rfl) (by kernel_rfl) hs (AppendW.mono h (fun v23 w4 h => ?_))
    refine ⟨trivial, ?_⟩
    refine mreg_run [] 13 [(11, [], Value.pointer b_), (23, [], Value.slice v23.ptr v23.len v23.cap)] (by kernel_rfl) (by kernel_rfl) ?_
    obtain ⟨hp_4, h⟩ := h
    refine mreg_conv [(11, [], Value.pointer (some ⟨(pblk b_), (poff b_), none⟩)), (23, [], Value.slice v23.ptr v23.len v23.cap)] (congrArg (fun pp => ([(11, [], Value.pointer pp), (23, [], Value.slice v23.ptr v23.len v23.cap)] : GEnv)) hp_4) ?_
    refine mreg_run P1 14 [(11, [], Value.pointer (some ⟨(pblk b_), (poff b_), none⟩)), (23, [], Value.slice v23.ptr v23.len v23.cap), (24, [], Value.pointer (some ⟨(pblk b_), (poff b_), none⟩))] (by kernel_rfl) (by kernel_rfl) ?_
    refine mreg_run P1 15 [(23, [], Value.slice v23.ptr v23.len v23.cap), (25, [], Value.pointer (some ⟨(pblk b_), (poff b_) + 4, none⟩))] (by kernel_rfl) (by kernel_rfl) ?_
    obtain ⟨hc, h⟩ := h
    refine mreg_store (t := 40) (a := (Operand.tmp 25)) (x := (Operand.tmp 23)) (b := (pblk b_)) (o := ((poff b_) + 4)) (k := 1) (ty := 0) (dst := none) 15 [0, 1, 2, 3, 4, 5, 6, 7, 8, 9, 10, 11, 12, 14, 13] [] [Value.slice v23.ptr v23.len v23.cap] (by kernel_rfl) (by kernel_rfl) (by kernel_rfl) (by kernel_rfl) (by kernel_rfl) (by kernel_rfl) (by kernel_rfl) (by kernel_rfl) (by kernel_rfl) (by kernel_rfl) hc (fun w5 hw => ?_)
    replace h := h w5 hw
    clear hw
    refine ⟨trivial, ?_⟩
    refine mreg_end [] (by kernel_rfl) (by kernel_rfl) (by kernel_rfl) ?_
    repeat (first | refine seqQ_exit ?_ | refine loopQ_exit ?_ | refine cutQ_exit ?_ | refine blockQ_hit ?_ | refine blockQ_miss (by kernel_rfl) ?_)
    refine retQ_normal ?_
    repeat (first | refine seqQ_ret ?_ | refine blockQ_ret ?_ | refine loopQ_ret ?_ | refine cutQ_ret ?_)
    exact retT (rs := []) (vs := []) (by kernel_rfl) (trivial) (by kernel_rfl) ⟨rfl, h⟩
  · rintro e w' ⟨v, rfl, rfl, h⟩; exact ⟨rfl, h⟩

/-! ### towpath/towpathlaw01.markByte (function 72) -/
noncomputable def c72_0 := (Tryz.f72.body).getD Code.skip
noncomputable def c72_3 := Code.r c72_0
noncomputable def c72_6 := Code.r c72_3

theorem S_towpathlaw01_markByte {n_ : Int} {w : World} {R : Int → World → Prop} (h : F_towpathlaw01_markByte n_ R w) : C_towpathlaw01_markByte n_ w R := by
  unfold F_towpathlaw01_markByte at h
  unfold C_towpathlaw01_markByte
  refine Calls.mono (calls_of_wpE (args := [Value.int .i64 n_]) (R := fun v w' => ∃ (r0 : Int), v = Value.int .u8 r0 ∧ R r0 w') Tryz.func72 (c := c72_0) (by kernel_rfl) 7 (by kernel_rfl) (by kernel_rfl) [(0, Value.int .i64 n_)] (by kernel_rfl) ?_) ?_
  · refine Zp c72_3 P1 [(0, .int .i64 n_)] ?_
    refine Zp c72_6 (Pl 5) [(2, .int .u8 (IntKind.u8.wrap (IntKind.i64.wrap (1 + (Int.tmod n_ 255)))))] ?_
    refine wpE_ret (by kernel_rfl) ?_
    repeat (first | refine seqQ_ret ?_ | refine blockQ_ret ?_ | refine loopQ_ret ?_ | refine cutQ_ret ?_)
    exact retS (rs := [(ResultVar.tmp 2)]) (v := Value.int .u8 (IntKind.u8.wrap (IntKind.i64.wrap (1 + (Int.tmod n_ 255))))) (by kernel_rfl) (⟨by kernel_rfl, trivial⟩) ⟨(IntKind.u8.wrap (IntKind.i64.wrap (1 + (Int.tmod n_ 255)))), rfl, h⟩
  · rintro e w' ⟨v, rfl, r0, rfl, h⟩; exact ⟨r0, rfl, h⟩

/-! ### towpath/towpathlaw01.markWrite (function 75) -/
noncomputable def c75_0 := (Tryz.f75.body).getD Code.skip
noncomputable def c75_1 := Code.l c75_0
noncomputable def r75_1 := Code.ops c75_1
noncomputable def c75_3 := Code.r c75_0
noncomputable def c75_4 := Code.l c75_3
noncomputable def r75_4 := Code.ops c75_4
noncomputable def c75_6 := Code.r c75_3

theorem S_towpathlaw01_markWrite {n_ : Int} {w : World} {R : T_api_Write → World → Prop} (h : F_towpathlaw01_markWrite n_ R w) : C_towpathlaw01_markWrite n_ w R := by
  unfold F_towpathlaw01_markWrite at h
  unfold C_towpathlaw01_markWrite
  refine Calls.mono (calls_of_wpE (args := [Value.int .i64 n_]) (R := fun v w' => ∃ (r0 : T_api_Write), v = Value.agg #[Value.string r0.Key, Value.string r0.Val, Value.bool r0.Drop] ∧ R r0 w') Tryz.func75 (c := c75_0) (by kernel_rfl) 6 (by kernel_rfl) (by kernel_rfl) [(0, Value.int .i64 n_)] (by kernel_rfl) ?_) ?_
  · refine Zt r75_1 c75_3 ?_
    refine Zn [] 0 [(0, [], .int .i64 n_)] ?_
    refine Zw (some 2) (fun bb => .pointer (some ⟨bb, 0, none⟩)) (Obj.cells ([.string ByteArray.empty, .string ByteArray.empty, .bool false]).toArray ty_api_Write (0, 0)) (fun b_ w1 hb hw => ?_)
    replace h := h b_ w1 hb hw
    clear hb hw
    refine Ze [(0, .int .i64 n_), (2, .pointer (some ⟨b_, 0, none⟩))] ?_
    change WpE _ _ c75_3 _ _ _
    refine Zt r75_4 c75_6 ?_
    refine Zn P1 1 [(2, [], .pointer (some ⟨b_, 0, none⟩)), (3, [], .int .i64 n_)] ?_
    refine Zm 94 #[.int .i64 n_] (some 4) (Calls.mono h ?_)
    rintro _ w2 ⟨v4, rfl, h⟩
    refine ⟨_, rfl, ?_⟩
    refine Zn P1 3 [(2, [], .pointer (some ⟨b_, 0, none⟩)), (5, [], .agg #[.string v4, .string ByteArray.empty, .bool false])] ?_
    obtain ⟨hc, h⟩ := h
    refine Zo 62 2 5 b_ 0 3 [.string v4, .string ByteArray.empty, .bool false] hc (fun w3 hw => ?_)
    replace h := h w3 hw
    clear hw
    refine Ze [(2, .pointer (some ⟨b_, 0, none⟩))] ?_
    change WpE _ _ c75_6 _ _ _
    refine wpE_ret (by kernel_rfl) ?_
    obtain ⟨res, hc_res, h⟩ := h
    repeat (first | refine seqQ_ret ?_ | refine blockQ_ret ?_ | refine loopQ_ret ?_ | refine cutQ_ret ?_)
    exact retS (rs := [(ResultVar.cell 2 62)]) (v := Value.agg #[Value.string res.Key, Value.string res.Val, Value.bool res.Drop]) (by kernel_rfl) (⟨b_, 0, [Value.string res.Key, Value.string res.Val, Value.bool res.Drop], by kernel_rfl, hc_res, (sizeP_of (k := 3) (by kernel_rfl) (by kernel_rfl)), .inl ⟨by kernel_rfl, rfl⟩, trivial⟩) ⟨res, rfl, h⟩
  · rintro e w' ⟨v, rfl, r0, rfl, h⟩; exact ⟨r0, rfl, h⟩

/-! ### towpath/towpathlaw01.isByte (function 83) -/
noncomputable def c83_0 := (Tryz.f83.body).getD Code.skip
noncomputable def c83_3 := Code.r c83_0
noncomputable def c83_6 := Code.r c83_3

theorem S_towpathlaw01_isByte {x : Int} {n_ : Int} {w : World} {R : Bool → World → Prop} (h : F_towpathlaw01_isByte x n_ R w) : C_towpathlaw01_isByte x n_ w R := by
  unfold F_towpathlaw01_isByte at h
  unfold C_towpathlaw01_isByte
  refine Calls.mono (calls_of_wpE (args := [Value.int .u8 x, Value.int .i64 n_]) (R := fun v w' => ∃ (r0 : Bool), v = Value.bool r0 ∧ R r0 w') Tryz.func83 (c := c83_0) (by kernel_rfl) 11 (by kernel_rfl) (by kernel_rfl) [(0, Value.int .u8 x), (1, Value.int .i64 n_)] (by kernel_rfl) ?_) ?_
  · refine Zp c83_3 P1 [(0, .int .u8 x), (1, .int .i64 n_)] ?_
    refine Zp c83_6 (Pl 7) [(4, .bool (x == (IntKind.u8.wrap (IntKind.i64.wrap (1 + (Int.tmod n_ 255))))))] ?_
    refine wpE_ret (by kernel_rfl) ?_
    repeat (first | refine seqQ_ret ?_ | refine blockQ_ret ?_ | refine loopQ_ret ?_ | refine cutQ_ret ?_)
    exact retS (rs := [(ResultVar.tmp 4)]) (v := Value.bool (x == (IntKind.u8.wrap (IntKind.i64.wrap (1 + (Int.tmod n_ 255)))))) (by kernel_rfl) (⟨by kernel_rfl, trivial⟩) ⟨(x == (IntKind.u8.wrap (IntKind.i64.wrap (1 + (Int.tmod n_ 255))))), rfl, h⟩
  · rintro e w' ⟨v, rfl, r0, rfl, h⟩; exact ⟨r0, rfl, h⟩

/-! ### towpath/towpathlaw01.isWrite (function 86) -/
noncomputable def c86_0 := (Tryz.f86.body).getD Code.skip
noncomputable def c86_1 := Code.l c86_0
noncomputable def r86_1 := Code.ops c86_1
noncomputable def c86_3 := Code.r c86_0
noncomputable def c86_4 := Code.l c86_3
noncomputable def r86_4 := Code.ops c86_4
noncomputable def c86_6 := Code.r c86_3
def o_towpathlaw01_isWrite_4 : List Nat := [0, 1, 2, 3, 4, 5]

theorem S_towpathlaw01_isWrite {x : T_api_Write} {n_ : Int} {w : World} {R : Bool → World → Prop} (h : F_towpathlaw01_isWrite x n_ R w) : C_towpathlaw01_isWrite x n_ w R := by
  unfold F_towpathlaw01_isWrite at h
  unfold C_towpathlaw01_isWrite
  refine Calls.mono (calls_of_wpE (args := [Value.agg #[Value.string x.Key, Value.string x.Val, Value.bool x.Drop], Value.int .i64 n_]) (R := fun v w' => ∃ (r0 : Bool), v = Value.bool r0 ∧ R r0 w') Tryz.func86 (c := c86_0) (by kernel_rfl) 10 (by kernel_rfl) (by kernel_rfl) [(0, Value.agg #[Value.string x.Key, Value.string x.Val, Value.bool x.Drop]), (1, Value.int .i64 n_)] (by kernel_rfl) ?_) ?_
  · refine Zt r86_1 c86_3 ?_
    refine Zn [] 0 [(0, [], .agg #[.string x.Key, .string x.Val, .bool x.Drop]), (1, [], .int .i64 n_)] ?_
    refine Zw (some 2) (fun bb => .pointer (some ⟨bb, 0, none⟩)) (Obj.cells ([.string x.Key, .string x.Val, .bool x.Drop]).toArray ty_api_Write (0, 0)) (fun b_ w1 hb hw => ?_)
    replace h := h b_ w1 hb hw
    clear hb hw
    refine Zf P1 [(1, .int .i64 n_), (2, .pointer (some ⟨b_, 0, none⟩))] ?_
    change WpE _ _ c86_3 _ _ _
    refine Zs c86_4 c86_6 ?_
    refine wpE_mixregion (id := 1) (ops := r86_4) o_towpathlaw01_isWrite_4 (by kernel_rfl) (by kernel_rfl) (by kernel_rfl) (by kernel_rfl) (fun w2 hw => ?_)
    replace h := h w2 hw
    clear hw
    refine mreg_run [] 0 [(1, [], Value.int .i64 n_), (2, [], Value.pointer (some ⟨b_, 0, none⟩))] (by kernel_rfl) (by kernel_rfl) ?_
    obtain ⟨v5, hc, h⟩ := h
    refine mreg_loadN (i := 0) (by kernel_rfl) (t := 62) (a := (Operand.tmp 2)) (b := b_) (o := 0) (ty := 62) (dst := some 5) [Value.string v5.Key, Value.string v5.Val, Value.bool v5.Drop] (by kernel_rfl) (by kernel_rfl) (by kernel_rfl) (k := 3) (by kernel_rfl) (by kernel_rfl) hc ?_
    refine mreg_run P1 2 [(5, [], Value.agg #[Value.string v5.Key, Value.string v5.Val, Value.bool v5.Drop]), (6, [], Value.int .i64 n_)] (by kernel_rfl) (by kernel_rfl) ?_
    refine mreg_enter (op := (Op.call (Call.mk (Callee.value (Operand.func 94)) #[(Operand.tmp 6)] #[3]))) (ty := 9) (dst := some 7) 2 [1] [(0, fun w' => CellsAt w' b_ 0 [Value.string v5.Key, Value.string v5.Val, Value.bool v5.Drop])] 94 #[Value.int .i64 n_] (by kernel_rfl) (by kernel_rfl) (by kernel_rfl) (by kernel_rfl) (by kernel_rfl) (fun ww => by kernel_rfl) (Calls.mono h ?_)
    rintro _ w3 ⟨v7, rfl, h⟩
    obtain ⟨hk0, h⟩ := h
    refine ⟨_, rfl, ⟨hk0, trivial⟩, ?_⟩
    refine mreg_run P1 4 [(5, [], Value.agg #[Value.string v5.Key, Value.string v5.Val, Value.bool v5.Drop]), (8, [], Value.agg #[Value.string v7, Value.string ByteArray.empty, Value.bool false])] (by kernel_rfl) (by kernel_rfl) ?_
    refine mreg_val (i := 4) (by kernel_rfl) (op := (Op.binOp BinOp.eql 62 (Operand.tmp 5) (Operand.tmp 8) 62)) (ty := 4) (dst := some 9) (Value.bool (((v5.Key == v7) && (v5.Val == ByteArray.empty)) && (v5.Drop == false))) (by kernel_rfl) (fun ww => run_struct_eql (xs := [Value.string v5.Key, Value.string v5.Val, Value.bool v5.Drop]) (ys := [Value.string v7, Value.string ByteArray.empty, Value.bool false]) (by kernel_rfl) (by kernel_rfl) (by kernel_rfl) (by kernel_rfl) (by kernel_rfl) ww) ?_
    refine mreg_run P1 6 [(4, [], Value.bool (((v5.Key == v7) && (v5.Val == ByteArray.empty)) && (v5.Drop == false)))] (by kernel_rfl) (by kernel_rfl) ?_
    refine mreg_end [(4, Value.bool (((v5.Key == v7) && (v5.Val == ByteArray.empty)) && (v5.Drop == false)))] (by kernel_rfl) (by kernel_rfl) (by kernel_rfl) ?_
    change WpE _ _ c86_6 _ _ _
    refine wpE_ret (by kernel_rfl) ?_
    repeat (first | refine seqQ_ret ?_ | refine blockQ_ret ?_ | refine loopQ_ret ?_ | refine cutQ_ret ?_)
    exact retS (rs := [(ResultVar.tmp 4)]) (v := Value.bool (((v5.Key == v7) && (v5.Val == ByteArray.empty)) && (v5.Drop == false))) (by kernel_rfl) (⟨by kernel_rfl, trivial⟩) ⟨(((v5.Key == v7) && (v5.Val == ByteArray.empty)) && (v5.Drop == false)), rfl, h⟩
  · rintro e w' ⟨v, rfl, r0, rfl, h⟩; exact ⟨r0, rfl, h⟩

/-! ### towpath/towpathlaw01.word (function 94) -/
noncomputable def c94_0 := (Tryz.f94.body).getD Code.skip
noncomputable def c94_3 := Code.r c94_0
noncomputable def c94_4 := Code.l c94_3
noncomputable def r94_4 := Code.ops c94_4
noncomputable def c94_6 := Code.r c94_3

theorem S_towpathlaw01_word {n_ : Int} {w : World} {R : ByteArray → World → Prop} (h : F_towpathlaw01_word n_ R w) : C_towpathlaw01_word n_ w R := by
  unfold F_towpathlaw01_word at h
  unfold C_towpathlaw01_word
  refine Calls.mono (calls_of_wpE (args := [Value.int .i64 n_]) (R := fun v w' => ∃ (r0 : ByteArray), v = Value.string r0 ∧ R r0 w') Tryz.func94 (c := c94_0) (by kernel_rfl) 6 (by kernel_rfl) (by kernel_rfl) [(0, Value.int .i64 n_)] (by kernel_rfl) ?_) ?_
  · refine Zp c94_3 P1 [(0, .int .i64 n_)] ?_
    refine Zt r94_4 c94_6 ?_
    refine Zn P1 1 [(3, [], .int .i64 n_)] ?_
    refine Zm 95 #[.int .i64 n_] (some 4) (Calls.mono h ?_)
    rintro _ w1 ⟨v4, rfl, h⟩
    refine ⟨_, rfl, ?_⟩
    refine Zn [] 2 [(4, [], .string v4)] ?_
    obtain ⟨h0, h⟩ := h
    refine reg_val (op := (Op.binOp BinOp.add 9 (Operand.const (Value.string (ByteArray.mk #[35]))) (Operand.tmp 4) 9)) (ty := 9) (dst := some 5) (Value.string ((ByteArray.mk #[35]) ++ v4)) (by kernel_rfl) (fun ww => run_stradd (by kernel_rfl) (by kernel_rfl) h0 ww) ?_
    refine Zf P1 [(2, .string ((ByteArray.mk #[35]) ++ v4))] ?_
    change WpE _ _ c94_6 _ _ _
    refine wpE_ret (by kernel_rfl) ?_
    repeat (first | refine seqQ_ret ?_ | refine blockQ_ret ?_ | refine loopQ_ret ?_ | refine cutQ_ret ?_)
    exact retS (rs := [(ResultVar.tmp 2)]) (v := Value.string ((ByteArray.mk #[35]) ++ v4)) (by kernel_rfl) (⟨by kernel_rfl, trivial⟩) ⟨((ByteArray.mk #[35]) ++ v4), rfl, h⟩
  · rintro e w' ⟨v, rfl, r0, rfl, h⟩; exact ⟨r0, rfl, h⟩
end Go.Proofs.YtfmkemmgakdddaaGreatDoor
