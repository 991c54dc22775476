/- WRITTEN BY PROGRAM (dec.py): for each Go function the clean formula F, the call's contract C, and the proof S that F gives C. -/
import Derived.Test.YtpedclhflmhakaaGreatDoorRows
import Derived.Test.YtpedclhflmhakaaGreatDoorGF
namespace Go.Proofs.YtpedclhflmhakaaGreatDoor
open Go
set_option linter.unusedVariables false
set_option maxRecDepth 100000
set_option maxHeartbeats 4000000
noncomputable section

/-! ### (*towpath/towpathlaw01.Book).fillHeld (function 43) -/
def c43_0 := cb_ Tryz.f43
def c43_3 := cr_ c43_0
def c43_4 := cl_ c43_3
def c43_5 := cl_ c43_4
def c43_6 := cl_ c43_5
def c43_7 := cl_ c43_6
def r43_7 := co_ c43_7
def c43_9 := cr_ c43_6
def c43_10 := cl_ c43_9
def c43_11 := cr_ c43_9
def c43_12 := cr_ c43_5

theorem S_towpathlaw01_Book_fillHeld {b_ : Option Addr} {w : World} {R : World → Prop} (h : F_towpathlaw01_Book_fillHeld b_ R w) : C_towpathlaw01_Book_fillHeld b_ w R := by
 unfold F_towpathlaw01_Book_fillHeld at h
 unfold C_towpathlaw01_Book_fillHeld
 refine Calls.mono (calls_of_wpE (args := [Value.pointer b_]) (R := fun v w' => v = Value.tuple #[] ∧ R w') Tryz.func43 (c := c43_0) (by kernel_rfl) 35 (by kernel_rfl) (by kernel_rfl) [(0, Value.pointer b_)] (by kernel_rfl) ?_) ?_
 · refine Zp c43_3 P1 [(0, .pointer b_), (2, .int .i64 0)] ?_
   refine Zb 0 c43_4 ?_
   obtain ⟨I, μ, h0, hr⟩ := h
   refine wpE_loop (x := c43_5) (by kernel_rfl) (fun m l w => ∃ (i : Int), l = [(0, Value.pointer b_), (2, Value.int .i64 i)] ∧ I i w ∧ μ i w = m) (l' := [(0, Value.pointer b_), (2, Value.int .i64 0)]) (Sub.mk (by kernel_rfl)) ⟨0, rfl, h0, rfl⟩ ?_
   rintro _ _ w1 ⟨i, rfl, hI, rfl⟩
   obtain ⟨again_, again__h, h⟩ : ∃ again_ : Int → World → Prop, (∀ i' w', again_ i' w' → I i' w' ∧ μ i' w' < μ i w1) ∧ F_towpathlaw01_Book_fillHeld_L0 b_ R again_ i w1 := ⟨_, fun _ _ h => h, hr i w1 hI⟩
   clear h0 hI
   unfold F_towpathlaw01_Book_fillHeld_L0 at h
   refine Zs c43_6 c43_12 ?_
   refine Zt r43_7 c43_9 ?_
   refine Zn P2 2 [(0, [], .pointer b_), (2, [], .int .i64 i), (5, [], .int .i64 i), (6, [], .pointer b_)] ?_
   obtain ⟨hp_3, h⟩ := h
   refine Zv (fun pp => [(0, [], .pointer b_), (2, [], .int .i64 i), (5, [], .int .i64 i), (6, [], .pointer pp)]) hp_3 ?_
   refine Zn P1 3 [(0, [], .pointer b_), (2, [], .int .i64 i), (5, [], .int .i64 i), (6, [], .pointer (some ⟨(pblk b_), (poff b_), none⟩)), (7, [], .pointer (some ⟨(pblk b_), (poff b_), none⟩))] ?_
   refine Zn P1 4 [(0, [], .pointer b_), (2, [], .int .i64 i), (5, [], .int .i64 i), (8, [], .pointer (some ⟨(pblk b_), (poff b_) + 8, none⟩))] ?_
   obtain ⟨v9, hc, h⟩ := h
   refine Zl 30 8 (pblk b_) ((poff b_) + 8) 30 9 hc ?_
   refine Zf P2 [(0, .pointer b_), (2, .int .i64 i), (11, .bool (decide (i < ((v9.len : Nat) : Int))))] ?_
   change WpE _ _ c43_9 _ _ _
   refine Zc 11 (decide (i < ((v9.len : Nat) : Int))) c43_10 c43_11 (fun hb => ?_) (fun hb => ?_)
   · replace h := h.1 hb
     exact h.elim
   · replace h := h.2 hb
     refine wpE_exit (id := 0) (by kernel_rfl) ?_
     repeat (first | refine seqQ_exit ?_ | refine loopQ_exit ?_ | refine cutQ_exit ?_ | refine blockQ_hit ?_ | refine blockQ_miss (by kernel_rfl) ?_)
     refine retQ_normal ?_
     repeat (first | refine seqQ_ret ?_ | refine blockQ_ret ?_ | refine loopQ_ret ?_ | refine cutQ_ret ?_)
     exact retT (rs := []) (vs := []) (by kernel_rfl) (trivial) (by kernel_rfl) ⟨rfl, h⟩
 · rintro e w' ⟨v, rfl, rfl, h⟩; exact ⟨rfl, h⟩

/-! ### (*towpath/towpathlaw01.Book).fillHeldList (function 44) -/
def c44_0 := cb_ Tryz.f44
def c44_3 := cr_ c44_0
def c44_4 := cl_ c44_3
def c44_5 := cl_ c44_4
def c44_6 := cl_ c44_5
def c44_7 := cl_ c44_6
def r44_7 := co_ c44_7
def c44_9 := cr_ c44_6
def c44_10 := cl_ c44_9
def c44_11 := cr_ c44_9
def c44_12 := cr_ c44_5

theorem S_towpathlaw01_Book_fillHeldList {b_ : Option Addr} {w : World} {R : World → Prop} (h : F_towpathlaw01_Book_fillHeldList b_ R w) : C_towpathlaw01_Book_fillHeldList b_ w R := by
 unfold F_towpathlaw01_Book_fillHeldList at h
 unfold C_towpathlaw01_Book_fillHeldList
 refine Calls.mono (calls_of_wpE (args := [Value.pointer b_]) (R := fun v w' => v = Value.tuple #[] ∧ R w') Tryz.func44 (c := c44_0) (by kernel_rfl) 35 (by kernel_rfl) (by kernel_rfl) [(0, Value.pointer b_)] (by kernel_rfl) ?_) ?_
 · refine Zp c44_3 P1 [(0, .pointer b_), (2, .int .i64 0)] ?_
   refine Zb 0 c44_4 ?_
   obtain ⟨I, μ, h0, hr⟩ := h
   refine wpE_loop (x := c44_5) (by kernel_rfl) (fun m l w => ∃ (i : Int), l = [(0, Value.pointer b_), (2, Value.int .i64 i)] ∧ I i w ∧ μ i w = m) (l' := [(0, Value.pointer b_), (2, Value.int .i64 0)]) (Sub.mk (by kernel_rfl)) ⟨0, rfl, h0, rfl⟩ ?_
   rintro _ _ w1 ⟨i, rfl, hI, rfl⟩
   obtain ⟨again_, again__h, h⟩ : ∃ again_ : Int → World → Prop, (∀ i' w', again_ i' w' → I i' w' ∧ μ i' w' < μ i w1) ∧ F_towpathlaw01_Book_fillHeldList_L0 b_ R again_ i w1 := ⟨_, fun _ _ h => h, hr i w1 hI⟩
   clear h0 hI
   unfold F_towpathlaw01_Book_fillHeldList_L0 at h
   refine Zs c44_6 c44_12 ?_
   refine Zt r44_7 c44_9 ?_
   refine Zn P2 2 [(0, [], .pointer b_), (2, [], .int .i64 i), (5, [], .int .i64 i), (6, [], .pointer b_)] ?_
   obtain ⟨hp_3, h⟩ := h
   refine Zv (fun pp => [(0, [], .pointer b_), (2, [], .int .i64 i), (5, [], .int .i64 i), (6, [], .pointer pp)]) hp_3 ?_
   refine Zn P1 3 [(0, [], .pointer b_), (2, [], .int .i64 i), (5, [], .int .i64 i), (6, [], .pointer (some ⟨(pblk b_), (poff b_), none⟩)), (7, [], .pointer (some ⟨(pblk b_), (poff b_), none⟩))] ?_
   refine Zn P1 4 [(0, [], .pointer b_), (2, [], .int .i64 i), (5, [], .int .i64 i), (8, [], .pointer (some ⟨(pblk b_), (poff b_) + 9, none⟩))] ?_
   obtain ⟨v9, hc, h⟩ := h
   refine Zl 31 8 (pblk b_) ((poff b_) + 9) 31 9 hc ?_
   refine Zf P2 [(0, .pointer b_), (2, .int .i64 i), (11, .bool (decide (i < ((v9.len : Nat) : Int))))] ?_
   change WpE _ _ c44_9 _ _ _
   refine Zc 11 (decide (i < ((v9.len : Nat) : Int))) c44_10 c44_11 (fun hb => ?_) (fun hb => ?_)
   · replace h := h.1 hb
     exact h.elim
   · replace h := h.2 hb
     refine wpE_exit (id := 0) (by kernel_rfl) ?_
     repeat (first | refine seqQ_exit ?_ | refine loopQ_exit ?_ | refine cutQ_exit ?_ | refine blockQ_hit ?_ | refine blockQ_miss (by kernel_rfl) ?_)
     refine retQ_normal ?_
     repeat (first | refine seqQ_ret ?_ | refine blockQ_ret ?_ | refine loopQ_ret ?_ | refine cutQ_ret ?_)
     exact retT (rs := []) (vs := []) (by kernel_rfl) (trivial) (by kernel_rfl) ⟨rfl, h⟩
 · rintro e w' ⟨v, rfl, rfl, h⟩; exact ⟨rfl, h⟩

/-! ### (*towpath/towpathlaw01.Book).fillEvent (function 45) -/
def c45_0 := cb_ Tryz.f45
def c45_3 := cr_ c45_0
def c45_4 := cl_ c45_3
def c45_5 := cl_ c45_4
def c45_6 := cl_ c45_5
def c45_7 := cl_ c45_6
def r45_7 := co_ c45_7
def c45_9 := cr_ c45_6
def c45_10 := cl_ c45_9
def c45_11 := cr_ c45_9
def c45_12 := cr_ c45_5

theorem S_towpathlaw01_Book_fillEvent {b_ : Option Addr} {w : World} {R : World → Prop} (h : F_towpathlaw01_Book_fillEvent b_ R w) : C_towpathlaw01_Book_fillEvent b_ w R := by
 unfold F_towpathlaw01_Book_fillEvent at h
 unfold C_towpathlaw01_Book_fillEvent
 refine Calls.mono (calls_of_wpE (args := [Value.pointer b_]) (R := fun v w' => v = Value.tuple #[] ∧ R w') Tryz.func45 (c := c45_0) (by kernel_rfl) 35 (by kernel_rfl) (by kernel_rfl) [(0, Value.pointer b_)] (by kernel_rfl) ?_) ?_
 · refine Zp c45_3 P1 [(0, .pointer b_), (2, .int .i64 0)] ?_
   refine Zb 0 c45_4 ?_
   obtain ⟨I, μ, h0, hr⟩ := h
   refine wpE_loop (x := c45_5) (by kernel_rfl) (fun m l w => ∃ (i : Int), l = [(0, Value.pointer b_), (2, Value.int .i64 i)] ∧ I i w ∧ μ i w = m) (l' := [(0, Value.pointer b_), (2, Value.int .i64 0)]) (Sub.mk (by kernel_rfl)) ⟨0, rfl, h0, rfl⟩ ?_
   rintro _ _ w1 ⟨i, rfl, hI, rfl⟩
   obtain ⟨again_, again__h, h⟩ : ∃ again_ : Int → World → Prop, (∀ i' w', again_ i' w' → I i' w' ∧ μ i' w' < μ i w1) ∧ F_towpathlaw01_Book_fillEvent_L0 b_ R again_ i w1 := ⟨_, fun _ _ h => h, hr i w1 hI⟩
   clear h0 hI
   unfold F_towpathlaw01_Book_fillEvent_L0 at h
   refine Zs c45_6 c45_12 ?_
   refine Zt r45_7 c45_9 ?_
   refine Zn P2 2 [(0, [], .pointer b_), (2, [], .int .i64 i), (5, [], .int .i64 i), (6, [], .pointer b_)] ?_
   obtain ⟨hp_3, h⟩ := h
   refine Zv (fun pp => [(0, [], .pointer b_), (2, [], .int .i64 i), (5, [], .int .i64 i), (6, [], .pointer pp)]) hp_3 ?_
   refine Zn P1 3 [(0, [], .pointer b_), (2, [], .int .i64 i), (5, [], .int .i64 i), (6, [], .pointer (some ⟨(pblk b_), (poff b_), none⟩)), (7, [], .pointer (some ⟨(pblk b_), (poff b_), none⟩))] ?_
   refine Zn P1 4 [(0, [], .pointer b_), (2, [], .int .i64 i), (5, [], .int .i64 i), (8, [], .pointer (some ⟨(pblk b_), (poff b_) + 10, none⟩))] ?_
   obtain ⟨v9, hc, h⟩ := h
   refine Zl 32 8 (pblk b_) ((poff b_) + 10) 32 9 hc ?_
   refine Zf P2 [(0, .pointer b_), (2, .int .i64 i), (11, .bool (decide (i < ((v9.len : Nat) : Int))))] ?_
   change WpE _ _ c45_9 _ _ _
   refine Zc 11 (decide (i < ((v9.len : Nat) : Int))) c45_10 c45_11 (fun hb => ?_) (fun hb => ?_)
   · replace h := h.1 hb
     exact h.elim
   · replace h := h.2 hb
     refine wpE_exit (id := 0) (by kernel_rfl) ?_
     repeat (first | refine seqQ_exit ?_ | refine loopQ_exit ?_ | refine cutQ_exit ?_ | refine blockQ_hit ?_ | refine blockQ_miss (by kernel_rfl) ?_)
     refine retQ_normal ?_
     repeat (first | refine seqQ_ret ?_ | refine blockQ_ret ?_ | refine loopQ_ret ?_ | refine cutQ_ret ?_)
     exact retT (rs := []) (vs := []) (by kernel_rfl) (trivial) (by kernel_rfl) ⟨rfl, h⟩
 · rintro e w' ⟨v, rfl, rfl, h⟩; exact ⟨rfl, h⟩

/-! ### (*towpath/towpathlaw01.Book).fillAnswer (function 46) -/
def c46_0 := cb_ Tryz.f46
def c46_3 := cr_ c46_0
def c46_4 := cl_ c46_3
def c46_5 := cl_ c46_4
def c46_6 := cl_ c46_5
def c46_7 := cl_ c46_6
def r46_7 := co_ c46_7
def c46_9 := cr_ c46_6
def c46_10 := cl_ c46_9
def c46_11 := cr_ c46_9
def c46_12 := cr_ c46_5

theorem S_towpathlaw01_Book_fillAnswer {b_ : Option Addr} {w : World} {R : World → Prop} (h : F_towpathlaw01_Book_fillAnswer b_ R w) : C_towpathlaw01_Book_fillAnswer b_ w R := by
 unfold F_towpathlaw01_Book_fillAnswer at h
 unfold C_towpathlaw01_Book_fillAnswer
 refine Calls.mono (calls_of_wpE (args := [Value.pointer b_]) (R := fun v w' => v = Value.tuple #[] ∧ R w') Tryz.func46 (c := c46_0) (by kernel_rfl) 35 (by kernel_rfl) (by kernel_rfl) [(0, Value.pointer b_)] (by kernel_rfl) ?_) ?_
 · refine Zp c46_3 P1 [(0, .pointer b_), (2, .int .i64 0)] ?_
   refine Zb 0 c46_4 ?_
   obtain ⟨I, μ, h0, hr⟩ := h
   refine wpE_loop (x := c46_5) (by kernel_rfl) (fun m l w => ∃ (i : Int), l = [(0, Value.pointer b_), (2, Value.int .i64 i)] ∧ I i w ∧ μ i w = m) (l' := [(0, Value.pointer b_), (2, Value.int .i64 0)]) (Sub.mk (by kernel_rfl)) ⟨0, rfl, h0, rfl⟩ ?_
   rintro _ _ w1 ⟨i, rfl, hI, rfl⟩
   obtain ⟨again_, again__h, h⟩ : ∃ again_ : Int → World → Prop, (∀ i' w', again_ i' w' → I i' w' ∧ μ i' w' < μ i w1) ∧ F_towpathlaw01_Book_fillAnswer_L0 b_ R again_ i w1 := ⟨_, fun _ _ h => h, hr i w1 hI⟩
   clear h0 hI
   unfold F_towpathlaw01_Book_fillAnswer_L0 at h
   refine Zs c46_6 c46_12 ?_
   refine Zt r46_7 c46_9 ?_
   refine Zn P2 2 [(0, [], .pointer b_), (2, [], .int .i64 i), (5, [], .int .i64 i), (6, [], .pointer b_)] ?_
   obtain ⟨hp_3, h⟩ := h
   refine Zv (fun pp => [(0, [], .pointer b_), (2, [], .int .i64 i), (5, [], .int .i64 i), (6, [], .pointer pp)]) hp_3 ?_
   refine Zn P1 3 [(0, [], .pointer b_), (2, [], .int .i64 i), (5, [], .int .i64 i), (6, [], .pointer (some ⟨(pblk b_), (poff b_), none⟩)), (7, [], .pointer (some ⟨(pblk b_), (poff b_), none⟩))] ?_
   refine Zn P1 4 [(0, [], .pointer b_), (2, [], .int .i64 i), (5, [], .int .i64 i), (8, [], .pointer (some ⟨(pblk b_), (poff b_) + 11, none⟩))] ?_
   obtain ⟨v9, hc, h⟩ := h
   refine Zl 33 8 (pblk b_) ((poff b_) + 11) 33 9 hc ?_
   refine Zf P2 [(0, .pointer b_), (2, .int .i64 i), (11, .bool (decide (i < ((v9.len : Nat) : Int))))] ?_
   change WpE _ _ c46_9 _ _ _
   refine Zc 11 (decide (i < ((v9.len : Nat) : Int))) c46_10 c46_11 (fun hb => ?_) (fun hb => ?_)
   · replace h := h.1 hb
     exact h.elim
   · replace h := h.2 hb
     refine wpE_exit (id := 0) (by kernel_rfl) ?_
     repeat (first | refine seqQ_exit ?_ | refine loopQ_exit ?_ | refine cutQ_exit ?_ | refine blockQ_hit ?_ | refine blockQ_miss (by kernel_rfl) ?_)
     refine retQ_normal ?_
     repeat (first | refine seqQ_ret ?_ | refine blockQ_ret ?_ | refine loopQ_ret ?_ | refine cutQ_ret ?_)
     exact retT (rs := []) (vs := []) (by kernel_rfl) (trivial) (by kernel_rfl) ⟨rfl, h⟩
 · rintro e w' ⟨v, rfl, rfl, h⟩; exact ⟨rfl, h⟩

/-! ### (*towpath/towpathlaw01.Book).growByte (function 47) -/
def c47_0 := cb_ Tryz.f47
def c47_3 := cr_ c47_0
def c47_4 := cl_ c47_3
def c47_5 := cl_ c47_4
def c47_6 := cl_ c47_5
def c47_7 := cl_ c47_6
def r47_7 := co_ c47_7
def c47_9 := cr_ c47_6
def c47_10 := cl_ c47_9
def c47_11 := cr_ c47_9
def c47_12 := cr_ c47_5

theorem S_towpathlaw01_Book_growByte {b_ : Option Addr} {w : World} {R : World → Prop} (h : F_towpathlaw01_Book_growByte b_ R w) : C_towpathlaw01_Book_growByte b_ w R := by
 unfold F_towpathlaw01_Book_growByte at h
 unfold C_towpathlaw01_Book_growByte
 refine Calls.mono (calls_of_wpE (args := [Value.pointer b_]) (R := fun v w' => v = Value.tuple #[] ∧ R w') Tryz.func47 (c := c47_0) (by kernel_rfl) 42 (by kernel_rfl) (by kernel_rfl) [(0, Value.pointer b_)] (by kernel_rfl) ?_) ?_
 · refine Zp c47_3 P1 [(0, .pointer b_), (2, .int .i64 0)] ?_
   refine Zb 0 c47_4 ?_
   obtain ⟨I, μ, h0, hr⟩ := h
   refine wpE_loop (x := c47_5) (by kernel_rfl) (fun m l w => ∃ (i : Int), l = [(0, Value.pointer b_), (2, Value.int .i64 i)] ∧ I i w ∧ μ i w = m) (l' := [(0, Value.pointer b_), (2, Value.int .i64 0)]) (Sub.mk (by kernel_rfl)) ⟨0, rfl, h0, rfl⟩ ?_
   rintro _ _ w1 ⟨i, rfl, hI, rfl⟩
   obtain ⟨again_, again__h, h⟩ : ∃ again_ : Int → World → Prop, (∀ i' w', again_ i' w' → I i' w' ∧ μ i' w' < μ i w1) ∧ F_towpathlaw01_Book_growByte_L0 b_ R again_ i w1 := ⟨_, fun _ _ h => h, hr i w1 hI⟩
   clear h0 hI
   unfold F_towpathlaw01_Book_growByte_L0 at h
   refine Zs c47_6 c47_12 ?_
   refine Zt r47_7 c47_9 ?_
   refine Zn P2 2 [(0, [], .pointer b_), (2, [], .int .i64 i), (6, [], .int .i64 i), (7, [], .pointer b_)] ?_
   obtain ⟨hp_3, h⟩ := h
   refine Zv (fun pp => [(0, [], .pointer b_), (2, [], .int .i64 i), (6, [], .int .i64 i), (7, [], .pointer pp)]) hp_3 ?_
   refine Zn P1 3 [(0, [], .pointer b_), (2, [], .int .i64 i), (6, [], .int .i64 i), (7, [], .pointer (some ⟨(pblk b_), (poff b_), none⟩)), (8, [], .pointer (some ⟨(pblk b_), (poff b_), none⟩))] ?_
   refine Zn P1 4 [(0, [], .pointer b_), (2, [], .int .i64 i), (6, [], .int .i64 i), (9, [], .pointer (some ⟨(pblk b_), (poff b_) + 1, none⟩))] ?_
   obtain ⟨v10, hc, h⟩ := h
   refine Zl 23 9 (pblk b_) ((poff b_) + 1) 23 10 hc ?_
   refine Zf P2 [(0, .pointer b_), (2, .int .i64 i), (12, .bool (decide (i < ((v10.len : Nat) : Int))))] ?_
   change WpE _ _ c47_9 _ _ _
   refine Zc 12 (decide (i < ((v10.len : Nat) : Int))) c47_10 c47_11 (fun hb => ?_) (fun hb => ?_)
   · replace h := h.1 hb
     exact h.elim
   · replace h := h.2 hb
     refine wpE_exit (id := 0) (by kernel_rfl) ?_
     repeat (first | refine seqQ_exit ?_ | refine loopQ_exit ?_ | refine cutQ_exit ?_ | refine blockQ_hit ?_ | refine blockQ_miss (by kernel_rfl) ?_)
     refine retQ_normal ?_
     repeat (first | refine seqQ_ret ?_ | refine blockQ_ret ?_ | refine loopQ_ret ?_ | refine cutQ_ret ?_)
     exact retT (rs := []) (vs := []) (by kernel_rfl) (trivial) (by kernel_rfl) ⟨rfl, h⟩
 · rintro e w' ⟨v, rfl, rfl, h⟩; exact ⟨rfl, h⟩

/-! ### (*towpath/towpathlaw01.Book).growInt (function 48) -/
def c48_0 := cb_ Tryz.f48
def c48_3 := cr_ c48_0
def c48_4 := cl_ c48_3
def c48_5 := cl_ c48_4
def c48_6 := cl_ c48_5
def c48_7 := cl_ c48_6
def r48_7 := co_ c48_7
def c48_9 := cr_ c48_6
def c48_10 := cl_ c48_9
def c48_11 := cr_ c48_9
def c48_12 := cr_ c48_5

theorem S_towpathlaw01_Book_growInt {b_ : Option Addr} {w : World} {R : World → Prop} (h : F_towpathlaw01_Book_growInt b_ R w) : C_towpathlaw01_Book_growInt b_ w R := by
 unfold F_towpathlaw01_Book_growInt at h
 unfold C_towpathlaw01_Book_growInt
 refine Calls.mono (calls_of_wpE (args := [Value.pointer b_]) (R := fun v w' => v = Value.tuple #[] ∧ R w') Tryz.func48 (c := c48_0) (by kernel_rfl) 42 (by kernel_rfl) (by kernel_rfl) [(0, Value.pointer b_)] (by kernel_rfl) ?_) ?_
 · refine Zp c48_3 P1 [(0, .pointer b_), (2, .int .i64 0)] ?_
   refine Zb 0 c48_4 ?_
   obtain ⟨I, μ, h0, hr⟩ := h
   refine wpE_loop (x := c48_5) (by kernel_rfl) (fun m l w => ∃ (i : Int), l = [(0, Value.pointer b_), (2, Value.int .i64 i)] ∧ I i w ∧ μ i w = m) (l' := [(0, Value.pointer b_), (2, Value.int .i64 0)]) (Sub.mk (by kernel_rfl)) ⟨0, rfl, h0, rfl⟩ ?_
   rintro _ _ w1 ⟨i, rfl, hI, rfl⟩
   obtain ⟨again_, again__h, h⟩ : ∃ again_ : Int → World → Prop, (∀ i' w', again_ i' w' → I i' w' ∧ μ i' w' < μ i w1) ∧ F_towpathlaw01_Book_growInt_L0 b_ R again_ i w1 := ⟨_, fun _ _ h => h, hr i w1 hI⟩
   clear h0 hI
   unfold F_towpathlaw01_Book_growInt_L0 at h
   refine Zs c48_6 c48_12 ?_
   refine Zt r48_7 c48_9 ?_
   refine Zn P2 2 [(0, [], .pointer b_), (2, [], .int .i64 i), (6, [], .int .i64 i), (7, [], .pointer b_)] ?_
   obtain ⟨hp_3, h⟩ := h
   refine Zv (fun pp => [(0, [], .pointer b_), (2, [], .int .i64 i), (6, [], .int .i64 i), (7, [], .pointer pp)]) hp_3 ?_
   refine Zn P1 3 [(0, [], .pointer b_), (2, [], .int .i64 i), (6, [], .int .i64 i), (7, [], .pointer (some ⟨(pblk b_), (poff b_), none⟩)), (8, [], .pointer (some ⟨(pblk b_), (poff b_), none⟩))] ?_
   refine Zn P1 4 [(0, [], .pointer b_), (2, [], .int .i64 i), (6, [], .int .i64 i), (9, [], .pointer (some ⟨(pblk b_), (poff b_) + 2, none⟩))] ?_
   obtain ⟨v10, hc, h⟩ := h
   refine Zl 24 9 (pblk b_) ((poff b_) + 2) 24 10 hc ?_
   refine Zf P2 [(0, .pointer b_), (2, .int .i64 i), (12, .bool (decide (i < ((v10.len : Nat) : Int))))] ?_
   change WpE _ _ c48_9 _ _ _
   refine Zc 12 (decide (i < ((v10.len : Nat) : Int))) c48_10 c48_11 (fun hb => ?_) (fun hb => ?_)
   · replace h := h.1 hb
     exact h.elim
   · replace h := h.2 hb
     refine wpE_exit (id := 0) (by kernel_rfl) ?_
     repeat (first | refine seqQ_exit ?_ | refine loopQ_exit ?_ | refine cutQ_exit ?_ | refine blockQ_hit ?_ | refine blockQ_miss (by kernel_rfl) ?_)
     refine retQ_normal ?_
     repeat (first | refine seqQ_ret ?_ | refine blockQ_ret ?_ | refine loopQ_ret ?_ | refine cutQ_ret ?_)
     exact retT (rs := []) (vs := []) (by kernel_rfl) (trivial) (by kernel_rfl) ⟨rfl, h⟩
 · rintro e w' ⟨v, rfl, rfl, h⟩; exact ⟨rfl, h⟩

/-! ### (*towpath/towpathlaw01.Book).growText (function 49) -/
def c49_0 := cb_ Tryz.f49
def c49_3 := cr_ c49_0
def c49_4 := cl_ c49_3
def c49_5 := cl_ c49_4
def c49_6 := cl_ c49_5
def c49_7 := cl_ c49_6
def r49_7 := co_ c49_7
def c49_9 := cr_ c49_6
def c49_10 := cl_ c49_9
def c49_11 := cr_ c49_9
def c49_12 := cr_ c49_5

theorem S_towpathlaw01_Book_growText {b_ : Option Addr} {w : World} {R : World → Prop} (h : F_towpathlaw01_Book_growText b_ R w) : C_towpathlaw01_Book_growText b_ w R := by
 unfold F_towpathlaw01_Book_growText at h
 unfold C_towpathlaw01_Book_growText
 refine Calls.mono (calls_of_wpE (args := [Value.pointer b_]) (R := fun v w' => v = Value.tuple #[] ∧ R w') Tryz.func49 (c := c49_0) (by kernel_rfl) 42 (by kernel_rfl) (by kernel_rfl) [(0, Value.pointer b_)] (by kernel_rfl) ?_) ?_
 · refine Zp c49_3 P1 [(0, .pointer b_), (2, .int .i64 0)] ?_
   refine Zb 0 c49_4 ?_
   obtain ⟨I, μ, h0, hr⟩ := h
   refine wpE_loop (x := c49_5) (by kernel_rfl) (fun m l w => ∃ (i : Int), l = [(0, Value.pointer b_), (2, Value.int .i64 i)] ∧ I i w ∧ μ i w = m) (l' := [(0, Value.pointer b_), (2, Value.int .i64 0)]) (Sub.mk (by kernel_rfl)) ⟨0, rfl, h0, rfl⟩ ?_
   rintro _ _ w1 ⟨i, rfl, hI, rfl⟩
   obtain ⟨again_, again__h, h⟩ : ∃ again_ : Int → World → Prop, (∀ i' w', again_ i' w' → I i' w' ∧ μ i' w' < μ i w1) ∧ F_towpathlaw01_Book_growText_L0 b_ R again_ i w1 := ⟨_, fun _ _ h => h, hr i w1 hI⟩
   clear h0 hI
   unfold F_towpathlaw01_Book_growText_L0 at h
   refine Zs c49_6 c49_12 ?_
   refine Zt r49_7 c49_9 ?_
   refine Zn P2 2 [(0, [], .pointer b_), (2, [], .int .i64 i), (6, [], .int .i64 i), (7, [], .pointer b_)] ?_
   obtain ⟨hp_3, h⟩ := h
   refine Zv (fun pp => [(0, [], .pointer b_), (2, [], .int .i64 i), (6, [], .int .i64 i), (7, [], .pointer pp)]) hp_3 ?_
   refine Zn P1 3 [(0, [], .pointer b_), (2, [], .int .i64 i), (6, [], .int .i64 i), (7, [], .pointer (some ⟨(pblk b_), (poff b_), none⟩)), (8, [], .pointer (some ⟨(pblk b_), (poff b_), none⟩))] ?_
   refine Zn P1 4 [(0, [], .pointer b_), (2, [], .int .i64 i), (6, [], .int .i64 i), (9, [], .pointer (some ⟨(pblk b_), (poff b_) + 3, none⟩))] ?_
   obtain ⟨v10, hc, h⟩ := h
   refine Zl 25 9 (pblk b_) ((poff b_) + 3) 25 10 hc ?_
   refine Zf P2 [(0, .pointer b_), (2, .int .i64 i), (12, .bool (decide (i < ((v10.len : Nat) : Int))))] ?_
   change WpE _ _ c49_9 _ _ _
   refine Zc 12 (decide (i < ((v10.len : Nat) : Int))) c49_10 c49_11 (fun hb => ?_) (fun hb => ?_)
   · replace h := h.1 hb
     exact h.elim
   · replace h := h.2 hb
     refine wpE_exit (id := 0) (by kernel_rfl) ?_
     repeat (first | refine seqQ_exit ?_ | refine loopQ_exit ?_ | refine cutQ_exit ?_ | refine blockQ_hit ?_ | refine blockQ_miss (by kernel_rfl) ?_)
     refine retQ_normal ?_
     repeat (first | refine seqQ_ret ?_ | refine blockQ_ret ?_ | refine loopQ_ret ?_ | refine cutQ_ret ?_)
     exact retT (rs := []) (vs := []) (by kernel_rfl) (trivial) (by kernel_rfl) ⟨rfl, h⟩
 · rintro e w' ⟨v, rfl, rfl, h⟩; exact ⟨rfl, h⟩

/-! ### (*towpath/towpathlaw01.Book).growWrite (function 50) -/
def c50_0 := cb_ Tryz.f50
def c50_3 := cr_ c50_0
def c50_4 := cl_ c50_3
def c50_5 := cl_ c50_4
def c50_6 := cl_ c50_5
def c50_7 := cl_ c50_6
def r50_7 := co_ c50_7
def c50_9 := cr_ c50_6
def c50_10 := cl_ c50_9
def c50_11 := cr_ c50_9
def c50_12 := cr_ c50_5
def c50_13 := cl_ c50_12
def c50_14 := cl_ c50_13
def c50_15 := cl_ c50_14
def r50_15 := co_ c50_15
def c50_17 := cr_ c50_14
def c50_18 := cl_ c50_17
def r50_18 := co_ c50_18
def c50_20 := cr_ c50_17
def c50_21 := cl_ c50_20
def c50_24 := cr_ c50_21
def c50_25 := cl_ c50_24
def c50_26 := cl_ c50_25
def c50_27 := cl_ c50_26
def c50_30 := cr_ c50_27
def c50_31 := cl_ c50_30
def c50_32 := cr_ c50_30
def c50_33 := cr_ c50_26
def c50_34 := cl_ c50_33
def c50_35 := cl_ c50_34
def r50_35 := co_ c50_35
def c50_37 := cr_ c50_33
def r50_37 := co_ c50_37
def c50_39 := cr_ c50_20
def r50_39 := co_ c50_39
def c50_41 := cr_ c50_12
def r50_41 := co_ c50_41

theorem S_towpathlaw01_Book_growWrite {b_ : Option Addr} {w : World} {R : World → Prop} (h : F_towpathlaw01_Book_growWrite b_ R w) : C_towpathlaw01_Book_growWrite b_ w R := by
 unfold F_towpathlaw01_Book_growWrite at h
 unfold C_towpathlaw01_Book_growWrite
 refine Calls.mono (calls_of_wpE (args := [Value.pointer b_]) (R := fun v w' => v = Value.tuple #[] ∧ R w') Tryz.func50 (c := c50_0) (by kernel_rfl) 42 (by kernel_rfl) (by kernel_rfl) [(0, Value.pointer b_)] (by kernel_rfl) ?_) ?_
 · refine Zp c50_3 P1 [(0, .pointer b_), (2, .int .i64 0)] ?_
   refine Zb 0 c50_4 ?_
   obtain ⟨I, μ, h0, hr⟩ := h
   refine wpE_loop (x := c50_5) (by kernel_rfl) (fun m l w => ∃ (i : Int), l = [(0, Value.pointer b_), (2, Value.int .i64 i)] ∧ I i w ∧ μ i w = m) (l' := [(0, Value.pointer b_), (2, Value.int .i64 0)]) (Sub.mk (by kernel_rfl)) ⟨0, rfl, h0, rfl⟩ ?_
   rintro _ _ w1 ⟨i, rfl, hI, rfl⟩
   obtain ⟨again_, again__h, h⟩ : ∃ again_ : Int → World → Prop, (∀ i' w', again_ i' w' → I i' w' ∧ μ i' w' < μ i w1) ∧ F_towpathlaw01_Book_growWrite_L0 b_ R again_ i w1 := ⟨_, fun _ _ h => h, hr i w1 hI⟩
   clear h0 hI
   unfold F_towpathlaw01_Book_growWrite_L0 at h
   refine Zs c50_6 c50_12 ?_
   refine Zt r50_7 c50_9 ?_
   refine Zn P2 2 [(0, [], .pointer b_), (2, [], .int .i64 i), (6, [], .int .i64 i), (7, [], .pointer b_)] ?_
   obtain ⟨hp_3, h⟩ := h
   refine Zv (fun pp => [(0, [], .pointer b_), (2, [], .int .i64 i), (6, [], .int .i64 i), (7, [], .pointer pp)]) hp_3 ?_
   refine Zn P1 3 [(0, [], .pointer b_), (2, [], .int .i64 i), (6, [], .int .i64 i), (7, [], .pointer (some ⟨(pblk b_), (poff b_), none⟩)), (8, [], .pointer (some ⟨(pblk b_), (poff b_), none⟩))] ?_
   refine Zn P1 4 [(0, [], .pointer b_), (2, [], .int .i64 i), (6, [], .int .i64 i), (9, [], .pointer (some ⟨(pblk b_), (poff b_) + 4, none⟩))] ?_
   obtain ⟨v10, hc, h⟩ := h
   refine Zl 26 9 (pblk b_) ((poff b_) + 4) 26 10 hc ?_
   refine Zf P2 [(0, .pointer b_), (2, .int .i64 i), (12, .bool (decide (i < ((v10.len : Nat) : Int))))] ?_
   change WpE _ _ c50_9 _ _ _
   refine Zc 12 (decide (i < ((v10.len : Nat) : Int))) c50_10 c50_11 (fun hb => ?_) (fun hb => ?_)
   · replace h := h.1 hb
     refine wpE_skip (by kernel_rfl) ?_
     change WpE _ _ c50_12 _ _ _
     refine Zs c50_13 c50_41 ?_
     refine Zb 1 c50_14 ?_
     refine Zt r50_15 c50_17 ?_
     refine Zn P1 1 [(0, [], .pointer b_), (2, [], .int .i64 i), (15, [], .pointer b_)] ?_
     obtain ⟨hp_12, h⟩ := h
     refine Zv (fun pp => [(0, [], .pointer b_), (2, [], .int .i64 i), (15, [], .pointer pp)]) hp_12 ?_
     refine Zn P1 2 [(0, [], .pointer b_), (2, [], .int .i64 i), (15, [], .pointer (some ⟨(pblk b_), (poff b_), none⟩)), (16, [], .pointer (some ⟨(pblk b_), (poff b_), none⟩))] ?_
     refine Zn P1 3 [(0, [], .pointer b_), (2, [], .int .i64 i), (17, [], .pointer (some ⟨(pblk b_), (poff b_) + 4, none⟩))] ?_
     obtain ⟨v18, hc, h⟩ := h
     refine Zl 26 17 (pblk b_) ((poff b_) + 4) 26 18 hc ?_
     refine Zn P1 5 [(0, [], .pointer b_), (2, [], .int .i64 i), (18, [], sv_ v18), (19, [], .int .i64 i)] ?_
     obtain ⟨hp_13, h⟩ := h
     refine Zv (fun pp => [(0, [], .pointer b_), (2, [], .int .i64 i), (18, [], .slice pp v18.len v18.cap), (19, [], .int .i64 i)]) hp_13 ?_
     obtain ⟨h0, h1, h⟩ := h
     refine Zj 26 156 18 19 (pblk v18.ptr) (poff v18.ptr) v18.len v18.cap i 3 20 0 h0 h1 ?_
     refine Zn [] 6 [(0, [], .pointer b_), (2, [], .int .i64 i), (20, [], .pointer (some ⟨(pblk v18.ptr), (poff v18.ptr) + i.toNat * 3, none⟩))] ?_
     obtain ⟨v21, hc, h⟩ := h
     refine reg_loadN (t := 156) (a := (Operand.tmp 20)) (b := (pblk v18.ptr)) (o := ((poff v18.ptr) + i.toNat * 3)) (ty := 156) (dst := some 21) [sv_ v21.l, sv_ v21.long, Value.int .i64 v21.n] (by kernel_rfl) (by kernel_rfl) (by kernel_rfl) (k := 3) (by kernel_rfl) (by kernel_rfl) hc ?_
     refine Zn [] 7 [(0, [], .pointer b_), (2, [], .int .i64 i), (21, [], .agg #[sv_ v21.l, sv_ v21.long, .int .i64 v21.n])] ?_
     refine Zw (some 3) (fun bb => pv_ bb) (Obj.cells ([.slice none 0 0, .slice none 0 0, .int .i64 0]).toArray ty_towpathlaw01_heldWrite (0, 0)) (fun b_1 w2 hb hw => ?_)
     replace h := h b_1 w2 hb hw
     clear hb hw
     refine Zn [] 8 [(0, [], .pointer b_), (2, [], .int .i64 i), (3, [], pv_ b_1), (21, [], .agg #[sv_ v21.l, sv_ v21.long, .int .i64 v21.n])] ?_
     obtain ⟨hc, h⟩ := h
     refine Zo 156 3 21 b_1 0 3 [sv_ v21.l, sv_ v21.long, .int .i64 v21.n] hc (fun w3 hw => ?_)
     replace h := h w3 hw
     clear hw
     refine Ze [(0, .pointer b_), (2, .int .i64 i), (3, pv_ b_1)] ?_
     change WpE _ _ c50_17 _ _ _
     refine Zt r50_18 c50_20 ?_
     refine Zn P1 1 [(0, [], .pointer b_), (2, [], .int .i64 i), (3, [], pv_ b_1), (22, [], pv_ b_1)] ?_
     obtain ⟨long, hc, h⟩ := h
     refine Zl 47 22 b_1 0 47 23 hc ?_
     refine Zf P1 [(0, .pointer b_), (2, .int .i64 i), (3, pv_ b_1), (4, sv_ long)] ?_
     change WpE _ _ c50_20 _ _ _
     refine Zs c50_21 c50_39 ?_
     refine Zp c50_24 P1 [(0, .pointer b_), (2, .int .i64 i), (3, pv_ b_1), (4, sv_ long), (5, .int .i64 0)] ?_
     refine Zb 2 c50_25 ?_
     obtain ⟨I, μ, h0, hr⟩ := h
     refine wpE_loop (x := c50_26) (by kernel_rfl) (fun m l w => ∃ (long1 : Slc) (k_ : Int), l = [(0, Value.pointer b_), (2, Value.int .i64 i), (3, pv_ b_1), (4, sv_ long1), (5, Value.int .i64 k_)] ∧ I long1 k_ w ∧ μ long1 k_ w = m) (l' := [(0, Value.pointer b_), (2, Value.int .i64 i), (3, pv_ b_1), (4, sv_ long), (5, Value.int .i64 0)]) (Sub.mk (by kernel_rfl)) ⟨long, 0, rfl, h0, rfl⟩ ?_
     rintro _ _ w4 ⟨long1, k_, rfl, hI, rfl⟩
     obtain ⟨again_1, again_1_h, h⟩ : ∃ again_1 : Slc → Int → World → Prop, (∀ long1' k_' w', again_1 long1' k_' w' → I long1' k_' w' ∧ μ long1' k_' w' < μ long1 k_ w4) ∧ F_towpathlaw01_Book_growWrite_L1 b_ i again_ b_1 again_1 long1 k_ w4 := ⟨_, fun _ _ _ h => h, hr long1 k_ w4 hI⟩
     clear h0 hI
     unfold F_towpathlaw01_Book_growWrite_L1 at h
     refine Zs c50_27 c50_33 ?_
     refine Zp c50_30 P2 [(0, .pointer b_), (2, .int .i64 i), (3, pv_ b_1), (4, sv_ long1), (5, .int .i64 k_), (25, .bool (decide (k_ < 70)))] ?_
     refine Zc 25 (decide (k_ < 70)) c50_31 c50_32 (fun hb => ?_) (fun hb => ?_)
     · replace h := h.1 hb
       refine wpE_skip (by kernel_rfl) ?_
       change WpE _ _ c50_33 _ _ _
       refine Zs c50_34 c50_37 ?_
       refine Zb 3 c50_35 ?_
       refine Zr r50_35 ?_
       refine Zn P2 2 [(0, [], .pointer b_), (2, [], .int .i64 i), (3, [], pv_ b_1), (4, [], sv_ long1), (5, [], .int .i64 k_), (28, [], sv_ long1), (29, [], .pointer (some ⟨b_1, 2, none⟩))] ?_
       obtain ⟨v30, hc, h⟩ := h
       refine Zl 3 29 b_1 2 3 30 hc ?_
       refine Zn [] 3 [(0, [], .pointer b_), (2, [], .int .i64 i), (3, [], pv_ b_1), (4, [], sv_ long1), (5, [], .int .i64 k_), (28, [], sv_ long1), (30, [], .int .i64 v30)] ?_
       refine Zm 94 #[.int .i64 v30] (some 31) (Calls.mono h ?_)
       rintro _ w5 ⟨v31, rfl, h⟩
       refine ⟨_, rfl, ?_⟩
       refine Zn [] 4 [(0, [], .pointer b_), (2, [], .int .i64 i), (3, [], pv_ b_1), (4, [], sv_ long1), (5, [], .int .i64 k_), (28, [], sv_ long1), (31, [], .agg #[.string v31.Key, .string v31.Val, .bool v31.Drop])] ?_
       refine Zw (some 32) (fun bb => .slice (some ⟨bb, 0, none⟩) 1 1) (Obj.cells ([.string v31.Key, .string v31.Val, .bool v31.Drop]).toArray ty_api_Write (0, 0)) (fun b_2 w6 hb hw => ?_)
       replace h := h b_2 w6 hb hw
       clear hb hw
       refine Zn [] 5 [(0, [], .pointer b_), (2, [], .int .i64 i), (3, [], pv_ b_1), (4, [], sv_ long1), (5, [], .int .i64 k_), (28, [], sv_ long1), (32, [], .slice (some ⟨b_2, 0, none⟩) 1 1)] ?_
       obtain ⟨src, hs, h⟩ := h
       refine reg_append (t := 47) (tx := 47) (e := 80) (a := (Operand.tmp 28)) (xo := (Operand.tmp 32)) (s := long1) (x := (Slc.mk (some ⟨b_2, 0, none⟩) 1 1)) (sz := 3) (by_ := 40) (zs := [Value.string ByteArray.empty, Value.string ByteArray.empty, Value.bool false]) (ty := 47) (dst := some 33)  src (by kernel_rfl) (by kernel_rfl) (by kernel_rfl) (by kernel_rfl) (by kernel_rfl) (by kernel_rfl) (by kernel_rfl) (by kernel_rfl) (by kernel_rfl) hs (AppendW.mono h (fun long2 w7 h => ?_))
       refine Zf P1 [(0, .pointer b_), (2, .int .i64 i), (3, pv_ b_1), (4, sv_ long2), (5, .int .i64 k_)] ?_
       change WpE _ _ c50_37 _ _ _
       refine Zr r50_37 ?_
       refine Zf P3 [(0, .pointer b_), (2, .int .i64 i), (3, pv_ b_1), (4, sv_ long2), (5, .int .i64 (IntKind.i64.wrap (k_ + 1)))] ?_
       have hb_ := again_1_h _ _ _ h
       exact ⟨_, hb_.2, [(0, Value.pointer b_), (2, Value.int .i64 i), (3, pv_ b_1), (4, sv_ long2), (5, Value.int .i64 (IntKind.i64.wrap (k_ + 1)))], Sub.mk (by kernel_rfl), long2, (IntKind.i64.wrap (k_ + 1)), rfl, hb_.1, rfl⟩
     · replace h := h.2 hb
       refine wpE_exit (id := 2) (by kernel_rfl) ?_
       change WpE _ _ c50_39 _ _ _
       refine Zr r50_39 ?_
       refine Zn P1 1 [(0, [], .pointer b_), (2, [], .int .i64 i), (4, [], sv_ long1), (34, [], .pointer b_)] ?_
       obtain ⟨hp_14, h⟩ := h
       refine Zv (fun pp => [(0, [], .pointer b_), (2, [], .int .i64 i), (4, [], sv_ long1), (34, [], .pointer pp)]) hp_14 ?_
       refine Zn P1 2 [(0, [], .pointer b_), (2, [], .int .i64 i), (4, [], sv_ long1), (34, [], .pointer (some ⟨(pblk b_), (poff b_), none⟩)), (35, [], .pointer (some ⟨(pblk b_), (poff b_), none⟩))] ?_
       refine Zn P1 3 [(0, [], .pointer b_), (2, [], .int .i64 i), (4, [], sv_ long1), (36, [], .pointer (some ⟨(pblk b_), (poff b_) + 4, none⟩))] ?_
       obtain ⟨v37, hc, h⟩ := h
       refine Zl 26 36 (pblk b_) ((poff b_) + 4) 26 37 hc ?_
       refine Zn P2 6 [(0, [], .pointer b_), (2, [], .int .i64 i), (37, [], sv_ v37), (38, [], .int .i64 i), (39, [], sv_ long1)] ?_
       obtain ⟨hp_15, h⟩ := h
       refine Zv (fun pp => [(0, [], .pointer b_), (2, [], .int .i64 i), (37, [], .slice pp v37.len v37.cap), (38, [], .int .i64 i), (39, [], sv_ long1)]) hp_15 ?_
       obtain ⟨h0, h1, h⟩ := h
       refine Zj 26 156 37 38 (pblk v37.ptr) (poff v37.ptr) v37.len v37.cap i 3 40 0 h0 h1 ?_
       refine Zn P1 8 [(0, [], .pointer b_), (2, [], .int .i64 i), (39, [], sv_ long1), (41, [], .pointer (some ⟨(pblk v37.ptr), ((poff v37.ptr) + i.toNat * 3) + 1, none⟩))] ?_
       obtain ⟨hc, h⟩ := h
       refine Zo 47 41 39 (pblk v37.ptr) (((poff v37.ptr) + i.toNat * 3) + 1) 1 [sv_ long1] hc (fun w8 hw => ?_)
       replace h := h w8 hw
       clear hw
       refine Ze [(0, .pointer b_), (2, .int .i64 i)] ?_
       change WpE _ _ c50_41 _ _ _
       refine Zr r50_41 ?_
       refine Zf P3 [(0, .pointer b_), (2, .int .i64 (IntKind.i64.wrap (i + 1)))] ?_
       have hb_ := again__h _ _ h
       exact ⟨_, hb_.2, [(0, Value.pointer b_), (2, Value.int .i64 (IntKind.i64.wrap (i + 1)))], Sub.mk (by kernel_rfl), (IntKind.i64.wrap (i + 1)), rfl, hb_.1, rfl⟩
   · replace h := h.2 hb
     refine wpE_exit (id := 0) (by kernel_rfl) ?_
     repeat (first | refine seqQ_exit ?_ | refine loopQ_exit ?_ | refine cutQ_exit ?_ | refine blockQ_hit ?_ | refine blockQ_miss (by kernel_rfl) ?_)
     refine retQ_normal ?_
     repeat (first | refine seqQ_ret ?_ | refine blockQ_ret ?_ | refine loopQ_ret ?_ | refine cutQ_ret ?_)
     exact retT (rs := []) (vs := []) (by kernel_rfl) (trivial) (by kernel_rfl) ⟨rfl, h⟩
 · rintro e w' ⟨v, rfl, rfl, h⟩; exact ⟨rfl, h⟩

/-! ### (*towpath/towpathlaw01.Book).growEntry (function 51) -/
def c51_0 := cb_ Tryz.f51
def c51_3 := cr_ c51_0
def c51_4 := cl_ c51_3
def c51_5 := cl_ c51_4
def c51_6 := cl_ c51_5
def c51_7 := cl_ c51_6
def r51_7 := co_ c51_7
def c51_9 := cr_ c51_6
def c51_10 := cl_ c51_9
def c51_11 := cr_ c51_9
def c51_12 := cr_ c51_5

theorem S_towpathlaw01_Book_growEntry {b_ : Option Addr} {w : World} {R : World → Prop} (h : F_towpathlaw01_Book_growEntry b_ R w) : C_towpathlaw01_Book_growEntry b_ w R := by
 unfold F_towpathlaw01_Book_growEntry at h
 unfold C_towpathlaw01_Book_growEntry
 refine Calls.mono (calls_of_wpE (args := [Value.pointer b_]) (R := fun v w' => v = Value.tuple #[] ∧ R w') Tryz.func51 (c := c51_0) (by kernel_rfl) 42 (by kernel_rfl) (by kernel_rfl) [(0, Value.pointer b_)] (by kernel_rfl) ?_) ?_
 · refine Zp c51_3 P1 [(0, .pointer b_), (2, .int .i64 0)] ?_
   refine Zb 0 c51_4 ?_
   obtain ⟨I, μ, h0, hr⟩ := h
   refine wpE_loop (x := c51_5) (by kernel_rfl) (fun m l w => ∃ (i : Int), l = [(0, Value.pointer b_), (2, Value.int .i64 i)] ∧ I i w ∧ μ i w = m) (l' := [(0, Value.pointer b_), (2, Value.int .i64 0)]) (Sub.mk (by kernel_rfl)) ⟨0, rfl, h0, rfl⟩ ?_
   rintro _ _ w1 ⟨i, rfl, hI, rfl⟩
   obtain ⟨again_, again__h, h⟩ : ∃ again_ : Int → World → Prop, (∀ i' w', again_ i' w' → I i' w' ∧ μ i' w' < μ i w1) ∧ F_towpathlaw01_Book_growEntry_L0 b_ R again_ i w1 := ⟨_, fun _ _ h => h, hr i w1 hI⟩
   clear h0 hI
   unfold F_towpathlaw01_Book_growEntry_L0 at h
   refine Zs c51_6 c51_12 ?_
   refine Zt r51_7 c51_9 ?_
   refine Zn P2 2 [(0, [], .pointer b_), (2, [], .int .i64 i), (6, [], .int .i64 i), (7, [], .pointer b_)] ?_
   obtain ⟨hp_3, h⟩ := h
   refine Zv (fun pp => [(0, [], .pointer b_), (2, [], .int .i64 i), (6, [], .int .i64 i), (7, [], .pointer pp)]) hp_3 ?_
   refine Zn P1 3 [(0, [], .pointer b_), (2, [], .int .i64 i), (6, [], .int .i64 i), (7, [], .pointer (some ⟨(pblk b_), (poff b_), none⟩)), (8, [], .pointer (some ⟨(pblk b_), (poff b_), none⟩))] ?_
   refine Zn P1 4 [(0, [], .pointer b_), (2, [], .int .i64 i), (6, [], .int .i64 i), (9, [], .pointer (some ⟨(pblk b_), (poff b_) + 5, none⟩))] ?_
   obtain ⟨v10, hc, h⟩ := h
   refine Zl 27 9 (pblk b_) ((poff b_) + 5) 27 10 hc ?_
   refine Zf P2 [(0, .pointer b_), (2, .int .i64 i), (12, .bool (decide (i < ((v10.len : Nat) : Int))))] ?_
   change WpE _ _ c51_9 _ _ _
   refine Zc 12 (decide (i < ((v10.len : Nat) : Int))) c51_10 c51_11 (fun hb => ?_) (fun hb => ?_)
   · replace h := h.1 hb
     exact h.elim
   · replace h := h.2 hb
     refine wpE_exit (id := 0) (by kernel_rfl) ?_
     repeat (first | refine seqQ_exit ?_ | refine loopQ_exit ?_ | refine cutQ_exit ?_ | refine blockQ_hit ?_ | refine blockQ_miss (by kernel_rfl) ?_)
     refine retQ_normal ?_
     repeat (first | refine seqQ_ret ?_ | refine blockQ_ret ?_ | refine loopQ_ret ?_ | refine cutQ_ret ?_)
     exact retT (rs := []) (vs := []) (by kernel_rfl) (trivial) (by kernel_rfl) ⟨rfl, h⟩
 · rintro e w' ⟨v, rfl, rfl, h⟩; exact ⟨rfl, h⟩

/-! ### (*towpath/towpathlaw01.Book).growVersion (function 52) -/
def c52_0 := cb_ Tryz.f52
def c52_3 := cr_ c52_0
def c52_4 := cl_ c52_3
def c52_5 := cl_ c52_4
def c52_6 := cl_ c52_5
def c52_7 := cl_ c52_6
def r52_7 := co_ c52_7
def c52_9 := cr_ c52_6
def c52_10 := cl_ c52_9
def c52_11 := cr_ c52_9
def c52_12 := cr_ c52_5

theorem S_towpathlaw01_Book_growVersion {b_ : Option Addr} {w : World} {R : World → Prop} (h : F_towpathlaw01_Book_growVersion b_ R w) : C_towpathlaw01_Book_growVersion b_ w R := by
 unfold F_towpathlaw01_Book_growVersion at h
 unfold C_towpathlaw01_Book_growVersion
 refine Calls.mono (calls_of_wpE (args := [Value.pointer b_]) (R := fun v w' => v = Value.tuple #[] ∧ R w') Tryz.func52 (c := c52_0) (by kernel_rfl) 42 (by kernel_rfl) (by kernel_rfl) [(0, Value.pointer b_)] (by kernel_rfl) ?_) ?_
 · refine Zp c52_3 P1 [(0, .pointer b_), (2, .int .i64 0)] ?_
   refine Zb 0 c52_4 ?_
   obtain ⟨I, μ, h0, hr⟩ := h
   refine wpE_loop (x := c52_5) (by kernel_rfl) (fun m l w => ∃ (i : Int), l = [(0, Value.pointer b_), (2, Value.int .i64 i)] ∧ I i w ∧ μ i w = m) (l' := [(0, Value.pointer b_), (2, Value.int .i64 0)]) (Sub.mk (by kernel_rfl)) ⟨0, rfl, h0, rfl⟩ ?_
   rintro _ _ w1 ⟨i, rfl, hI, rfl⟩
   obtain ⟨again_, again__h, h⟩ : ∃ again_ : Int → World → Prop, (∀ i' w', again_ i' w' → I i' w' ∧ μ i' w' < μ i w1) ∧ F_towpathlaw01_Book_growVersion_L0 b_ R again_ i w1 := ⟨_, fun _ _ h => h, hr i w1 hI⟩
   clear h0 hI
   unfold F_towpathlaw01_Book_growVersion_L0 at h
   refine Zs c52_6 c52_12 ?_
   refine Zt r52_7 c52_9 ?_
   refine Zn P2 2 [(0, [], .pointer b_), (2, [], .int .i64 i), (6, [], .int .i64 i), (7, [], .pointer b_)] ?_
   obtain ⟨hp_3, h⟩ := h
   refine Zv (fun pp => [(0, [], .pointer b_), (2, [], .int .i64 i), (6, [], .int .i64 i), (7, [], .pointer pp)]) hp_3 ?_
   refine Zn P1 3 [(0, [], .pointer b_), (2, [], .int .i64 i), (6, [], .int .i64 i), (7, [], .pointer (some ⟨(pblk b_), (poff b_), none⟩)), (8, [], .pointer (some ⟨(pblk b_), (poff b_), none⟩))] ?_
   refine Zn P1 4 [(0, [], .pointer b_), (2, [], .int .i64 i), (6, [], .int .i64 i), (9, [], .pointer (some ⟨(pblk b_), (poff b_) + 6, none⟩))] ?_
   obtain ⟨v10, hc, h⟩ := h
   refine Zl 28 9 (pblk b_) ((poff b_) + 6) 28 10 hc ?_
   refine Zf P2 [(0, .pointer b_), (2, .int .i64 i), (12, .bool (decide (i < ((v10.len : Nat) : Int))))] ?_
   change WpE _ _ c52_9 _ _ _
   refine Zc 12 (decide (i < ((v10.len : Nat) : Int))) c52_10 c52_11 (fun hb => ?_) (fun hb => ?_)
   · replace h := h.1 hb
     exact h.elim
   · replace h := h.2 hb
     refine wpE_exit (id := 0) (by kernel_rfl) ?_
     repeat (first | refine seqQ_exit ?_ | refine loopQ_exit ?_ | refine cutQ_exit ?_ | refine blockQ_hit ?_ | refine blockQ_miss (by kernel_rfl) ?_)
     refine retQ_normal ?_
     repeat (first | refine seqQ_ret ?_ | refine blockQ_ret ?_ | refine loopQ_ret ?_ | refine cutQ_ret ?_)
     exact retT (rs := []) (vs := []) (by kernel_rfl) (trivial) (by kernel_rfl) ⟨rfl, h⟩
 · rintro e w' ⟨v, rfl, rfl, h⟩; exact ⟨rfl, h⟩

/-! ### (*towpath/towpathlaw01.Book).growTxn (function 53) -/
def c53_0 := cb_ Tryz.f53
def c53_3 := cr_ c53_0
def c53_4 := cl_ c53_3
def c53_5 := cl_ c53_4
def c53_6 := cl_ c53_5
def c53_7 := cl_ c53_6
def r53_7 := co_ c53_7
def c53_9 := cr_ c53_6
def c53_10 := cl_ c53_9
def c53_11 := cr_ c53_9
def c53_12 := cr_ c53_5

theorem S_towpathlaw01_Book_growTxn {b_ : Option Addr} {w : World} {R : World → Prop} (h : F_towpathlaw01_Book_growTxn b_ R w) : C_towpathlaw01_Book_growTxn b_ w R := by
 unfold F_towpathlaw01_Book_growTxn at h
 unfold C_towpathlaw01_Book_growTxn
 refine Calls.mono (calls_of_wpE (args := [Value.pointer b_]) (R := fun v w' => v = Value.tuple #[] ∧ R w') Tryz.func53 (c := c53_0) (by kernel_rfl) 42 (by kernel_rfl) (by kernel_rfl) [(0, Value.pointer b_)] (by kernel_rfl) ?_) ?_
 · refine Zp c53_3 P1 [(0, .pointer b_), (2, .int .i64 0)] ?_
   refine Zb 0 c53_4 ?_
   obtain ⟨I, μ, h0, hr⟩ := h
   refine wpE_loop (x := c53_5) (by kernel_rfl) (fun m l w => ∃ (i : Int), l = [(0, Value.pointer b_), (2, Value.int .i64 i)] ∧ I i w ∧ μ i w = m) (l' := [(0, Value.pointer b_), (2, Value.int .i64 0)]) (Sub.mk (by kernel_rfl)) ⟨0, rfl, h0, rfl⟩ ?_
   rintro _ _ w1 ⟨i, rfl, hI, rfl⟩
   obtain ⟨again_, again__h, h⟩ : ∃ again_ : Int → World → Prop, (∀ i' w', again_ i' w' → I i' w' ∧ μ i' w' < μ i w1) ∧ F_towpathlaw01_Book_growTxn_L0 b_ R again_ i w1 := ⟨_, fun _ _ h => h, hr i w1 hI⟩
   clear h0 hI
   unfold F_towpathlaw01_Book_growTxn_L0 at h
   refine Zs c53_6 c53_12 ?_
   refine Zt r53_7 c53_9 ?_
   refine Zn P2 2 [(0, [], .pointer b_), (2, [], .int .i64 i), (6, [], .int .i64 i), (7, [], .pointer b_)] ?_
   obtain ⟨hp_3, h⟩ := h
   refine Zv (fun pp => [(0, [], .pointer b_), (2, [], .int .i64 i), (6, [], .int .i64 i), (7, [], .pointer pp)]) hp_3 ?_
   refine Zn P1 3 [(0, [], .pointer b_), (2, [], .int .i64 i), (6, [], .int .i64 i), (7, [], .pointer (some ⟨(pblk b_), (poff b_), none⟩)), (8, [], .pointer (some ⟨(pblk b_), (poff b_), none⟩))] ?_
   refine Zn P1 4 [(0, [], .pointer b_), (2, [], .int .i64 i), (6, [], .int .i64 i), (9, [], .pointer (some ⟨(pblk b_), (poff b_) + 7, none⟩))] ?_
   obtain ⟨v10, hc, h⟩ := h
   refine Zl 29 9 (pblk b_) ((poff b_) + 7) 29 10 hc ?_
   refine Zf P2 [(0, .pointer b_), (2, .int .i64 i), (12, .bool (decide (i < ((v10.len : Nat) : Int))))] ?_
   change WpE _ _ c53_9 _ _ _
   refine Zc 12 (decide (i < ((v10.len : Nat) : Int))) c53_10 c53_11 (fun hb => ?_) (fun hb => ?_)
   · replace h := h.1 hb
     exact h.elim
   · replace h := h.2 hb
     refine wpE_exit (id := 0) (by kernel_rfl) ?_
     repeat (first | refine seqQ_exit ?_ | refine loopQ_exit ?_ | refine cutQ_exit ?_ | refine blockQ_hit ?_ | refine blockQ_miss (by kernel_rfl) ?_)
     refine retQ_normal ?_
     repeat (first | refine seqQ_ret ?_ | refine blockQ_ret ?_ | refine loopQ_ret ?_ | refine cutQ_ret ?_)
     exact retT (rs := []) (vs := []) (by kernel_rfl) (trivial) (by kernel_rfl) ⟨rfl, h⟩
 · rintro e w' ⟨v, rfl, rfl, h⟩; exact ⟨rfl, h⟩

/-! ### (*towpath/towpathlaw01.Book).growHeld (function 54) -/
def c54_0 := cb_ Tryz.f54
def c54_3 := cr_ c54_0
def c54_4 := cl_ c54_3
def c54_5 := cl_ c54_4
def c54_6 := cl_ c54_5
def c54_7 := cl_ c54_6
def r54_7 := co_ c54_7
def c54_9 := cr_ c54_6
def c54_10 := cl_ c54_9
def c54_11 := cr_ c54_9
def c54_12 := cr_ c54_5

theorem S_towpathlaw01_Book_growHeld {b_ : Option Addr} {w : World} {R : World → Prop} (h : F_towpathlaw01_Book_growHeld b_ R w) : C_towpathlaw01_Book_growHeld b_ w R := by
 unfold F_towpathlaw01_Book_growHeld at h
 unfold C_towpathlaw01_Book_growHeld
 refine Calls.mono (calls_of_wpE (args := [Value.pointer b_]) (R := fun v w' => v = Value.tuple #[] ∧ R w') Tryz.func54 (c := c54_0) (by kernel_rfl) 42 (by kernel_rfl) (by kernel_rfl) [(0, Value.pointer b_)] (by kernel_rfl) ?_) ?_
 · refine Zp c54_3 P1 [(0, .pointer b_), (2, .int .i64 0)] ?_
   refine Zb 0 c54_4 ?_
   obtain ⟨I, μ, h0, hr⟩ := h
   refine wpE_loop (x := c54_5) (by kernel_rfl) (fun m l w => ∃ (i : Int), l = [(0, Value.pointer b_), (2, Value.int .i64 i)] ∧ I i w ∧ μ i w = m) (l' := [(0, Value.pointer b_), (2, Value.int .i64 0)]) (Sub.mk (by kernel_rfl)) ⟨0, rfl, h0, rfl⟩ ?_
   rintro _ _ w1 ⟨i, rfl, hI, rfl⟩
   obtain ⟨again_, again__h, h⟩ : ∃ again_ : Int → World → Prop, (∀ i' w', again_ i' w' → I i' w' ∧ μ i' w' < μ i w1) ∧ F_towpathlaw01_Book_growHeld_L0 b_ R again_ i w1 := ⟨_, fun _ _ h => h, hr i w1 hI⟩
   clear h0 hI
   unfold F_towpathlaw01_Book_growHeld_L0 at h
   refine Zs c54_6 c54_12 ?_
   refine Zt r54_7 c54_9 ?_
   refine Zn P2 2 [(0, [], .pointer b_), (2, [], .int .i64 i), (6, [], .int .i64 i), (7, [], .pointer b_)] ?_
   obtain ⟨hp_3, h⟩ := h
   refine Zv (fun pp => [(0, [], .pointer b_), (2, [], .int .i64 i), (6, [], .int .i64 i), (7, [], .pointer pp)]) hp_3 ?_
   refine Zn P1 3 [(0, [], .pointer b_), (2, [], .int .i64 i), (6, [], .int .i64 i), (7, [], .pointer (some ⟨(pblk b_), (poff b_), none⟩)), (8, [], .pointer (some ⟨(pblk b_), (poff b_), none⟩))] ?_
   refine Zn P1 4 [(0, [], .pointer b_), (2, [], .int .i64 i), (6, [], .int .i64 i), (9, [], .pointer (some ⟨(pblk b_), (poff b_) + 8, none⟩))] ?_
   obtain ⟨v10, hc, h⟩ := h
   refine Zl 30 9 (pblk b_) ((poff b_) + 8) 30 10 hc ?_
   refine Zf P2 [(0, .pointer b_), (2, .int .i64 i), (12, .bool (decide (i < ((v10.len : Nat) : Int))))] ?_
   change WpE _ _ c54_9 _ _ _
   refine Zc 12 (decide (i < ((v10.len : Nat) : Int))) c54_10 c54_11 (fun hb => ?_) (fun hb => ?_)
   · replace h := h.1 hb
     exact h.elim
   · replace h := h.2 hb
     refine wpE_exit (id := 0) (by kernel_rfl) ?_
     repeat (first | refine seqQ_exit ?_ | refine loopQ_exit ?_ | refine cutQ_exit ?_ | refine blockQ_hit ?_ | refine blockQ_miss (by kernel_rfl) ?_)
     refine retQ_normal ?_
     repeat (first | refine seqQ_ret ?_ | refine blockQ_ret ?_ | refine loopQ_ret ?_ | refine cutQ_ret ?_)
     exact retT (rs := []) (vs := []) (by kernel_rfl) (trivial) (by kernel_rfl) ⟨rfl, h⟩
 · rintro e w' ⟨v, rfl, rfl, h⟩; exact ⟨rfl, h⟩

/-! ### (*towpath/towpathlaw01.Book).growHeldList (function 55) -/
def c55_0 := cb_ Tryz.f55
def c55_3 := cr_ c55_0
def c55_4 := cl_ c55_3
def c55_5 := cl_ c55_4
def c55_6 := cl_ c55_5
def c55_7 := cl_ c55_6
def r55_7 := co_ c55_7
def c55_9 := cr_ c55_6
def c55_10 := cl_ c55_9
def c55_11 := cr_ c55_9
def c55_12 := cr_ c55_5

theorem S_towpathlaw01_Book_growHeldList {b_ : Option Addr} {w : World} {R : World → Prop} (h : F_towpathlaw01_Book_growHeldList b_ R w) : C_towpathlaw01_Book_growHeldList b_ w R := by
 unfold F_towpathlaw01_Book_growHeldList at h
 unfold C_towpathlaw01_Book_growHeldList
 refine Calls.mono (calls_of_wpE (args := [Value.pointer b_]) (R := fun v w' => v = Value.tuple #[] ∧ R w') Tryz.func55 (c := c55_0) (by kernel_rfl) 42 (by kernel_rfl) (by kernel_rfl) [(0, Value.pointer b_)] (by kernel_rfl) ?_) ?_
 · refine Zp c55_3 P1 [(0, .pointer b_), (2, .int .i64 0)] ?_
   refine Zb 0 c55_4 ?_
   obtain ⟨I, μ, h0, hr⟩ := h
   refine wpE_loop (x := c55_5) (by kernel_rfl) (fun m l w => ∃ (i : Int), l = [(0, Value.pointer b_), (2, Value.int .i64 i)] ∧ I i w ∧ μ i w = m) (l' := [(0, Value.pointer b_), (2, Value.int .i64 0)]) (Sub.mk (by kernel_rfl)) ⟨0, rfl, h0, rfl⟩ ?_
   rintro _ _ w1 ⟨i, rfl, hI, rfl⟩
   obtain ⟨again_, again__h, h⟩ : ∃ again_ : Int → World → Prop, (∀ i' w', again_ i' w' → I i' w' ∧ μ i' w' < μ i w1) ∧ F_towpathlaw01_Book_growHeldList_L0 b_ R again_ i w1 := ⟨_, fun _ _ h => h, hr i w1 hI⟩
   clear h0 hI
   unfold F_towpathlaw01_Book_growHeldList_L0 at h
   refine Zs c55_6 c55_12 ?_
   refine Zt r55_7 c55_9 ?_
   refine Zn P2 2 [(0, [], .pointer b_), (2, [], .int .i64 i), (6, [], .int .i64 i), (7, [], .pointer b_)] ?_
   obtain ⟨hp_3, h⟩ := h
   refine Zv (fun pp => [(0, [], .pointer b_), (2, [], .int .i64 i), (6, [], .int .i64 i), (7, [], .pointer pp)]) hp_3 ?_
   refine Zn P1 3 [(0, [], .pointer b_), (2, [], .int .i64 i), (6, [], .int .i64 i), (7, [], .pointer (some ⟨(pblk b_), (poff b_), none⟩)), (8, [], .pointer (some ⟨(pblk b_), (poff b_), none⟩))] ?_
   refine Zn P1 4 [(0, [], .pointer b_), (2, [], .int .i64 i), (6, [], .int .i64 i), (9, [], .pointer (some ⟨(pblk b_), (poff b_) + 9, none⟩))] ?_
   obtain ⟨v10, hc, h⟩ := h
   refine Zl 31 9 (pblk b_) ((poff b_) + 9) 31 10 hc ?_
   refine Zf P2 [(0, .pointer b_), (2, .int .i64 i), (12, .bool (decide (i < ((v10.len : Nat) : Int))))] ?_
   change WpE _ _ c55_9 _ _ _
   refine Zc 12 (decide (i < ((v10.len : Nat) : Int))) c55_10 c55_11 (fun hb => ?_) (fun hb => ?_)
   · replace h := h.1 hb
     exact h.elim
   · replace h := h.2 hb
     refine wpE_exit (id := 0) (by kernel_rfl) ?_
     repeat (first | refine seqQ_exit ?_ | refine loopQ_exit ?_ | refine cutQ_exit ?_ | refine blockQ_hit ?_ | refine blockQ_miss (by kernel_rfl) ?_)
     refine retQ_normal ?_
     repeat (first | refine seqQ_ret ?_ | refine blockQ_ret ?_ | refine loopQ_ret ?_ | refine cutQ_ret ?_)
     exact retT (rs := []) (vs := []) (by kernel_rfl) (trivial) (by kernel_rfl) ⟨rfl, h⟩
 · rintro e w' ⟨v, rfl, rfl, h⟩; exact ⟨rfl, h⟩

/-! ### (*towpath/towpathlaw01.Book).growEvent (function 56) -/
def c56_0 := cb_ Tryz.f56
def c56_3 := cr_ c56_0
def c56_4 := cl_ c56_3
def c56_5 := cl_ c56_4
def c56_6 := cl_ c56_5
def c56_7 := cl_ c56_6
def r56_7 := co_ c56_7
def c56_9 := cr_ c56_6
def c56_10 := cl_ c56_9
def c56_11 := cr_ c56_9
def c56_12 := cr_ c56_5

theorem S_towpathlaw01_Book_growEvent {b_ : Option Addr} {w : World} {R : World → Prop} (h : F_towpathlaw01_Book_growEvent b_ R w) : C_towpathlaw01_Book_growEvent b_ w R := by
 unfold F_towpathlaw01_Book_growEvent at h
 unfold C_towpathlaw01_Book_growEvent
 refine Calls.mono (calls_of_wpE (args := [Value.pointer b_]) (R := fun v w' => v = Value.tuple #[] ∧ R w') Tryz.func56 (c := c56_0) (by kernel_rfl) 42 (by kernel_rfl) (by kernel_rfl) [(0, Value.pointer b_)] (by kernel_rfl) ?_) ?_
 · refine Zp c56_3 P1 [(0, .pointer b_), (2, .int .i64 0)] ?_
   refine Zb 0 c56_4 ?_
   obtain ⟨I, μ, h0, hr⟩ := h
   refine wpE_loop (x := c56_5) (by kernel_rfl) (fun m l w => ∃ (i : Int), l = [(0, Value.pointer b_), (2, Value.int .i64 i)] ∧ I i w ∧ μ i w = m) (l' := [(0, Value.pointer b_), (2, Value.int .i64 0)]) (Sub.mk (by kernel_rfl)) ⟨0, rfl, h0, rfl⟩ ?_
   rintro _ _ w1 ⟨i, rfl, hI, rfl⟩
   obtain ⟨again_, again__h, h⟩ : ∃ again_ : Int → World → Prop, (∀ i' w', again_ i' w' → I i' w' ∧ μ i' w' < μ i w1) ∧ F_towpathlaw01_Book_growEvent_L0 b_ R again_ i w1 := ⟨_, fun _ _ h => h, hr i w1 hI⟩
   clear h0 hI
   unfold F_towpathlaw01_Book_growEvent_L0 at h
   refine Zs c56_6 c56_12 ?_
   refine Zt r56_7 c56_9 ?_
   refine Zn P2 2 [(0, [], .pointer b_), (2, [], .int .i64 i), (6, [], .int .i64 i), (7, [], .pointer b_)] ?_
   obtain ⟨hp_3, h⟩ := h
   refine Zv (fun pp => [(0, [], .pointer b_), (2, [], .int .i64 i), (6, [], .int .i64 i), (7, [], .pointer pp)]) hp_3 ?_
   refine Zn P1 3 [(0, [], .pointer b_), (2, [], .int .i64 i), (6, [], .int .i64 i), (7, [], .pointer (some ⟨(pblk b_), (poff b_), none⟩)), (8, [], .pointer (some ⟨(pblk b_), (poff b_), none⟩))] ?_
   refine Zn P1 4 [(0, [], .pointer b_), (2, [], .int .i64 i), (6, [], .int .i64 i), (9, [], .pointer (some ⟨(pblk b_), (poff b_) + 10, none⟩))] ?_
   obtain ⟨v10, hc, h⟩ := h
   refine Zl 32 9 (pblk b_) ((poff b_) + 10) 32 10 hc ?_
   refine Zf P2 [(0, .pointer b_), (2, .int .i64 i), (12, .bool (decide (i < ((v10.len : Nat) : Int))))] ?_
   change WpE _ _ c56_9 _ _ _
   refine Zc 12 (decide (i < ((v10.len : Nat) : Int))) c56_10 c56_11 (fun hb => ?_) (fun hb => ?_)
   · replace h := h.1 hb
     exact h.elim
   · replace h := h.2 hb
     refine wpE_exit (id := 0) (by kernel_rfl) ?_
     repeat (first | refine seqQ_exit ?_ | refine loopQ_exit ?_ | refine cutQ_exit ?_ | refine blockQ_hit ?_ | refine blockQ_miss (by kernel_rfl) ?_)
     refine retQ_normal ?_
     repeat (first | refine seqQ_ret ?_ | refine blockQ_ret ?_ | refine loopQ_ret ?_ | refine cutQ_ret ?_)
     exact retT (rs := []) (vs := []) (by kernel_rfl) (trivial) (by kernel_rfl) ⟨rfl, h⟩
 · rintro e w' ⟨v, rfl, rfl, h⟩; exact ⟨rfl, h⟩

/-! ### (*towpath/towpathlaw01.Book).growAnswer (function 57) -/
def c57_0 := cb_ Tryz.f57
def c57_3 := cr_ c57_0
def c57_4 := cl_ c57_3
def c57_5 := cl_ c57_4
def c57_6 := cl_ c57_5
def c57_7 := cl_ c57_6
def r57_7 := co_ c57_7
def c57_9 := cr_ c57_6
def c57_10 := cl_ c57_9
def c57_11 := cr_ c57_9
def c57_12 := cr_ c57_5

theorem S_towpathlaw01_Book_growAnswer {b_ : Option Addr} {w : World} {R : World → Prop} (h : F_towpathlaw01_Book_growAnswer b_ R w) : C_towpathlaw01_Book_growAnswer b_ w R := by
 unfold F_towpathlaw01_Book_growAnswer at h
 unfold C_towpathlaw01_Book_growAnswer
 refine Calls.mono (calls_of_wpE (args := [Value.pointer b_]) (R := fun v w' => v = Value.tuple #[] ∧ R w') Tryz.func57 (c := c57_0) (by kernel_rfl) 42 (by kernel_rfl) (by kernel_rfl) [(0, Value.pointer b_)] (by kernel_rfl) ?_) ?_
 · refine Zp c57_3 P1 [(0, .pointer b_), (2, .int .i64 0)] ?_
   refine Zb 0 c57_4 ?_
   obtain ⟨I, μ, h0, hr⟩ := h
   refine wpE_loop (x := c57_5) (by kernel_rfl) (fun m l w => ∃ (i : Int), l = [(0, Value.pointer b_), (2, Value.int .i64 i)] ∧ I i w ∧ μ i w = m) (l' := [(0, Value.pointer b_), (2, Value.int .i64 0)]) (Sub.mk (by kernel_rfl)) ⟨0, rfl, h0, rfl⟩ ?_
   rintro _ _ w1 ⟨i, rfl, hI, rfl⟩
   obtain ⟨again_, again__h, h⟩ : ∃ again_ : Int → World → Prop, (∀ i' w', again_ i' w' → I i' w' ∧ μ i' w' < μ i w1) ∧ F_towpathlaw01_Book_growAnswer_L0 b_ R again_ i w1 := ⟨_, fun _ _ h => h, hr i w1 hI⟩
   clear h0 hI
   unfold F_towpathlaw01_Book_growAnswer_L0 at h
   refine Zs c57_6 c57_12 ?_
   refine Zt r57_7 c57_9 ?_
   refine Zn P2 2 [(0, [], .pointer b_), (2, [], .int .i64 i), (6, [], .int .i64 i), (7, [], .pointer b_)] ?_
   obtain ⟨hp_3, h⟩ := h
   refine Zv (fun pp => [(0, [], .pointer b_), (2, [], .int .i64 i), (6, [], .int .i64 i), (7, [], .pointer pp)]) hp_3 ?_
   refine Zn P1 3 [(0, [], .pointer b_), (2, [], .int .i64 i), (6, [], .int .i64 i), (7, [], .pointer (some ⟨(pblk b_), (poff b_), none⟩)), (8, [], .pointer (some ⟨(pblk b_), (poff b_), none⟩))] ?_
   refine Zn P1 4 [(0, [], .pointer b_), (2, [], .int .i64 i), (6, [], .int .i64 i), (9, [], .pointer (some ⟨(pblk b_), (poff b_) + 11, none⟩))] ?_
   obtain ⟨v10, hc, h⟩ := h
   refine Zl 33 9 (pblk b_) ((poff b_) + 11) 33 10 hc ?_
   refine Zf P2 [(0, .pointer b_), (2, .int .i64 i), (12, .bool (decide (i < ((v10.len : Nat) : Int))))] ?_
   change WpE _ _ c57_9 _ _ _
   refine Zc 12 (decide (i < ((v10.len : Nat) : Int))) c57_10 c57_11 (fun hb => ?_) (fun hb => ?_)
   · replace h := h.1 hb
     exact h.elim
   · replace h := h.2 hb
     refine wpE_exit (id := 0) (by kernel_rfl) ?_
     repeat (first | refine seqQ_exit ?_ | refine loopQ_exit ?_ | refine cutQ_exit ?_ | refine blockQ_hit ?_ | refine blockQ_miss (by kernel_rfl) ?_)
     refine retQ_normal ?_
     repeat (first | refine seqQ_ret ?_ | refine blockQ_ret ?_ | refine loopQ_ret ?_ | refine cutQ_ret ?_)
     exact retT (rs := []) (vs := []) (by kernel_rfl) (trivial) (by kernel_rfl) ⟨rfl, h⟩
 · rintro e w' ⟨v, rfl, rfl, h⟩; exact ⟨rfl, h⟩
end
end Go.Proofs.YtpedclhflmhakaaGreatDoor
