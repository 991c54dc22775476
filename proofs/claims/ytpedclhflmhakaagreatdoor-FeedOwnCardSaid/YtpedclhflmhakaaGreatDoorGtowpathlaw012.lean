/- WRITTEN BY PROGRAM (dec.py): for each Go function the clean formula F, the call's contract C, and the proof S that F gives C. -/
import Derived.Test.YtpedclhflmhakaaGreatDoorRows
import Derived.Test.YtpedclhflmhakaaGreatDoorGF
namespace Go.Proofs.YtpedclhflmhakaaGreatDoor
open Go
set_option linter.unusedVariables false
set_option maxRecDepth 100000
set_option maxHeartbeats 4000000
noncomputable section

/-! ### (*towpath/towpathlaw01.Book).lookByte (function 58) -/
def c58_0 := cb_ Tryz.f58
def c58_3 := cr_ c58_0
def c58_4 := cl_ c58_3
def c58_7 := cr_ c58_4
def c58_8 := cl_ c58_7
def c58_9 := cl_ c58_8
def c58_10 := cl_ c58_9
def c58_11 := cl_ c58_10
def r58_11 := co_ c58_11
def c58_13 := cr_ c58_10
def c58_14 := cl_ c58_13
def c58_15 := cr_ c58_13
def c58_16 := cr_ c58_9
def c58_58 := cr_ c58_3
def c58_61 := cr_ c58_58

theorem S_towpathlaw01_Book_lookByte {b_ : Option Addr} {w : World} {R : Bool → World → Prop} (h : F_towpathlaw01_Book_lookByte b_ R w) : C_towpathlaw01_Book_lookByte b_ w R := by
 unfold F_towpathlaw01_Book_lookByte at h
 unfold C_towpathlaw01_Book_lookByte
 refine Calls.mono (calls_of_wpE (args := [Value.pointer b_]) (R := fun v w' => ∃ (r0 : Bool), v = Value.bool r0 ∧ R r0 w') Tryz.func58 (c := c58_0) (by kernel_rfl) 64 (by kernel_rfl) (by kernel_rfl) [(0, Value.pointer b_)] (by kernel_rfl) ?_) ?_
 · refine Zp c58_3 P1 [(0, .pointer b_)] ?_
   refine Zs c58_4 c58_58 ?_
   refine Zp c58_7 P1 [(0, .pointer b_), (3, .int .i64 0)] ?_
   refine Zb 0 c58_8 ?_
   obtain ⟨I, μ, h0, hr⟩ := h
   refine wpE_loop (x := c58_9) (by kernel_rfl) (fun m l w => ∃ (i : Int), l = [(0, Value.pointer b_), (3, Value.int .i64 i)] ∧ I i w ∧ μ i w = m) (l' := [(0, Value.pointer b_), (3, Value.int .i64 0)]) (Sub.mk (by kernel_rfl)) ⟨0, rfl, h0, rfl⟩ ?_
   rintro _ _ w1 ⟨i, rfl, hI, rfl⟩
   obtain ⟨again_, again__h, h⟩ : ∃ again_ : Int → World → Prop, (∀ i' w', again_ i' w' → I i' w' ∧ μ i' w' < μ i w1) ∧ F_towpathlaw01_Book_lookByte_L0 b_ R again_ i w1 := ⟨_, fun _ _ h => h, hr i w1 hI⟩
   clear h0 hI
   unfold F_towpathlaw01_Book_lookByte_L0 at h
   refine Zs c58_10 c58_16 ?_
   refine Zt r58_11 c58_13 ?_
   refine Zn P2 2 [(0, [], .pointer b_), (3, [], .int .i64 i), (6, [], .int .i64 i), (7, [], .pointer b_)] ?_
   obtain ⟨hp_7, h⟩ := h
   refine Zv (fun pp => [(0, [], .pointer b_), (3, [], .int .i64 i), (6, [], .int .i64 i), (7, [], .pointer pp)]) hp_7 ?_
   refine Zn P1 3 [(0, [], .pointer b_), (3, [], .int .i64 i), (6, [], .int .i64 i), (7, [], .pointer (some ⟨(pblk b_), (poff b_), none⟩)), (8, [], .pointer (some ⟨(pblk b_), (poff b_), none⟩))] ?_
   refine Zn P1 4 [(0, [], .pointer b_), (3, [], .int .i64 i), (6, [], .int .i64 i), (9, [], .pointer (some ⟨(pblk b_), (poff b_) + 1, none⟩))] ?_
   obtain ⟨v10, hc, h⟩ := h
   refine Zl 23 9 (pblk b_) ((poff b_) + 1) 23 10 hc ?_
   refine Zf P2 [(0, .pointer b_), (3, .int .i64 i), (12, .bool (decide (i < ((v10.len : Nat) : Int))))] ?_
   change WpE _ _ c58_13 _ _ _
   refine Zc 12 (decide (i < ((v10.len : Nat) : Int))) c58_14 c58_15 (fun hb => ?_) (fun hb => ?_)
   · replace h := h.1 hb
     exact h.elim
   · replace h := h.2 hb
     refine wpE_exit (id := 0) (by kernel_rfl) ?_
     change WpE _ _ c58_58 _ _ _
     refine Zp c58_61 P1 [(2, .bool true)] ?_
     refine wpE_ret (by kernel_rfl) ?_
     repeat (first | refine seqQ_ret ?_ | refine blockQ_ret ?_ | refine loopQ_ret ?_ | refine cutQ_ret ?_)
     exact retS (rs := [(ResultVar.tmp 2)]) (v := Value.bool true) (by kernel_rfl) (⟨by kernel_rfl, trivial⟩) ⟨true, rfl, h⟩
 · rintro e w' ⟨v, rfl, r0, rfl, h⟩; exact ⟨r0, rfl, h⟩

/-! ### (*towpath/towpathlaw01.Book).lookInt (function 59) -/
def c59_0 := cb_ Tryz.f59
def c59_3 := cr_ c59_0
def c59_4 := cl_ c59_3
def c59_7 := cr_ c59_4
def c59_8 := cl_ c59_7
def c59_9 := cl_ c59_8
def c59_10 := cl_ c59_9
def c59_11 := cl_ c59_10
def r59_11 := co_ c59_11
def c59_13 := cr_ c59_10
def c59_14 := cl_ c59_13
def c59_15 := cr_ c59_13
def c59_16 := cr_ c59_9
def c59_58 := cr_ c59_3
def c59_61 := cr_ c59_58

theorem S_towpathlaw01_Book_lookInt {b_ : Option Addr} {w : World} {R : Bool → World → Prop} (h : F_towpathlaw01_Book_lookInt b_ R w) : C_towpathlaw01_Book_lookInt b_ w R := by
 unfold F_towpathlaw01_Book_lookInt at h
 unfold C_towpathlaw01_Book_lookInt
 refine Calls.mono (calls_of_wpE (args := [Value.pointer b_]) (R := fun v w' => ∃ (r0 : Bool), v = Value.bool r0 ∧ R r0 w') Tryz.func59 (c := c59_0) (by kernel_rfl) 64 (by kernel_rfl) (by kernel_rfl) [(0, Value.pointer b_)] (by kernel_rfl) ?_) ?_
 · refine Zp c59_3 P1 [(0, .pointer b_)] ?_
   refine Zs c59_4 c59_58 ?_
   refine Zp c59_7 P1 [(0, .pointer b_), (3, .int .i64 0)] ?_
   refine Zb 0 c59_8 ?_
   obtain ⟨I, μ, h0, hr⟩ := h
   refine wpE_loop (x := c59_9) (by kernel_rfl) (fun m l w => ∃ (i : Int), l = [(0, Value.pointer b_), (3, Value.int .i64 i)] ∧ I i w ∧ μ i w = m) (l' := [(0, Value.pointer b_), (3, Value.int .i64 0)]) (Sub.mk (by kernel_rfl)) ⟨0, rfl, h0, rfl⟩ ?_
   rintro _ _ w1 ⟨i, rfl, hI, rfl⟩
   obtain ⟨again_, again__h, h⟩ : ∃ again_ : Int → World → Prop, (∀ i' w', again_ i' w' → I i' w' ∧ μ i' w' < μ i w1) ∧ F_towpathlaw01_Book_lookInt_L0 b_ R again_ i w1 := ⟨_, fun _ _ h => h, hr i w1 hI⟩
   clear h0 hI
   unfold F_towpathlaw01_Book_lookInt_L0 at h
   refine Zs c59_10 c59_16 ?_
   refine Zt r59_11 c59_13 ?_
   refine Zn P2 2 [(0, [], .pointer b_), (3, [], .int .i64 i), (6, [], .int .i64 i), (7, [], .pointer b_)] ?_
   obtain ⟨hp_7, h⟩ := h
   refine Zv (fun pp => [(0, [], .pointer b_), (3, [], .int .i64 i), (6, [], .int .i64 i), (7, [], .pointer pp)]) hp_7 ?_
   refine Zn P1 3 [(0, [], .pointer b_), (3, [], .int .i64 i), (6, [], .int .i64 i), (7, [], .pointer (some ⟨(pblk b_), (poff b_), none⟩)), (8, [], .pointer (some ⟨(pblk b_), (poff b_), none⟩))] ?_
   refine Zn P1 4 [(0, [], .pointer b_), (3, [], .int .i64 i), (6, [], .int .i64 i), (9, [], .pointer (some ⟨(pblk b_), (poff b_) + 2, none⟩))] ?_
   obtain ⟨v10, hc, h⟩ := h
   refine Zl 24 9 (pblk b_) ((poff b_) + 2) 24 10 hc ?_
   refine Zf P2 [(0, .pointer b_), (3, .int .i64 i), (12, .bool (decide (i < ((v10.len : Nat) : Int))))] ?_
   change WpE _ _ c59_13 _ _ _
   refine Zc 12 (decide (i < ((v10.len : Nat) : Int))) c59_14 c59_15 (fun hb => ?_) (fun hb => ?_)
   · replace h := h.1 hb
     exact h.elim
   · replace h := h.2 hb
     refine wpE_exit (id := 0) (by kernel_rfl) ?_
     change WpE _ _ c59_58 _ _ _
     refine Zp c59_61 P1 [(2, .bool true)] ?_
     refine wpE_ret (by kernel_rfl) ?_
     repeat (first | refine seqQ_ret ?_ | refine blockQ_ret ?_ | refine loopQ_ret ?_ | refine cutQ_ret ?_)
     exact retS (rs := [(ResultVar.tmp 2)]) (v := Value.bool true) (by kernel_rfl) (⟨by kernel_rfl, trivial⟩) ⟨true, rfl, h⟩
 · rintro e w' ⟨v, rfl, r0, rfl, h⟩; exact ⟨r0, rfl, h⟩

/-! ### (*towpath/towpathlaw01.Book).lookText (function 60) -/
def c60_0 := cb_ Tryz.f60
def c60_3 := cr_ c60_0
def c60_4 := cl_ c60_3
def c60_7 := cr_ c60_4
def c60_8 := cl_ c60_7
def c60_9 := cl_ c60_8
def c60_10 := cl_ c60_9
def c60_11 := cl_ c60_10
def r60_11 := co_ c60_11
def c60_13 := cr_ c60_10
def c60_14 := cl_ c60_13
def c60_15 := cr_ c60_13
def c60_16 := cr_ c60_9
def c60_58 := cr_ c60_3
def c60_61 := cr_ c60_58

theorem S_towpathlaw01_Book_lookText {b_ : Option Addr} {w : World} {R : Bool → World → Prop} (h : F_towpathlaw01_Book_lookText b_ R w) : C_towpathlaw01_Book_lookText b_ w R := by
 unfold F_towpathlaw01_Book_lookText at h
 unfold C_towpathlaw01_Book_lookText
 refine Calls.mono (calls_of_wpE (args := [Value.pointer b_]) (R := fun v w' => ∃ (r0 : Bool), v = Value.bool r0 ∧ R r0 w') Tryz.func60 (c := c60_0) (by kernel_rfl) 64 (by kernel_rfl) (by kernel_rfl) [(0, Value.pointer b_)] (by kernel_rfl) ?_) ?_
 · refine Zp c60_3 P1 [(0, .pointer b_)] ?_
   refine Zs c60_4 c60_58 ?_
   refine Zp c60_7 P1 [(0, .pointer b_), (3, .int .i64 0)] ?_
   refine Zb 0 c60_8 ?_
   obtain ⟨I, μ, h0, hr⟩ := h
   refine wpE_loop (x := c60_9) (by kernel_rfl) (fun m l w => ∃ (i : Int), l = [(0, Value.pointer b_), (3, Value.int .i64 i)] ∧ I i w ∧ μ i w = m) (l' := [(0, Value.pointer b_), (3, Value.int .i64 0)]) (Sub.mk (by kernel_rfl)) ⟨0, rfl, h0, rfl⟩ ?_
   rintro _ _ w1 ⟨i, rfl, hI, rfl⟩
   obtain ⟨again_, again__h, h⟩ : ∃ again_ : Int → World → Prop, (∀ i' w', again_ i' w' → I i' w' ∧ μ i' w' < μ i w1) ∧ F_towpathlaw01_Book_lookText_L0 b_ R again_ i w1 := ⟨_, fun _ _ h => h, hr i w1 hI⟩
   clear h0 hI
   unfold F_towpathlaw01_Book_lookText_L0 at h
   refine Zs c60_10 c60_16 ?_
   refine Zt r60_11 c60_13 ?_
   refine Zn P2 2 [(0, [], .pointer b_), (3, [], .int .i64 i), (6, [], .int .i64 i), (7, [], .pointer b_)] ?_
   obtain ⟨hp_7, h⟩ := h
   refine Zv (fun pp => [(0, [], .pointer b_), (3, [], .int .i64 i), (6, [], .int .i64 i), (7, [], .pointer pp)]) hp_7 ?_
   refine Zn P1 3 [(0, [], .pointer b_), (3, [], .int .i64 i), (6, [], .int .i64 i), (7, [], .pointer (some ⟨(pblk b_), (poff b_), none⟩)), (8, [], .pointer (some ⟨(pblk b_), (poff b_), none⟩))] ?_
   refine Zn P1 4 [(0, [], .pointer b_), (3, [], .int .i64 i), (6, [], .int .i64 i), (9, [], .pointer (some ⟨(pblk b_), (poff b_) + 3, none⟩))] ?_
   obtain ⟨v10, hc, h⟩ := h
   refine Zl 25 9 (pblk b_) ((poff b_) + 3) 25 10 hc ?_
   refine Zf P2 [(0, .pointer b_), (3, .int .i64 i), (12, .bool (decide (i < ((v10.len : Nat) : Int))))] ?_
   change WpE _ _ c60_13 _ _ _
   refine Zc 12 (decide (i < ((v10.len : Nat) : Int))) c60_14 c60_15 (fun hb => ?_) (fun hb => ?_)
   · replace h := h.1 hb
     exact h.elim
   · replace h := h.2 hb
     refine wpE_exit (id := 0) (by kernel_rfl) ?_
     change WpE _ _ c60_58 _ _ _
     refine Zp c60_61 P1 [(2, .bool true)] ?_
     refine wpE_ret (by kernel_rfl) ?_
     repeat (first | refine seqQ_ret ?_ | refine blockQ_ret ?_ | refine loopQ_ret ?_ | refine cutQ_ret ?_)
     exact retS (rs := [(ResultVar.tmp 2)]) (v := Value.bool true) (by kernel_rfl) (⟨by kernel_rfl, trivial⟩) ⟨true, rfl, h⟩
 · rintro e w' ⟨v, rfl, r0, rfl, h⟩; exact ⟨r0, rfl, h⟩

/-! ### (*towpath/towpathlaw01.Book).lookWrite (function 61) -/
def c61_0 := cb_ Tryz.f61
def c61_3 := cr_ c61_0
def c61_4 := cl_ c61_3
def c61_7 := cr_ c61_4
def c61_8 := cl_ c61_7
def c61_9 := cl_ c61_8
def c61_10 := cl_ c61_9
def c61_11 := cl_ c61_10
def r61_11 := co_ c61_11
def c61_13 := cr_ c61_10
def c61_14 := cl_ c61_13
def c61_15 := cr_ c61_13
def c61_16 := cr_ c61_9
def c61_17 := cl_ c61_16
def c61_18 := cl_ c61_17
def c61_19 := cl_ c61_18
def r61_19 := co_ c61_19
def c61_21 := cr_ c61_18
def c61_22 := cl_ c61_21
def c61_23 := cl_ c61_22
def r61_23 := co_ c61_23
def c61_25 := cr_ c61_22
def c61_26 := cl_ c61_25
def c61_29 := cr_ c61_26
def c61_30 := cr_ c61_25
def c61_31 := cr_ c61_21
def c61_34 := cr_ c61_31
def c61_35 := cl_ c61_34
def c61_36 := cl_ c61_35
def c61_37 := cl_ c61_36
def c61_38 := cl_ c61_37
def r61_38 := co_ c61_38
def c61_40 := cr_ c61_37
def c61_41 := cl_ c61_40
def c61_42 := cr_ c61_40
def c61_43 := cr_ c61_36
def c61_44 := cl_ c61_43
def c61_45 := cl_ c61_44
def c61_46 := cl_ c61_45
def r61_46 := co_ c61_46
def c61_48 := cr_ c61_45
def c61_49 := cl_ c61_48
def c61_52 := cr_ c61_49
def c61_53 := cr_ c61_48
def c61_54 := cr_ c61_43
def r61_54 := co_ c61_54
def c61_56 := cr_ c61_16
def r61_56 := co_ c61_56
def c61_58 := cr_ c61_3
def c61_61 := cr_ c61_58
def o_towpathlaw01_Book_lookWrite_46 : List Nat := [0, 1, 2, 3, 4, 5, 6, 7, 8, 9, 10, 11, 12, 13, 14, 15, 16, 17, 18, 19, 20, 21, 22, 23, 24, 25, 26]

theorem S_towpathlaw01_Book_lookWrite {b_ : Option Addr} {w : World} {R : Bool → World → Prop} (h : F_towpathlaw01_Book_lookWrite b_ R w) : C_towpathlaw01_Book_lookWrite b_ w R := by
 unfold F_towpathlaw01_Book_lookWrite at h
 unfold C_towpathlaw01_Book_lookWrite
 refine Calls.mono (calls_of_wpE (args := [Value.pointer b_]) (R := fun v w' => ∃ (r0 : Bool), v = Value.bool r0 ∧ R r0 w') Tryz.func61 (c := c61_0) (by kernel_rfl) 64 (by kernel_rfl) (by kernel_rfl) [(0, Value.pointer b_)] (by kernel_rfl) ?_) ?_
 · refine Zp c61_3 P1 [(0, .pointer b_)] ?_
   refine Zs c61_4 c61_58 ?_
   refine Zp c61_7 P1 [(0, .pointer b_), (3, .int .i64 0)] ?_
   refine Zb 0 c61_8 ?_
   obtain ⟨I, μ, h0, hr⟩ := h
   refine wpE_loop (x := c61_9) (by kernel_rfl) (fun m l w => ∃ (i : Int), l = [(0, Value.pointer b_), (3, Value.int .i64 i)] ∧ I i w ∧ μ i w = m) (l' := [(0, Value.pointer b_), (3, Value.int .i64 0)]) (Sub.mk (by kernel_rfl)) ⟨0, rfl, h0, rfl⟩ ?_
   rintro _ _ w1 ⟨i, rfl, hI, rfl⟩
   obtain ⟨again_, again__h, h⟩ : ∃ again_ : Int → World → Prop, (∀ i' w', again_ i' w' → I i' w' ∧ μ i' w' < μ i w1) ∧ F_towpathlaw01_Book_lookWrite_L0 b_ R again_ i w1 := ⟨_, fun _ _ h => h, hr i w1 hI⟩
   clear h0 hI
   unfold F_towpathlaw01_Book_lookWrite_L0 at h
   refine Zs c61_10 c61_16 ?_
   refine Zt r61_11 c61_13 ?_
   refine Zn P2 2 [(0, [], .pointer b_), (3, [], .int .i64 i), (6, [], .int .i64 i), (7, [], .pointer b_)] ?_
   obtain ⟨hp_31, h⟩ := h
   refine Zv (fun pp => [(0, [], .pointer b_), (3, [], .int .i64 i), (6, [], .int .i64 i), (7, [], .pointer pp)]) hp_31 ?_
   refine Zn P1 3 [(0, [], .pointer b_), (3, [], .int .i64 i), (6, [], .int .i64 i), (7, [], .pointer (some ⟨(pblk b_), (poff b_), none⟩)), (8, [], .pointer (some ⟨(pblk b_), (poff b_), none⟩))] ?_
   refine Zn P1 4 [(0, [], .pointer b_), (3, [], .int .i64 i), (6, [], .int .i64 i), (9, [], .pointer (some ⟨(pblk b_), (poff b_) + 4, none⟩))] ?_
   obtain ⟨v10, hc, h⟩ := h
   refine Zl 26 9 (pblk b_) ((poff b_) + 4) 26 10 hc ?_
   refine Zf P2 [(0, .pointer b_), (3, .int .i64 i), (12, .bool (decide (i < ((v10.len : Nat) : Int))))] ?_
   change WpE _ _ c61_13 _ _ _
   refine Zc 12 (decide (i < ((v10.len : Nat) : Int))) c61_14 c61_15 (fun hb => ?_) (fun hb => ?_)
   · replace h := h.1 hb
     refine wpE_skip (by kernel_rfl) ?_
     change WpE _ _ c61_16 _ _ _
     refine Zs c61_17 c61_56 ?_
     refine Zb 1 c61_18 ?_
     refine Zt r61_19 c61_21 ?_
     refine Zn P1 1 [(0, [], .pointer b_), (3, [], .int .i64 i), (15, [], .pointer b_)] ?_
     obtain ⟨hp_46, h⟩ := h
     refine Zv (fun pp => [(0, [], .pointer b_), (3, [], .int .i64 i), (15, [], .pointer pp)]) hp_46 ?_
     refine Zn P1 2 [(0, [], .pointer b_), (3, [], .int .i64 i), (15, [], .pointer (some ⟨(pblk b_), (poff b_), none⟩)), (16, [], .pointer (some ⟨(pblk b_), (poff b_), none⟩))] ?_
     refine Zn P1 3 [(0, [], .pointer b_), (3, [], .int .i64 i), (17, [], .pointer (some ⟨(pblk b_), (poff b_) + 4, none⟩))] ?_
     obtain ⟨v18, hc, h⟩ := h
     refine Zl 26 17 (pblk b_) ((poff b_) + 4) 26 18 hc ?_
     refine Zn P1 5 [(0, [], .pointer b_), (3, [], .int .i64 i), (18, [], sv_ v18), (19, [], .int .i64 i)] ?_
     obtain ⟨hp_47, h⟩ := h
     refine Zv (fun pp => [(0, [], .pointer b_), (3, [], .int .i64 i), (18, [], .slice pp v18.len v18.cap), (19, [], .int .i64 i)]) hp_47 ?_
     obtain ⟨h0, h1, h⟩ := h
     refine Zj 26 156 18 19 (pblk v18.ptr) (poff v18.ptr) v18.len v18.cap i 3 20 0 h0 h1 ?_
     refine Zn [] 6 [(0, [], .pointer b_), (3, [], .int .i64 i), (20, [], .pointer (some ⟨(pblk v18.ptr), (poff v18.ptr) + i.toNat * 3, none⟩))] ?_
     obtain ⟨v21, hc, h⟩ := h
     refine reg_loadN (t := 156) (a := (Operand.tmp 20)) (b := (pblk v18.ptr)) (o := ((poff v18.ptr) + i.toNat * 3)) (ty := 156) (dst := some 21) [sv_ v21.l, sv_ v21.long, Value.int .i64 v21.n] (by kernel_rfl) (by kernel_rfl) (by kernel_rfl) (k := 3) (by kernel_rfl) (by kernel_rfl) hc ?_
     refine Zn [] 7 [(0, [], .pointer b_), (3, [], .int .i64 i), (21, [], .agg #[sv_ v21.l, sv_ v21.long, .int .i64 v21.n])] ?_
     refine Zw (some 4) (fun bb => pv_ bb) (Obj.cells ([.slice none 0 0, .slice none 0 0, .int .i64 0]).toArray ty_towpathlaw01_heldWrite (0, 0)) (fun b_1 w2 hb hw => ?_)
     replace h := h b_1 w2 hb hw
     clear hb hw
     refine Zn [] 8 [(0, [], .pointer b_), (3, [], .int .i64 i), (4, [], pv_ b_1), (21, [], .agg #[sv_ v21.l, sv_ v21.long, .int .i64 v21.n])] ?_
     obtain ⟨hc, h⟩ := h
     refine Zo 156 4 21 b_1 0 3 [sv_ v21.l, sv_ v21.long, .int .i64 v21.n] hc (fun w3 hw => ?_)
     replace h := h w3 hw
     clear hw
     refine Ze [(0, .pointer b_), (3, .int .i64 i), (4, pv_ b_1)] ?_
     change WpE _ _ c61_21 _ _ _
     refine Zs c61_22 c61_31 ?_
     refine Zt r61_23 c61_25 ?_
     refine Zn P1 1 [(0, [], .pointer b_), (3, [], .int .i64 i), (4, [], pv_ b_1), (22, [], .pointer (some ⟨b_1, 1, none⟩))] ?_
     obtain ⟨v23, hc, h⟩ := h
     refine Zl 47 22 b_1 1 47 23 hc ?_
     refine Zn P2 4 [(0, [], .pointer b_), (3, [], .int .i64 i), (4, [], pv_ b_1), (24, [], .int .i64 ((v23.len : Nat) : Int)), (25, [], pv_ b_1)] ?_
     obtain ⟨v26, hc, h⟩ := h
     refine Zl 47 25 b_1 0 47 26 hc ?_
     refine Zf P3 [(0, .pointer b_), (3, .int .i64 i), (4, pv_ b_1), (29, .bool (((v23.len : Nat) : Int) != (IntKind.i64.wrap (((v26.len : Nat) : Int) + 70))))] ?_
     change WpE _ _ c61_25 _ _ _
     refine Zc 29 (((v23.len : Nat) : Int) != (IntKind.i64.wrap (((v26.len : Nat) : Int) + 70))) c61_26 c61_30 (fun hb => ?_) (fun hb => ?_)
     · replace h := h.1 hb
       refine Zp c61_29 P1 [(2, .bool false)] ?_
       refine wpE_ret (by kernel_rfl) ?_
       repeat (first | refine seqQ_ret ?_ | refine blockQ_ret ?_ | refine loopQ_ret ?_ | refine cutQ_ret ?_)
       exact retS (rs := [(ResultVar.tmp 2)]) (v := Value.bool false) (by kernel_rfl) (⟨by kernel_rfl, trivial⟩) ⟨false, rfl, h⟩
     · replace h := h.2 hb
       refine wpE_skip (by kernel_rfl) ?_
       change WpE _ _ c61_31 _ _ _
       refine Zp c61_34 P1 [(0, .pointer b_), (3, .int .i64 i), (4, pv_ b_1), (5, .int .i64 0)] ?_
       refine Zb 2 c61_35 ?_
       obtain ⟨I, μ, h0, hr⟩ := h
       refine wpE_loop (x := c61_36) (by kernel_rfl) (fun m l w => ∃ (k_ : Int), l = [(0, Value.pointer b_), (3, Value.int .i64 i), (4, pv_ b_1), (5, Value.int .i64 k_)] ∧ I k_ w ∧ μ k_ w = m) (l' := [(0, Value.pointer b_), (3, Value.int .i64 i), (4, pv_ b_1), (5, Value.int .i64 0)]) (Sub.mk (by kernel_rfl)) ⟨0, rfl, h0, rfl⟩ ?_
       rintro _ _ w4 ⟨k_, rfl, hI, rfl⟩
       obtain ⟨again_1, again_1_h, h⟩ : ∃ again_1 : Int → World → Prop, (∀ k_' w', again_1 k_' w' → I k_' w' ∧ μ k_' w' < μ k_ w4) ∧ F_towpathlaw01_Book_lookWrite_L1 R i again_ b_1 again_1 k_ w4 := ⟨_, fun _ _ h => h, hr k_ w4 hI⟩
       clear h0 hI
       unfold F_towpathlaw01_Book_lookWrite_L1 at h
       refine Zs c61_37 c61_43 ?_
       refine Zt r61_38 c61_40 ?_
       refine Zn P2 2 [(0, [], .pointer b_), (3, [], .int .i64 i), (4, [], pv_ b_1), (5, [], .int .i64 k_), (30, [], .int .i64 k_), (31, [], .pointer (some ⟨b_1, 1, none⟩))] ?_
       obtain ⟨v32, hc, h⟩ := h
       refine Zl 47 31 b_1 1 47 32 hc ?_
       refine Zf P2 [(0, .pointer b_), (3, .int .i64 i), (4, pv_ b_1), (5, .int .i64 k_), (34, .bool (decide (k_ < ((v32.len : Nat) : Int))))] ?_
       change WpE _ _ c61_40 _ _ _
       refine Zc 34 (decide (k_ < ((v32.len : Nat) : Int))) c61_41 c61_42 (fun hb => ?_) (fun hb => ?_)
       · replace h := h.1 hb
         refine wpE_skip (by kernel_rfl) ?_
         change WpE _ _ c61_43 _ _ _
         refine Zs c61_44 c61_54 ?_
         refine Zb 3 c61_45 ?_
         refine wpE_seq_cut (x := c61_46) (y := c61_48) (by kernel_rfl) (fun l w => ∃ (t63 : Bool), l = [(0, Value.pointer b_), (3, Value.int .i64 i), (4, pv_ b_1), (5, Value.int .i64 k_), (63, Value.bool t63)] ∧ F_towpathlaw01_Book_lookWrite_k2 R k_ again_1 t63 w) ?_ ?_
         · refine wpE_mixregion (id := 10) (ops := r61_46) o_towpathlaw01_Book_lookWrite_46 (by kernel_rfl) (by kernel_rfl) (by kernel_rfl) (by kernel_rfl) (fun w6 hw => ?_)
           replace h := h w6 hw
           clear hw
           refine mreg_run P1 1 [(0, [], Value.pointer b_), (3, [], Value.int .i64 i), (4, [], pv_ b_1), (5, [], Value.int .i64 k_), (37, [], Value.pointer (some ⟨b_1, 1, none⟩))] (by kernel_rfl) (by kernel_rfl) ?_
           obtain ⟨v38, hc, h⟩ := h
           refine mreg_load1 (i := 1) (by kernel_rfl) (t := 47) (a := (Operand.tmp 37)) (b := b_1) (o := 1) (ty := 47) (dst := some 38) (by kernel_rfl) (by kernel_rfl) (by kernel_rfl) hc ?_
           refine mreg_run P1 3 [(0, [], Value.pointer b_), (3, [], Value.int .i64 i), (4, [], pv_ b_1), (5, [], Value.int .i64 k_), (38, [], sv_ v38), (39, [], Value.int .i64 k_)] (by kernel_rfl) (by kernel_rfl) ?_
           obtain ⟨hp_54, h⟩ := h
           refine mreg_conv [(0, [], Value.pointer b_), (3, [], Value.int .i64 i), (4, [], pv_ b_1), (5, [], Value.int .i64 k_), (38, [], Value.slice (some ⟨(pblk v38.ptr), (poff v38.ptr), none⟩) v38.len v38.cap), (39, [], Value.int .i64 k_)] (congrArg (fun pp => ([(0, [], Value.pointer b_), (3, [], Value.int .i64 i), (4, [], pv_ b_1), (5, [], Value.int .i64 k_), (38, [], Value.slice pp v38.len v38.cap), (39, [], Value.int .i64 k_)] : GEnv)) hp_54) ?_
           obtain ⟨h0, h1, h⟩ := h
           refine mreg_indexS (i := 3) (by kernel_rfl) (t := 47) (e := 80) (x := (Operand.tmp 38)) (ix := (Operand.tmp 39)) (b := (pblk v38.ptr)) (o := (poff v38.ptr)) (l := v38.len) (c := v38.cap) (k := .i64) (j := k_) (ty := 0) (dst := some 40) (sz := 3) (by kernel_rfl) (by kernel_rfl) (by kernel_rfl) (by kernel_rfl) (by kernel_rfl) h0 h1 ?_
           refine mreg_run [] 4 [(0, [], Value.pointer b_), (3, [], Value.int .i64 i), (4, [], pv_ b_1), (5, [], Value.int .i64 k_), (40, [], Value.pointer (some ⟨(pblk v38.ptr), (poff v38.ptr) + k_.toNat * 3, none⟩))] (by kernel_rfl) (by kernel_rfl) ?_
           obtain ⟨v41, hc, h⟩ := h
           refine mreg_loadN (i := 4) (by kernel_rfl) (t := 80) (a := (Operand.tmp 40)) (b := (pblk v38.ptr)) (o := ((poff v38.ptr) + k_.toNat * 3)) (ty := 80) (dst := some 41) [Value.string v41.Key, Value.string v41.Val, Value.bool v41.Drop] (by kernel_rfl) (by kernel_rfl) (by kernel_rfl) (k := 3) (by kernel_rfl) (by kernel_rfl) hc ?_
           refine mreg_run P1 6 [(0, [], Value.pointer b_), (3, [], Value.int .i64 i), (4, [], pv_ b_1), (5, [], Value.int .i64 k_), (41, [], Value.agg #[Value.string v41.Key, Value.string v41.Val, Value.bool v41.Drop]), (42, [], Value.pointer (some ⟨b_1, 2, none⟩))] (by kernel_rfl) (by kernel_rfl) ?_
           obtain ⟨v43, hc, h⟩ := h
           refine mreg_load1 (i := 6) (by kernel_rfl) (t := 3) (a := (Operand.tmp 42)) (b := b_1) (o := 2) (ty := 3) (dst := some 43) (by kernel_rfl) (by kernel_rfl) (by kernel_rfl) hc ?_
           refine mreg_run [] 7 [(0, [], Value.pointer b_), (3, [], Value.int .i64 i), (4, [], pv_ b_1), (5, [], Value.int .i64 k_), (41, [], Value.agg #[Value.string v41.Key, Value.string v41.Val, Value.bool v41.Drop]), (43, [], Value.int .i64 v43)] (by kernel_rfl) (by kernel_rfl) ?_
           refine mreg_enter (op := (Op.call (Call.mk (Callee.value (Operand.func 105)) #[(Operand.tmp 41), (Operand.tmp 43)] #[80, 3]))) (ty := 4) (dst := some 44) 7 [4, 6, 3, 5, 1, 2, 0] [] 105 #[Value.agg #[Value.string v41.Key, Value.string v41.Val, Value.bool v41.Drop], Value.int .i64 v43] (by kernel_rfl) (by kernel_rfl) (by kernel_rfl) (by kernel_rfl) (by kernel_rfl) (fun ww => by kernel_rfl) (Calls.mono h ?_)
           rintro _ w7 ⟨v44, rfl, h⟩
           refine ⟨_, rfl, trivial, ?_⟩
           refine mreg_run P4 12 [(0, [], Value.pointer b_), (3, [], Value.int .i64 i), (4, [], pv_ b_1), (5, [], Value.int .i64 k_), (46, [], Value.bool (!v44)), (47, [(46, false)], Value.int .i64 k_), (48, [(46, false)], pv_ b_1)] (by kernel_rfl) (by kernel_rfl) ?_
           refine mreg_split 46 (!v44) (by kernel_rfl) (fun hb => ?_) (fun hb => ?_)
           · replace h := h.1 hb
             refine mreg_run [] 12 [(0, [], Value.pointer b_), (3, [], Value.int .i64 i), (4, [], pv_ b_1), (5, [], Value.int .i64 k_), (46, [], Value.bool true), (47, [], undef), (48, [], undef)] (by kernel_rfl) (by kernel_rfl) ?_
             refine mreg_run [.skip, .skip, .skip, .skip, .skip, .skip, .skip, .skip, .skip, .skip, .skip, .skip, .skip, .skip, .plain] 27 [(0, [], Value.pointer b_), (3, [], Value.int .i64 i), (4, [], pv_ b_1), (5, [], Value.int .i64 k_), (63, [], Value.bool true)] (by kernel_rfl) (by kernel_rfl) ?_
             refine mreg_end [(0, Value.pointer b_), (3, Value.int .i64 i), (4, pv_ b_1), (5, Value.int .i64 k_), (63, Value.bool true)] (by kernel_rfl) (by kernel_rfl) (by kernel_rfl) ?_
             exact ⟨[(0, Value.pointer b_), (3, Value.int .i64 i), (4, pv_ b_1), (5, Value.int .i64 k_), (63, Value.bool true)], Sub.mk (by kernel_rfl), true, rfl, h⟩
           · replace h := h.2 hb
             refine mreg_run [] 12 [(0, [], Value.pointer b_), (3, [], Value.int .i64 i), (4, [], pv_ b_1), (5, [], Value.int .i64 k_), (46, [], Value.bool false), (47, [], Value.int .i64 k_), (48, [], pv_ b_1)] (by kernel_rfl) (by kernel_rfl) ?_
             refine mreg_run [] 12 [(0, [], Value.pointer b_), (3, [], Value.int .i64 i), (4, [], pv_ b_1), (5, [], Value.int .i64 k_), (46, [], Value.bool false), (47, [], Value.int .i64 k_), (48, [], pv_ b_1)] (by kernel_rfl) (by kernel_rfl) ?_
             obtain ⟨v49, hc, h⟩ := h
             refine mreg_load1 (i := 12) (by kernel_rfl) (t := 47) (a := (Operand.tmp 48)) (b := b_1) (o := 0) (ty := 47) (dst := some 49) (by kernel_rfl) (by kernel_rfl) (by kernel_rfl) hc ?_
             refine mreg_run [.sure, .sure, .sure, .plain] 17 [(0, [], Value.pointer b_), (3, [], Value.int .i64 i), (4, [], pv_ b_1), (5, [], Value.int .i64 k_), (46, [], Value.bool false), (52, [], Value.bool (decide (k_ < ((v49.len : Nat) : Int)))), (53, [(52, true)], pv_ b_1)] (by kernel_rfl) (by kernel_rfl) ?_
             refine mreg_split 52 (decide (k_ < ((v49.len : Nat) : Int))) (by kernel_rfl) (fun hb => ?_) (fun hb => ?_)
             · replace h := h.1 hb
               refine mreg_run [] 17 [(0, [], Value.pointer b_), (3, [], Value.int .i64 i), (4, [], pv_ b_1), (5, [], Value.int .i64 k_), (46, [], Value.bool false), (52, [], Value.bool true), (53, [], pv_ b_1)] (by kernel_rfl) (by kernel_rfl) ?_
               refine mreg_run [] 17 [(0, [], Value.pointer b_), (3, [], Value.int .i64 i), (4, [], pv_ b_1), (5, [], Value.int .i64 k_), (46, [], Value.bool false), (52, [], Value.bool true), (53, [], pv_ b_1)] (by kernel_rfl) (by kernel_rfl) ?_
               obtain ⟨v54, hc, h⟩ := h
               refine mreg_load1 (i := 17) (by kernel_rfl) (t := 47) (a := (Operand.tmp 53)) (b := b_1) (o := 0) (ty := 47) (dst := some 54) (by kernel_rfl) (by kernel_rfl) (by kernel_rfl) hc ?_
               refine mreg_run [.sure] 19 [(0, [], Value.pointer b_), (3, [], Value.int .i64 i), (4, [], pv_ b_1), (5, [], Value.int .i64 k_), (46, [], Value.bool false), (52, [], Value.bool true), (54, [], sv_ v54), (55, [], Value.int .i64 k_)] (by kernel_rfl) (by kernel_rfl) ?_
               obtain ⟨hp_55, h⟩ := h
               refine mreg_conv [(0, [], Value.pointer b_), (3, [], Value.int .i64 i), (4, [], pv_ b_1), (5, [], Value.int .i64 k_), (46, [], Value.bool false), (52, [], Value.bool true), (54, [], Value.slice (some ⟨(pblk v54.ptr), (poff v54.ptr), none⟩) v54.len v54.cap), (55, [], Value.int .i64 k_)] (congrArg (fun pp => ([(0, [], Value.pointer b_), (3, [], Value.int .i64 i), (4, [], pv_ b_1), (5, [], Value.int .i64 k_), (46, [], Value.bool false), (52, [], Value.bool true), (54, [], Value.slice pp v54.len v54.cap), (55, [], Value.int .i64 k_)] : GEnv)) hp_55) ?_
               obtain ⟨h0, h1, h⟩ := h
               refine mreg_indexS (i := 19) (by kernel_rfl) (t := 47) (e := 80) (x := (Operand.tmp 54)) (ix := (Operand.tmp 55)) (b := (pblk v54.ptr)) (o := (poff v54.ptr)) (l := v54.len) (c := v54.cap) (k := .i64) (j := k_) (ty := 0) (dst := some 56) (sz := 3) (by kernel_rfl) (by kernel_rfl) (by kernel_rfl) (by kernel_rfl) (by kernel_rfl) h0 h1 ?_
               refine mreg_run [] 20 [(0, [], Value.pointer b_), (3, [], Value.int .i64 i), (4, [], pv_ b_1), (5, [], Value.int .i64 k_), (46, [], Value.bool false), (52, [], Value.bool true), (56, [], Value.pointer (some ⟨(pblk v54.ptr), (poff v54.ptr) + k_.toNat * 3, none⟩))] (by kernel_rfl) (by kernel_rfl) ?_
               obtain ⟨v57, hc, h⟩ := h
               refine mreg_loadN (i := 20) (by kernel_rfl) (t := 80) (a := (Operand.tmp 56)) (b := (pblk v54.ptr)) (o := ((poff v54.ptr) + k_.toNat * 3)) (ty := 80) (dst := some 57) [Value.string v57.Key, Value.string v57.Val, Value.bool v57.Drop] (by kernel_rfl) (by kernel_rfl) (by kernel_rfl) (k := 3) (by kernel_rfl) (by kernel_rfl) hc ?_
               refine mreg_run [.sure] 22 [(0, [], Value.pointer b_), (3, [], Value.int .i64 i), (4, [], pv_ b_1), (5, [], Value.int .i64 k_), (46, [], Value.bool false), (52, [], Value.bool true), (57, [], Value.agg #[Value.string v57.Key, Value.string v57.Val, Value.bool v57.Drop]), (58, [], Value.pointer (some ⟨b_1, 2, none⟩))] (by kernel_rfl) (by kernel_rfl) ?_
               obtain ⟨v59, hc, h⟩ := h
               refine mreg_load1 (i := 22) (by kernel_rfl) (t := 3) (a := (Operand.tmp 58)) (b := b_1) (o := 2) (ty := 3) (dst := some 59) (by kernel_rfl) (by kernel_rfl) (by kernel_rfl) hc ?_
               refine mreg_run [] 23 [(0, [], Value.pointer b_), (3, [], Value.int .i64 i), (4, [], pv_ b_1), (5, [], Value.int .i64 k_), (46, [], Value.bool false), (52, [], Value.bool true), (57, [], Value.agg #[Value.string v57.Key, Value.string v57.Val, Value.bool v57.Drop]), (59, [], Value.int .i64 v59)] (by kernel_rfl) (by kernel_rfl) ?_
               refine mreg_enter (op := (Op.call (Call.mk (Callee.value (Operand.func 105)) #[(Operand.tmp 57), (Operand.tmp 59)] #[80, 3]))) (ty := 4) (dst := some 60) 23 [15, 20, 22, 9, 14, 19, 21, 7, 8, 10, 13, 17, 18, 4, 6, 12, 16, 3, 5, 11, 1, 2, 0] [] 105 #[Value.agg #[Value.string v57.Key, Value.string v57.Val, Value.bool v57.Drop], Value.int .i64 v59] (by kernel_rfl) (by kernel_rfl) (by kernel_rfl) (by kernel_rfl) (by kernel_rfl) (fun ww => by kernel_rfl) (Calls.mono h ?_)
               rintro _ w8 ⟨v60, rfl, h⟩
               refine ⟨_, rfl, trivial, ?_⟩
               refine mreg_run [.sure, .sure, .plain] 27 [(0, [], Value.pointer b_), (3, [], Value.int .i64 i), (4, [], pv_ b_1), (5, [], Value.int .i64 k_), (63, [], Value.bool (!v60))] (by kernel_rfl) (by kernel_rfl) ?_
               refine mreg_end [(0, Value.pointer b_), (3, Value.int .i64 i), (4, pv_ b_1), (5, Value.int .i64 k_), (63, Value.bool (!v60))] (by kernel_rfl) (by kernel_rfl) (by kernel_rfl) ?_
               exact ⟨[(0, Value.pointer b_), (3, Value.int .i64 i), (4, pv_ b_1), (5, Value.int .i64 k_), (63, Value.bool (!v60))], Sub.mk (by kernel_rfl), (!v60), rfl, h⟩
             · replace h := h.2 hb
               refine mreg_run [] 17 [(0, [], Value.pointer b_), (3, [], Value.int .i64 i), (4, [], pv_ b_1), (5, [], Value.int .i64 k_), (46, [], Value.bool false), (52, [], Value.bool false), (53, [], undef)] (by kernel_rfl) (by kernel_rfl) ?_
               refine mreg_run [.skip, .skip, .skip, .skip, .skip, .skip, .skip, .skip, .sure, .plain] 27 [(0, [], Value.pointer b_), (3, [], Value.int .i64 i), (4, [], pv_ b_1), (5, [], Value.int .i64 k_), (63, [], Value.bool false)] (by kernel_rfl) (by kernel_rfl) ?_
               refine mreg_end [(0, Value.pointer b_), (3, Value.int .i64 i), (4, pv_ b_1), (5, Value.int .i64 k_), (63, Value.bool false)] (by kernel_rfl) (by kernel_rfl) (by kernel_rfl) ?_
               exact ⟨[(0, Value.pointer b_), (3, Value.int .i64 i), (4, pv_ b_1), (5, Value.int .i64 k_), (63, Value.bool false)], Sub.mk (by kernel_rfl), false, rfl, h⟩
         · rintro _ w5 ⟨t63, rfl, h⟩
           unfold F_towpathlaw01_Book_lookWrite_k2 at h
           refine Zc 63 t63 c61_49 c61_53 (fun hb => ?_) (fun hb => ?_)
           · replace h := h.1 hb
             refine Zp c61_52 P1 [(2, .bool false)] ?_
             refine wpE_ret (by kernel_rfl) ?_
             repeat (first | refine seqQ_ret ?_ | refine blockQ_ret ?_ | refine loopQ_ret ?_ | refine cutQ_ret ?_)
             exact retS (rs := [(ResultVar.tmp 2)]) (v := Value.bool false) (by kernel_rfl) (⟨by kernel_rfl, trivial⟩) ⟨false, rfl, h⟩
           · replace h := h.2 hb
             refine wpE_skip (by kernel_rfl) ?_
             change WpE _ _ c61_54 _ _ _
             refine Zr r61_54 ?_
             refine Zf P3 [(0, .pointer b_), (3, .int .i64 i), (4, pv_ b_1), (5, .int .i64 (IntKind.i64.wrap (k_ + 1)))] ?_
             have hb_ := again_1_h _ _ h
             exact ⟨_, hb_.2, [(0, Value.pointer b_), (3, Value.int .i64 i), (4, pv_ b_1), (5, Value.int .i64 (IntKind.i64.wrap (k_ + 1)))], Sub.mk (by kernel_rfl), (IntKind.i64.wrap (k_ + 1)), rfl, hb_.1, rfl⟩
       · replace h := h.2 hb
         refine wpE_exit (id := 2) (by kernel_rfl) ?_
         change WpE _ _ c61_56 _ _ _
         refine Zr r61_56 ?_
         refine Zf P3 [(0, .pointer b_), (3, .int .i64 (IntKind.i64.wrap (i + 1)))] ?_
         have hb_ := again__h _ _ h
         exact ⟨_, hb_.2, [(0, Value.pointer b_), (3, Value.int .i64 (IntKind.i64.wrap (i + 1)))], Sub.mk (by kernel_rfl), (IntKind.i64.wrap (i + 1)), rfl, hb_.1, rfl⟩
   · replace h := h.2 hb
     refine wpE_exit (id := 0) (by kernel_rfl) ?_
     change WpE _ _ c61_58 _ _ _
     refine Zp c61_61 P1 [(2, .bool true)] ?_
     refine wpE_ret (by kernel_rfl) ?_
     repeat (first | refine seqQ_ret ?_ | refine blockQ_ret ?_ | refine loopQ_ret ?_ | refine cutQ_ret ?_)
     exact retS (rs := [(ResultVar.tmp 2)]) (v := Value.bool true) (by kernel_rfl) (⟨by kernel_rfl, trivial⟩) ⟨true, rfl, h⟩
 · rintro e w' ⟨v, rfl, r0, rfl, h⟩; exact ⟨r0, rfl, h⟩

/-! ### (*towpath/towpathlaw01.Book).lookEntry (function 62) -/
def c62_0 := cb_ Tryz.f62
def c62_3 := cr_ c62_0
def c62_4 := cl_ c62_3
def c62_7 := cr_ c62_4
def c62_8 := cl_ c62_7
def c62_9 := cl_ c62_8
def c62_10 := cl_ c62_9
def c62_11 := cl_ c62_10
def r62_11 := co_ c62_11
def c62_13 := cr_ c62_10
def c62_14 := cl_ c62_13
def c62_15 := cr_ c62_13
def c62_16 := cr_ c62_9
def c62_58 := cr_ c62_3
def c62_61 := cr_ c62_58

theorem S_towpathlaw01_Book_lookEntry {b_ : Option Addr} {w : World} {R : Bool → World → Prop} (h : F_towpathlaw01_Book_lookEntry b_ R w) : C_towpathlaw01_Book_lookEntry b_ w R := by
 unfold F_towpathlaw01_Book_lookEntry at h
 unfold C_towpathlaw01_Book_lookEntry
 refine Calls.mono (calls_of_wpE (args := [Value.pointer b_]) (R := fun v w' => ∃ (r0 : Bool), v = Value.bool r0 ∧ R r0 w') Tryz.func62 (c := c62_0) (by kernel_rfl) 64 (by kernel_rfl) (by kernel_rfl) [(0, Value.pointer b_)] (by kernel_rfl) ?_) ?_
 · refine Zp c62_3 P1 [(0, .pointer b_)] ?_
   refine Zs c62_4 c62_58 ?_
   refine Zp c62_7 P1 [(0, .pointer b_), (3, .int .i64 0)] ?_
   refine Zb 0 c62_8 ?_
   obtain ⟨I, μ, h0, hr⟩ := h
   refine wpE_loop (x := c62_9) (by kernel_rfl) (fun m l w => ∃ (i : Int), l = [(0, Value.pointer b_), (3, Value.int .i64 i)] ∧ I i w ∧ μ i w = m) (l' := [(0, Value.pointer b_), (3, Value.int .i64 0)]) (Sub.mk (by kernel_rfl)) ⟨0, rfl, h0, rfl⟩ ?_
   rintro _ _ w1 ⟨i, rfl, hI, rfl⟩
   obtain ⟨again_, again__h, h⟩ : ∃ again_ : Int → World → Prop, (∀ i' w', again_ i' w' → I i' w' ∧ μ i' w' < μ i w1) ∧ F_towpathlaw01_Book_lookEntry_L0 b_ R again_ i w1 := ⟨_, fun _ _ h => h, hr i w1 hI⟩
   clear h0 hI
   unfold F_towpathlaw01_Book_lookEntry_L0 at h
   refine Zs c62_10 c62_16 ?_
   refine Zt r62_11 c62_13 ?_
   refine Zn P2 2 [(0, [], .pointer b_), (3, [], .int .i64 i), (6, [], .int .i64 i), (7, [], .pointer b_)] ?_
   obtain ⟨hp_7, h⟩ := h
   refine Zv (fun pp => [(0, [], .pointer b_), (3, [], .int .i64 i), (6, [], .int .i64 i), (7, [], .pointer pp)]) hp_7 ?_
   refine Zn P1 3 [(0, [], .pointer b_), (3, [], .int .i64 i), (6, [], .int .i64 i), (7, [], .pointer (some ⟨(pblk b_), (poff b_), none⟩)), (8, [], .pointer (some ⟨(pblk b_), (poff b_), none⟩))] ?_
   refine Zn P1 4 [(0, [], .pointer b_), (3, [], .int .i64 i), (6, [], .int .i64 i), (9, [], .pointer (some ⟨(pblk b_), (poff b_) + 5, none⟩))] ?_
   obtain ⟨v10, hc, h⟩ := h
   refine Zl 27 9 (pblk b_) ((poff b_) + 5) 27 10 hc ?_
   refine Zf P2 [(0, .pointer b_), (3, .int .i64 i), (12, .bool (decide (i < ((v10.len : Nat) : Int))))] ?_
   change WpE _ _ c62_13 _ _ _
   refine Zc 12 (decide (i < ((v10.len : Nat) : Int))) c62_14 c62_15 (fun hb => ?_) (fun hb => ?_)
   · replace h := h.1 hb
     exact h.elim
   · replace h := h.2 hb
     refine wpE_exit (id := 0) (by kernel_rfl) ?_
     change WpE _ _ c62_58 _ _ _
     refine Zp c62_61 P1 [(2, .bool true)] ?_
     refine wpE_ret (by kernel_rfl) ?_
     repeat (first | refine seqQ_ret ?_ | refine blockQ_ret ?_ | refine loopQ_ret ?_ | refine cutQ_ret ?_)
     exact retS (rs := [(ResultVar.tmp 2)]) (v := Value.bool true) (by kernel_rfl) (⟨by kernel_rfl, trivial⟩) ⟨true, rfl, h⟩
 · rintro e w' ⟨v, rfl, r0, rfl, h⟩; exact ⟨r0, rfl, h⟩

/-! ### (*towpath/towpathlaw01.Book).lookVersion (function 63) -/
def c63_0 := cb_ Tryz.f63
def c63_3 := cr_ c63_0
def c63_4 := cl_ c63_3
def c63_7 := cr_ c63_4
def c63_8 := cl_ c63_7
def c63_9 := cl_ c63_8
def c63_10 := cl_ c63_9
def c63_11 := cl_ c63_10
def r63_11 := co_ c63_11
def c63_13 := cr_ c63_10
def c63_14 := cl_ c63_13
def c63_15 := cr_ c63_13
def c63_16 := cr_ c63_9
def c63_58 := cr_ c63_3
def c63_61 := cr_ c63_58

theorem S_towpathlaw01_Book_lookVersion {b_ : Option Addr} {w : World} {R : Bool → World → Prop} (h : F_towpathlaw01_Book_lookVersion b_ R w) : C_towpathlaw01_Book_lookVersion b_ w R := by
 unfold F_towpathlaw01_Book_lookVersion at h
 unfold C_towpathlaw01_Book_lookVersion
 refine Calls.mono (calls_of_wpE (args := [Value.pointer b_]) (R := fun v w' => ∃ (r0 : Bool), v = Value.bool r0 ∧ R r0 w') Tryz.func63 (c := c63_0) (by kernel_rfl) 64 (by kernel_rfl) (by kernel_rfl) [(0, Value.pointer b_)] (by kernel_rfl) ?_) ?_
 · refine Zp c63_3 P1 [(0, .pointer b_)] ?_
   refine Zs c63_4 c63_58 ?_
   refine Zp c63_7 P1 [(0, .pointer b_), (3, .int .i64 0)] ?_
   refine Zb 0 c63_8 ?_
   obtain ⟨I, μ, h0, hr⟩ := h
   refine wpE_loop (x := c63_9) (by kernel_rfl) (fun m l w => ∃ (i : Int), l = [(0, Value.pointer b_), (3, Value.int .i64 i)] ∧ I i w ∧ μ i w = m) (l' := [(0, Value.pointer b_), (3, Value.int .i64 0)]) (Sub.mk (by kernel_rfl)) ⟨0, rfl, h0, rfl⟩ ?_
   rintro _ _ w1 ⟨i, rfl, hI, rfl⟩
   obtain ⟨again_, again__h, h⟩ : ∃ again_ : Int → World → Prop, (∀ i' w', again_ i' w' → I i' w' ∧ μ i' w' < μ i w1) ∧ F_towpathlaw01_Book_lookVersion_L0 b_ R again_ i w1 := ⟨_, fun _ _ h => h, hr i w1 hI⟩
   clear h0 hI
   unfold F_towpathlaw01_Book_lookVersion_L0 at h
   refine Zs c63_10 c63_16 ?_
   refine Zt r63_11 c63_13 ?_
   refine Zn P2 2 [(0, [], .pointer b_), (3, [], .int .i64 i), (6, [], .int .i64 i), (7, [], .pointer b_)] ?_
   obtain ⟨hp_7, h⟩ := h
   refine Zv (fun pp => [(0, [], .pointer b_), (3, [], .int .i64 i), (6, [], .int .i64 i), (7, [], .pointer pp)]) hp_7 ?_
   refine Zn P1 3 [(0, [], .pointer b_), (3, [], .int .i64 i), (6, [], .int .i64 i), (7, [], .pointer (some ⟨(pblk b_), (poff b_), none⟩)), (8, [], .pointer (some ⟨(pblk b_), (poff b_), none⟩))] ?_
   refine Zn P1 4 [(0, [], .pointer b_), (3, [], .int .i64 i), (6, [], .int .i64 i), (9, [], .pointer (some ⟨(pblk b_), (poff b_) + 6, none⟩))] ?_
   obtain ⟨v10, hc, h⟩ := h
   refine Zl 28 9 (pblk b_) ((poff b_) + 6) 28 10 hc ?_
   refine Zf P2 [(0, .pointer b_), (3, .int .i64 i), (12, .bool (decide (i < ((v10.len : Nat) : Int))))] ?_
   change WpE _ _ c63_13 _ _ _
   refine Zc 12 (decide (i < ((v10.len : Nat) : Int))) c63_14 c63_15 (fun hb => ?_) (fun hb => ?_)
   · replace h := h.1 hb
     exact h.elim
   · replace h := h.2 hb
     refine wpE_exit (id := 0) (by kernel_rfl) ?_
     change WpE _ _ c63_58 _ _ _
     refine Zp c63_61 P1 [(2, .bool true)] ?_
     refine wpE_ret (by kernel_rfl) ?_
     repeat (first | refine seqQ_ret ?_ | refine blockQ_ret ?_ | refine loopQ_ret ?_ | refine cutQ_ret ?_)
     exact retS (rs := [(ResultVar.tmp 2)]) (v := Value.bool true) (by kernel_rfl) (⟨by kernel_rfl, trivial⟩) ⟨true, rfl, h⟩
 · rintro e w' ⟨v, rfl, r0, rfl, h⟩; exact ⟨r0, rfl, h⟩

/-! ### (*towpath/towpathlaw01.Book).lookTxn (function 64) -/
def c64_0 := cb_ Tryz.f64
def c64_3 := cr_ c64_0
def c64_4 := cl_ c64_3
def c64_7 := cr_ c64_4
def c64_8 := cl_ c64_7
def c64_9 := cl_ c64_8
def c64_10 := cl_ c64_9
def c64_11 := cl_ c64_10
def r64_11 := co_ c64_11
def c64_13 := cr_ c64_10
def c64_14 := cl_ c64_13
def c64_15 := cr_ c64_13
def c64_16 := cr_ c64_9
def c64_58 := cr_ c64_3
def c64_61 := cr_ c64_58

theorem S_towpathlaw01_Book_lookTxn {b_ : Option Addr} {w : World} {R : Bool → World → Prop} (h : F_towpathlaw01_Book_lookTxn b_ R w) : C_towpathlaw01_Book_lookTxn b_ w R := by
 unfold F_towpathlaw01_Book_lookTxn at h
 unfold C_towpathlaw01_Book_lookTxn
 refine Calls.mono (calls_of_wpE (args := [Value.pointer b_]) (R := fun v w' => ∃ (r0 : Bool), v = Value.bool r0 ∧ R r0 w') Tryz.func64 (c := c64_0) (by kernel_rfl) 64 (by kernel_rfl) (by kernel_rfl) [(0, Value.pointer b_)] (by kernel_rfl) ?_) ?_
 · refine Zp c64_3 P1 [(0, .pointer b_)] ?_
   refine Zs c64_4 c64_58 ?_
   refine Zp c64_7 P1 [(0, .pointer b_), (3, .int .i64 0)] ?_
   refine Zb 0 c64_8 ?_
   obtain ⟨I, μ, h0, hr⟩ := h
   refine wpE_loop (x := c64_9) (by kernel_rfl) (fun m l w => ∃ (i : Int), l = [(0, Value.pointer b_), (3, Value.int .i64 i)] ∧ I i w ∧ μ i w = m) (l' := [(0, Value.pointer b_), (3, Value.int .i64 0)]) (Sub.mk (by kernel_rfl)) ⟨0, rfl, h0, rfl⟩ ?_
   rintro _ _ w1 ⟨i, rfl, hI, rfl⟩
   obtain ⟨again_, again__h, h⟩ : ∃ again_ : Int → World → Prop, (∀ i' w', again_ i' w' → I i' w' ∧ μ i' w' < μ i w1) ∧ F_towpathlaw01_Book_lookTxn_L0 b_ R again_ i w1 := ⟨_, fun _ _ h => h, hr i w1 hI⟩
   clear h0 hI
   unfold F_towpathlaw01_Book_lookTxn_L0 at h
   refine Zs c64_10 c64_16 ?_
   refine Zt r64_11 c64_13 ?_
   refine Zn P2 2 [(0, [], .pointer b_), (3, [], .int .i64 i), (6, [], .int .i64 i), (7, [], .pointer b_)] ?_
   obtain ⟨hp_7, h⟩ := h
   refine Zv (fun pp => [(0, [], .pointer b_), (3, [], .int .i64 i), (6, [], .int .i64 i), (7, [], .pointer pp)]) hp_7 ?_
   refine Zn P1 3 [(0, [], .pointer b_), (3, [], .int .i64 i), (6, [], .int .i64 i), (7, [], .pointer (some ⟨(pblk b_), (poff b_), none⟩)), (8, [], .pointer (some ⟨(pblk b_), (poff b_), none⟩))] ?_
   refine Zn P1 4 [(0, [], .pointer b_), (3, [], .int .i64 i), (6, [], .int .i64 i), (9, [], .pointer (some ⟨(pblk b_), (poff b_) + 7, none⟩))] ?_
   obtain ⟨v10, hc, h⟩ := h
   refine Zl 29 9 (pblk b_) ((poff b_) + 7) 29 10 hc ?_
   refine Zf P2 [(0, .pointer b_), (3, .int .i64 i), (12, .bool (decide (i < ((v10.len : Nat) : Int))))] ?_
   change WpE _ _ c64_13 _ _ _
   refine Zc 12 (decide (i < ((v10.len : Nat) : Int))) c64_14 c64_15 (fun hb => ?_) (fun hb => ?_)
   · replace h := h.1 hb
     exact h.elim
   · replace h := h.2 hb
     refine wpE_exit (id := 0) (by kernel_rfl) ?_
     change WpE _ _ c64_58 _ _ _
     refine Zp c64_61 P1 [(2, .bool true)] ?_
     refine wpE_ret (by kernel_rfl) ?_
     repeat (first | refine seqQ_ret ?_ | refine blockQ_ret ?_ | refine loopQ_ret ?_ | refine cutQ_ret ?_)
     exact retS (rs := [(ResultVar.tmp 2)]) (v := Value.bool true) (by kernel_rfl) (⟨by kernel_rfl, trivial⟩) ⟨true, rfl, h⟩
 · rintro e w' ⟨v, rfl, r0, rfl, h⟩; exact ⟨r0, rfl, h⟩

/-! ### (*towpath/towpathlaw01.Book).lookHeld (function 65) -/
def c65_0 := cb_ Tryz.f65
def c65_3 := cr_ c65_0
def c65_4 := cl_ c65_3
def c65_7 := cr_ c65_4
def c65_8 := cl_ c65_7
def c65_9 := cl_ c65_8
def c65_10 := cl_ c65_9
def c65_11 := cl_ c65_10
def r65_11 := co_ c65_11
def c65_13 := cr_ c65_10
def c65_14 := cl_ c65_13
def c65_15 := cr_ c65_13
def c65_16 := cr_ c65_9
def c65_58 := cr_ c65_3
def c65_61 := cr_ c65_58

theorem S_towpathlaw01_Book_lookHeld {b_ : Option Addr} {w : World} {R : Bool → World → Prop} (h : F_towpathlaw01_Book_lookHeld b_ R w) : C_towpathlaw01_Book_lookHeld b_ w R := by
 unfold F_towpathlaw01_Book_lookHeld at h
 unfold C_towpathlaw01_Book_lookHeld
 refine Calls.mono (calls_of_wpE (args := [Value.pointer b_]) (R := fun v w' => ∃ (r0 : Bool), v = Value.bool r0 ∧ R r0 w') Tryz.func65 (c := c65_0) (by kernel_rfl) 64 (by kernel_rfl) (by kernel_rfl) [(0, Value.pointer b_)] (by kernel_rfl) ?_) ?_
 · refine Zp c65_3 P1 [(0, .pointer b_)] ?_
   refine Zs c65_4 c65_58 ?_
   refine Zp c65_7 P1 [(0, .pointer b_), (3, .int .i64 0)] ?_
   refine Zb 0 c65_8 ?_
   obtain ⟨I, μ, h0, hr⟩ := h
   refine wpE_loop (x := c65_9) (by kernel_rfl) (fun m l w => ∃ (i : Int), l = [(0, Value.pointer b_), (3, Value.int .i64 i)] ∧ I i w ∧ μ i w = m) (l' := [(0, Value.pointer b_), (3, Value.int .i64 0)]) (Sub.mk (by kernel_rfl)) ⟨0, rfl, h0, rfl⟩ ?_
   rintro _ _ w1 ⟨i, rfl, hI, rfl⟩
   obtain ⟨again_, again__h, h⟩ : ∃ again_ : Int → World → Prop, (∀ i' w', again_ i' w' → I i' w' ∧ μ i' w' < μ i w1) ∧ F_towpathlaw01_Book_lookHeld_L0 b_ R again_ i w1 := ⟨_, fun _ _ h => h, hr i w1 hI⟩
   clear h0 hI
   unfold F_towpathlaw01_Book_lookHeld_L0 at h
   refine Zs c65_10 c65_16 ?_
   refine Zt r65_11 c65_13 ?_
   refine Zn P2 2 [(0, [], .pointer b_), (3, [], .int .i64 i), (6, [], .int .i64 i), (7, [], .pointer b_)] ?_
   obtain ⟨hp_7, h⟩ := h
   refine Zv (fun pp => [(0, [], .pointer b_), (3, [], .int .i64 i), (6, [], .int .i64 i), (7, [], .pointer pp)]) hp_7 ?_
   refine Zn P1 3 [(0, [], .pointer b_), (3, [], .int .i64 i), (6, [], .int .i64 i), (7, [], .pointer (some ⟨(pblk b_), (poff b_), none⟩)), (8, [], .pointer (some ⟨(pblk b_), (poff b_), none⟩))] ?_
   refine Zn P1 4 [(0, [], .pointer b_), (3, [], .int .i64 i), (6, [], .int .i64 i), (9, [], .pointer (some ⟨(pblk b_), (poff b_) + 8, none⟩))] ?_
   obtain ⟨v10, hc, h⟩ := h
   refine Zl 30 9 (pblk b_) ((poff b_) + 8) 30 10 hc ?_
   refine Zf P2 [(0, .pointer b_), (3, .int .i64 i), (12, .bool (decide (i < ((v10.len : Nat) : Int))))] ?_
   change WpE _ _ c65_13 _ _ _
   refine Zc 12 (decide (i < ((v10.len : Nat) : Int))) c65_14 c65_15 (fun hb => ?_) (fun hb => ?_)
   · replace h := h.1 hb
     exact h.elim
   · replace h := h.2 hb
     refine wpE_exit (id := 0) (by kernel_rfl) ?_
     change WpE _ _ c65_58 _ _ _
     refine Zp c65_61 P1 [(2, .bool true)] ?_
     refine wpE_ret (by kernel_rfl) ?_
     repeat (first | refine seqQ_ret ?_ | refine blockQ_ret ?_ | refine loopQ_ret ?_ | refine cutQ_ret ?_)
     exact retS (rs := [(ResultVar.tmp 2)]) (v := Value.bool true) (by kernel_rfl) (⟨by kernel_rfl, trivial⟩) ⟨true, rfl, h⟩
 · rintro e w' ⟨v, rfl, r0, rfl, h⟩; exact ⟨r0, rfl, h⟩

/-! ### (*towpath/towpathlaw01.Book).lookHeldList (function 66) -/
def c66_0 := cb_ Tryz.f66
def c66_3 := cr_ c66_0
def c66_4 := cl_ c66_3
def c66_7 := cr_ c66_4
def c66_8 := cl_ c66_7
def c66_9 := cl_ c66_8
def c66_10 := cl_ c66_9
def c66_11 := cl_ c66_10
def r66_11 := co_ c66_11
def c66_13 := cr_ c66_10
def c66_14 := cl_ c66_13
def c66_15 := cr_ c66_13
def c66_16 := cr_ c66_9
def c66_58 := cr_ c66_3
def c66_61 := cr_ c66_58

theorem S_towpathlaw01_Book_lookHeldList {b_ : Option Addr} {w : World} {R : Bool → World → Prop} (h : F_towpathlaw01_Book_lookHeldList b_ R w) : C_towpathlaw01_Book_lookHeldList b_ w R := by
 unfold F_towpathlaw01_Book_lookHeldList at h
 unfold C_towpathlaw01_Book_lookHeldList
 refine Calls.mono (calls_of_wpE (args := [Value.pointer b_]) (R := fun v w' => ∃ (r0 : Bool), v = Value.bool r0 ∧ R r0 w') Tryz.func66 (c := c66_0) (by kernel_rfl) 64 (by kernel_rfl) (by kernel_rfl) [(0, Value.pointer b_)] (by kernel_rfl) ?_) ?_
 · refine Zp c66_3 P1 [(0, .pointer b_)] ?_
   refine Zs c66_4 c66_58 ?_
   refine Zp c66_7 P1 [(0, .pointer b_), (3, .int .i64 0)] ?_
   refine Zb 0 c66_8 ?_
   obtain ⟨I, μ, h0, hr⟩ := h
   refine wpE_loop (x := c66_9) (by kernel_rfl) (fun m l w => ∃ (i : Int), l = [(0, Value.pointer b_), (3, Value.int .i64 i)] ∧ I i w ∧ μ i w = m) (l' := [(0, Value.pointer b_), (3, Value.int .i64 0)]) (Sub.mk (by kernel_rfl)) ⟨0, rfl, h0, rfl⟩ ?_
   rintro _ _ w1 ⟨i, rfl, hI, rfl⟩
   obtain ⟨again_, again__h, h⟩ : ∃ again_ : Int → World → Prop, (∀ i' w', again_ i' w' → I i' w' ∧ μ i' w' < μ i w1) ∧ F_towpathlaw01_Book_lookHeldList_L0 b_ R again_ i w1 := ⟨_, fun _ _ h => h, hr i w1 hI⟩
   clear h0 hI
   unfold F_towpathlaw01_Book_lookHeldList_L0 at h
   refine Zs c66_10 c66_16 ?_
   refine Zt r66_11 c66_13 ?_
   refine Zn P2 2 [(0, [], .pointer b_), (3, [], .int .i64 i), (6, [], .int .i64 i), (7, [], .pointer b_)] ?_
   obtain ⟨hp_7, h⟩ := h
   refine Zv (fun pp => [(0, [], .pointer b_), (3, [], .int .i64 i), (6, [], .int .i64 i), (7, [], .pointer pp)]) hp_7 ?_
   refine Zn P1 3 [(0, [], .pointer b_), (3, [], .int .i64 i), (6, [], .int .i64 i), (7, [], .pointer (some ⟨(pblk b_), (poff b_), none⟩)), (8, [], .pointer (some ⟨(pblk b_), (poff b_), none⟩))] ?_
   refine Zn P1 4 [(0, [], .pointer b_), (3, [], .int .i64 i), (6, [], .int .i64 i), (9, [], .pointer (some ⟨(pblk b_), (poff b_) + 9, none⟩))] ?_
   obtain ⟨v10, hc, h⟩ := h
   refine Zl 31 9 (pblk b_) ((poff b_) + 9) 31 10 hc ?_
   refine Zf P2 [(0, .pointer b_), (3, .int .i64 i), (12, .bool (decide (i < ((v10.len : Nat) : Int))))] ?_
   change WpE _ _ c66_13 _ _ _
   refine Zc 12 (decide (i < ((v10.len : Nat) : Int))) c66_14 c66_15 (fun hb => ?_) (fun hb => ?_)
   · replace h := h.1 hb
     exact h.elim
   · replace h := h.2 hb
     refine wpE_exit (id := 0) (by kernel_rfl) ?_
     change WpE _ _ c66_58 _ _ _
     refine Zp c66_61 P1 [(2, .bool true)] ?_
     refine wpE_ret (by kernel_rfl) ?_
     repeat (first | refine seqQ_ret ?_ | refine blockQ_ret ?_ | refine loopQ_ret ?_ | refine cutQ_ret ?_)
     exact retS (rs := [(ResultVar.tmp 2)]) (v := Value.bool true) (by kernel_rfl) (⟨by kernel_rfl, trivial⟩) ⟨true, rfl, h⟩
 · rintro e w' ⟨v, rfl, r0, rfl, h⟩; exact ⟨r0, rfl, h⟩

/-! ### (*towpath/towpathlaw01.Book).lookEvent (function 67) -/
def c67_0 := cb_ Tryz.f67
def c67_3 := cr_ c67_0
def c67_4 := cl_ c67_3
def c67_7 := cr_ c67_4
def c67_8 := cl_ c67_7
def c67_9 := cl_ c67_8
def c67_10 := cl_ c67_9
def c67_11 := cl_ c67_10
def r67_11 := co_ c67_11
def c67_13 := cr_ c67_10
def c67_14 := cl_ c67_13
def c67_15 := cr_ c67_13
def c67_16 := cr_ c67_9
def c67_58 := cr_ c67_3
def c67_61 := cr_ c67_58

theorem S_towpathlaw01_Book_lookEvent {b_ : Option Addr} {w : World} {R : Bool → World → Prop} (h : F_towpathlaw01_Book_lookEvent b_ R w) : C_towpathlaw01_Book_lookEvent b_ w R := by
 unfold F_towpathlaw01_Book_lookEvent at h
 unfold C_towpathlaw01_Book_lookEvent
 refine Calls.mono (calls_of_wpE (args := [Value.pointer b_]) (R := fun v w' => ∃ (r0 : Bool), v = Value.bool r0 ∧ R r0 w') Tryz.func67 (c := c67_0) (by kernel_rfl) 64 (by kernel_rfl) (by kernel_rfl) [(0, Value.pointer b_)] (by kernel_rfl) ?_) ?_
 · refine Zp c67_3 P1 [(0, .pointer b_)] ?_
   refine Zs c67_4 c67_58 ?_
   refine Zp c67_7 P1 [(0, .pointer b_), (3, .int .i64 0)] ?_
   refine Zb 0 c67_8 ?_
   obtain ⟨I, μ, h0, hr⟩ := h
   refine wpE_loop (x := c67_9) (by kernel_rfl) (fun m l w => ∃ (i : Int), l = [(0, Value.pointer b_), (3, Value.int .i64 i)] ∧ I i w ∧ μ i w = m) (l' := [(0, Value.pointer b_), (3, Value.int .i64 0)]) (Sub.mk (by kernel_rfl)) ⟨0, rfl, h0, rfl⟩ ?_
   rintro _ _ w1 ⟨i, rfl, hI, rfl⟩
   obtain ⟨again_, again__h, h⟩ : ∃ again_ : Int → World → Prop, (∀ i' w', again_ i' w' → I i' w' ∧ μ i' w' < μ i w1) ∧ F_towpathlaw01_Book_lookEvent_L0 b_ R again_ i w1 := ⟨_, fun _ _ h => h, hr i w1 hI⟩
   clear h0 hI
   unfold F_towpathlaw01_Book_lookEvent_L0 at h
   refine Zs c67_10 c67_16 ?_
   refine Zt r67_11 c67_13 ?_
   refine Zn P2 2 [(0, [], .pointer b_), (3, [], .int .i64 i), (6, [], .int .i64 i), (7, [], .pointer b_)] ?_
   obtain ⟨hp_7, h⟩ := h
   refine Zv (fun pp => [(0, [], .pointer b_), (3, [], .int .i64 i), (6, [], .int .i64 i), (7, [], .pointer pp)]) hp_7 ?_
   refine Zn P1 3 [(0, [], .pointer b_), (3, [], .int .i64 i), (6, [], .int .i64 i), (7, [], .pointer (some ⟨(pblk b_), (poff b_), none⟩)), (8, [], .pointer (some ⟨(pblk b_), (poff b_), none⟩))] ?_
   refine Zn P1 4 [(0, [], .pointer b_), (3, [], .int .i64 i), (6, [], .int .i64 i), (9, [], .pointer (some ⟨(pblk b_), (poff b_) + 10, none⟩))] ?_
   obtain ⟨v10, hc, h⟩ := h
   refine Zl 32 9 (pblk b_) ((poff b_) + 10) 32 10 hc ?_
   refine Zf P2 [(0, .pointer b_), (3, .int .i64 i), (12, .bool (decide (i < ((v10.len : Nat) : Int))))] ?_
   change WpE _ _ c67_13 _ _ _
   refine Zc 12 (decide (i < ((v10.len : Nat) : Int))) c67_14 c67_15 (fun hb => ?_) (fun hb => ?_)
   · replace h := h.1 hb
     exact h.elim
   · replace h := h.2 hb
     refine wpE_exit (id := 0) (by kernel_rfl) ?_
     change WpE _ _ c67_58 _ _ _
     refine Zp c67_61 P1 [(2, .bool true)] ?_
     refine wpE_ret (by kernel_rfl) ?_
     repeat (first | refine seqQ_ret ?_ | refine blockQ_ret ?_ | refine loopQ_ret ?_ | refine cutQ_ret ?_)
     exact retS (rs := [(ResultVar.tmp 2)]) (v := Value.bool true) (by kernel_rfl) (⟨by kernel_rfl, trivial⟩) ⟨true, rfl, h⟩
 · rintro e w' ⟨v, rfl, r0, rfl, h⟩; exact ⟨r0, rfl, h⟩
end
end Go.Proofs.YtpedclhflmhakaaGreatDoor
