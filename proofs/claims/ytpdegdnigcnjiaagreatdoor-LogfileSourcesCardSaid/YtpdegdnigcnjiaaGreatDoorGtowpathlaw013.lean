/- WRITTEN BY PROGRAM (dec.py): for each Go function the clean formula F, the call's contract C, and the proof S that F gives C. -/
import Derived.Test.YtpdegdnigcnjiaaGreatDoorRows
import Derived.Test.YtpdegdnigcnjiaaGreatDoorGF
namespace Go.Proofs.YtpdegdnigcnjiaaGreatDoor
open Go
set_option linter.unusedVariables false
set_option maxRecDepth 100000
set_option maxHeartbeats 4000000
noncomputable section

/-! ### (*towpath/towpathlaw01.Book).growEvent (function 70) -/
def c70_0 := cb_ Tryz.f70
def c70_3 := cr_ c70_0
def c70_4 := cl_ c70_3
def c70_5 := cl_ c70_4
def c70_6 := cl_ c70_5
def c70_7 := cl_ c70_6
def r70_7 := co_ c70_7
def c70_9 := cr_ c70_6
def c70_10 := cl_ c70_9
def c70_11 := cr_ c70_9
def c70_12 := cr_ c70_5

theorem S_towpathlaw01_Book_growEvent {b_ : Option Addr} {w : World} {R : World → Prop} (h : F_towpathlaw01_Book_growEvent b_ R w) : C_towpathlaw01_Book_growEvent b_ w R := by
 unfold F_towpathlaw01_Book_growEvent at h
 unfold C_towpathlaw01_Book_growEvent
 refine Calls.mono (calls_of_wpE (args := [Value.pointer b_]) (R := fun v w' => v = Value.tuple #[] ∧ R w') Tryz.func70 (c := c70_0) (by kernel_rfl) 42 (by kernel_rfl) (by kernel_rfl) [(0, Value.pointer b_)] (by kernel_rfl) ?_) ?_
 · refine Zp c70_3 P1 [(0, .pointer b_), (2, .int .i64 0)] ?_
   refine Zb 0 c70_4 ?_
   obtain ⟨I, μ, h0, hr⟩ := h
   refine wpE_loop (x := c70_5) (by kernel_rfl) (fun m l w => ∃ (i : Int), l = [(0, Value.pointer b_), (2, Value.int .i64 i)] ∧ I i w ∧ μ i w = m) (l' := [(0, Value.pointer b_), (2, Value.int .i64 0)]) (Sub.mk (by kernel_rfl)) ⟨0, rfl, h0, rfl⟩ ?_
   rintro _ _ w1 ⟨i, rfl, hI, rfl⟩
   obtain ⟨again_, again__h, h⟩ : ∃ again_ : Int → World → Prop, (∀ i' w', again_ i' w' → I i' w' ∧ μ i' w' < μ i w1) ∧ F_towpathlaw01_Book_growEvent_L0 b_ R again_ i w1 := ⟨_, fun _ _ h => h, hr i w1 hI⟩
   clear h0 hI
   unfold F_towpathlaw01_Book_growEvent_L0 at h
   refine Zs c70_6 c70_12 ?_
   refine Zt r70_7 c70_9 ?_
   refine Zn P2 2 [(0, [], .pointer b_), (2, [], .int .i64 i), (6, [], .int .i64 i), (7, [], .pointer b_)] ?_
   obtain ⟨hp_3, h⟩ := h
   refine Zv (fun pp => [(0, [], .pointer b_), (2, [], .int .i64 i), (6, [], .int .i64 i), (7, [], .pointer pp)]) hp_3 ?_
   refine Zn P1 3 [(0, [], .pointer b_), (2, [], .int .i64 i), (6, [], .int .i64 i), (7, [], .pointer (some ⟨(pblk b_), (poff b_), none⟩)), (8, [], .pointer (some ⟨(pblk b_), (poff b_), none⟩))] ?_
   refine Zn P1 4 [(0, [], .pointer b_), (2, [], .int .i64 i), (6, [], .int .i64 i), (9, [], .pointer (some ⟨(pblk b_), (poff b_) + 10, none⟩))] ?_
   obtain ⟨v10, hc, h⟩ := h
   refine Zl 44 9 (pblk b_) ((poff b_) + 10) 44 10 hc ?_
   refine Zf P2 [(0, .pointer b_), (2, .int .i64 i), (12, .bool (decide (i < ((v10.len : Nat) : Int))))] ?_
   change WpE _ _ c70_9 _ _ _
   refine Zc 12 (decide (i < ((v10.len : Nat) : Int))) c70_10 c70_11 (fun hb => ?_) (fun hb => ?_)
   · replace h := h.1 hb
     exact h.elim
   · replace h := h.2 hb
     refine wpE_exit (id := 0) (by kernel_rfl) ?_
     repeat (first | refine seqQ_exit ?_ | refine loopQ_exit ?_ | refine cutQ_exit ?_ | refine blockQ_hit ?_ | refine blockQ_miss (by kernel_rfl) ?_)
     refine retQ_normal ?_
     repeat (first | refine seqQ_ret ?_ | refine blockQ_ret ?_ | refine loopQ_ret ?_ | refine cutQ_ret ?_)
     exact retT (rs := []) (vs := []) (by kernel_rfl) (trivial) (by kernel_rfl) ⟨rfl, h⟩
 · rintro e w' ⟨v, rfl, rfl, h⟩; exact ⟨rfl, h⟩

/-! ### (*towpath/towpathlaw01.Book).growAnswer (function 71) -/
def c71_0 := cb_ Tryz.f71
def c71_3 := cr_ c71_0
def c71_4 := cl_ c71_3
def c71_5 := cl_ c71_4
def c71_6 := cl_ c71_5
def c71_7 := cl_ c71_6
def r71_7 := co_ c71_7
def c71_9 := cr_ c71_6
def c71_10 := cl_ c71_9
def c71_11 := cr_ c71_9
def c71_12 := cr_ c71_5

theorem S_towpathlaw01_Book_growAnswer {b_ : Option Addr} {w : World} {R : World → Prop} (h : F_towpathlaw01_Book_growAnswer b_ R w) : C_towpathlaw01_Book_growAnswer b_ w R := by
 unfold F_towpathlaw01_Book_growAnswer at h
 unfold C_towpathlaw01_Book_growAnswer
 refine Calls.mono (calls_of_wpE (args := [Value.pointer b_]) (R := fun v w' => v = Value.tuple #[] ∧ R w') Tryz.func71 (c := c71_0) (by kernel_rfl) 42 (by kernel_rfl) (by kernel_rfl) [(0, Value.pointer b_)] (by kernel_rfl) ?_) ?_
 · refine Zp c71_3 P1 [(0, .pointer b_), (2, .int .i64 0)] ?_
   refine Zb 0 c71_4 ?_
   obtain ⟨I, μ, h0, hr⟩ := h
   refine wpE_loop (x := c71_5) (by kernel_rfl) (fun m l w => ∃ (i : Int), l = [(0, Value.pointer b_), (2, Value.int .i64 i)] ∧ I i w ∧ μ i w = m) (l' := [(0, Value.pointer b_), (2, Value.int .i64 0)]) (Sub.mk (by kernel_rfl)) ⟨0, rfl, h0, rfl⟩ ?_
   rintro _ _ w1 ⟨i, rfl, hI, rfl⟩
   obtain ⟨again_, again__h, h⟩ : ∃ again_ : Int → World → Prop, (∀ i' w', again_ i' w' → I i' w' ∧ μ i' w' < μ i w1) ∧ F_towpathlaw01_Book_growAnswer_L0 b_ R again_ i w1 := ⟨_, fun _ _ h => h, hr i w1 hI⟩
   clear h0 hI
   unfold F_towpathlaw01_Book_growAnswer_L0 at h
   refine Zs c71_6 c71_12 ?_
   refine Zt r71_7 c71_9 ?_
   refine Zn P2 2 [(0, [], .pointer b_), (2, [], .int .i64 i), (6, [], .int .i64 i), (7, [], .pointer b_)] ?_
   obtain ⟨hp_3, h⟩ := h
   refine Zv (fun pp => [(0, [], .pointer b_), (2, [], .int .i64 i), (6, [], .int .i64 i), (7, [], .pointer pp)]) hp_3 ?_
   refine Zn P1 3 [(0, [], .pointer b_), (2, [], .int .i64 i), (6, [], .int .i64 i), (7, [], .pointer (some ⟨(pblk b_), (poff b_), none⟩)), (8, [], .pointer (some ⟨(pblk b_), (poff b_), none⟩))] ?_
   refine Zn P1 4 [(0, [], .pointer b_), (2, [], .int .i64 i), (6, [], .int .i64 i), (9, [], .pointer (some ⟨(pblk b_), (poff b_) + 11, none⟩))] ?_
   obtain ⟨v10, hc, h⟩ := h
   refine Zl 45 9 (pblk b_) ((poff b_) + 11) 45 10 hc ?_
   refine Zf P2 [(0, .pointer b_), (2, .int .i64 i), (12, .bool (decide (i < ((v10.len : Nat) : Int))))] ?_
   change WpE _ _ c71_9 _ _ _
   refine Zc 12 (decide (i < ((v10.len : Nat) : Int))) c71_10 c71_11 (fun hb => ?_) (fun hb => ?_)
   · replace h := h.1 hb
     exact h.elim
   · replace h := h.2 hb
     refine wpE_exit (id := 0) (by kernel_rfl) ?_
     repeat (first | refine seqQ_exit ?_ | refine loopQ_exit ?_ | refine cutQ_exit ?_ | refine blockQ_hit ?_ | refine blockQ_miss (by kernel_rfl) ?_)
     refine retQ_normal ?_
     repeat (first | refine seqQ_ret ?_ | refine blockQ_ret ?_ | refine loopQ_ret ?_ | refine cutQ_ret ?_)
     exact retT (rs := []) (vs := []) (by kernel_rfl) (trivial) (by kernel_rfl) ⟨rfl, h⟩
 · rintro e w' ⟨v, rfl, rfl, h⟩; exact ⟨rfl, h⟩

/-! ### (*towpath/towpathlaw01.Book).lookByte (function 72) -/
def c72_0 := cb_ Tryz.f72
def c72_3 := cr_ c72_0
def c72_4 := cl_ c72_3
def c72_7 := cr_ c72_4
def c72_8 := cl_ c72_7
def c72_9 := cl_ c72_8
def c72_10 := cl_ c72_9
def c72_11 := cl_ c72_10
def r72_11 := co_ c72_11
def c72_13 := cr_ c72_10
def c72_14 := cl_ c72_13
def c72_15 := cr_ c72_13
def c72_16 := cr_ c72_9
def c72_58 := cr_ c72_3
def c72_61 := cr_ c72_58

theorem S_towpathlaw01_Book_lookByte {b_ : Option Addr} {w : World} {R : Bool → World → Prop} (h : F_towpathlaw01_Book_lookByte b_ R w) : C_towpathlaw01_Book_lookByte b_ w R := by
 unfold F_towpathlaw01_Book_lookByte at h
 unfold C_towpathlaw01_Book_lookByte
 refine Calls.mono (calls_of_wpE (args := [Value.pointer b_]) (R := fun v w' => ∃ (r0 : Bool), v = Value.bool r0 ∧ R r0 w') Tryz.func72 (c := c72_0) (by kernel_rfl) 64 (by kernel_rfl) (by kernel_rfl) [(0, Value.pointer b_)] (by kernel_rfl) ?_) ?_
 · refine Zp c72_3 P1 [(0, .pointer b_)] ?_
   refine Zs c72_4 c72_58 ?_
   refine Zp c72_7 P1 [(0, .pointer b_), (3, .int .i64 0)] ?_
   refine Zb 0 c72_8 ?_
   obtain ⟨I, μ, h0, hr⟩ := h
   refine wpE_loop (x := c72_9) (by kernel_rfl) (fun m l w => ∃ (i : Int), l = [(0, Value.pointer b_), (3, Value.int .i64 i)] ∧ I i w ∧ μ i w = m) (l' := [(0, Value.pointer b_), (3, Value.int .i64 0)]) (Sub.mk (by kernel_rfl)) ⟨0, rfl, h0, rfl⟩ ?_
   rintro _ _ w1 ⟨i, rfl, hI, rfl⟩
   obtain ⟨again_, again__h, h⟩ : ∃ again_ : Int → World → Prop, (∀ i' w', again_ i' w' → I i' w' ∧ μ i' w' < μ i w1) ∧ F_towpathlaw01_Book_lookByte_L0 b_ R again_ i w1 := ⟨_, fun _ _ h => h, hr i w1 hI⟩
   clear h0 hI
   unfold F_towpathlaw01_Book_lookByte_L0 at h
   refine Zs c72_10 c72_16 ?_
   refine Zt r72_11 c72_13 ?_
   refine Zn P2 2 [(0, [], .pointer b_), (3, [], .int .i64 i), (6, [], .int .i64 i), (7, [], .pointer b_)] ?_
   obtain ⟨hp_7, h⟩ := h
   refine Zv (fun pp => [(0, [], .pointer b_), (3, [], .int .i64 i), (6, [], .int .i64 i), (7, [], .pointer pp)]) hp_7 ?_
   refine Zn P1 3 [(0, [], .pointer b_), (3, [], .int .i64 i), (6, [], .int .i64 i), (7, [], .pointer (some ⟨(pblk b_), (poff b_), none⟩)), (8, [], .pointer (some ⟨(pblk b_), (poff b_), none⟩))] ?_
   refine Zn P1 4 [(0, [], .pointer b_), (3, [], .int .i64 i), (6, [], .int .i64 i), (9, [], .pointer (some ⟨(pblk b_), (poff b_) + 1, none⟩))] ?_
   obtain ⟨v10, hc, h⟩ := h
   refine Zl 35 9 (pblk b_) ((poff b_) + 1) 35 10 hc ?_
   refine Zf P2 [(0, .pointer b_), (3, .int .i64 i), (12, .bool (decide (i < ((v10.len : Nat) : Int))))] ?_
   change WpE _ _ c72_13 _ _ _
   refine Zc 12 (decide (i < ((v10.len : Nat) : Int))) c72_14 c72_15 (fun hb => ?_) (fun hb => ?_)
   · replace h := h.1 hb
     exact h.elim
   · replace h := h.2 hb
     refine wpE_exit (id := 0) (by kernel_rfl) ?_
     change WpE _ _ c72_58 _ _ _
     refine Zp c72_61 P1 [(2, .bool true)] ?_
     refine wpE_ret (by kernel_rfl) ?_
     repeat (first | refine seqQ_ret ?_ | refine blockQ_ret ?_ | refine loopQ_ret ?_ | refine cutQ_ret ?_)
     exact retS (rs := [(ResultVar.tmp 2)]) (v := Value.bool true) (by kernel_rfl) (⟨by kernel_rfl, trivial⟩) ⟨true, rfl, h⟩
 · rintro e w' ⟨v, rfl, r0, rfl, h⟩; exact ⟨r0, rfl, h⟩

/-! ### (*towpath/towpathlaw01.Book).lookInt (function 73) -/
def c73_0 := cb_ Tryz.f73
def c73_3 := cr_ c73_0
def c73_4 := cl_ c73_3
def c73_7 := cr_ c73_4
def c73_8 := cl_ c73_7
def c73_9 := cl_ c73_8
def c73_10 := cl_ c73_9
def c73_11 := cl_ c73_10
def r73_11 := co_ c73_11
def c73_13 := cr_ c73_10
def c73_14 := cl_ c73_13
def c73_15 := cr_ c73_13
def c73_16 := cr_ c73_9
def c73_17 := cl_ c73_16
def c73_18 := cl_ c73_17
def c73_19 := cl_ c73_18
def r73_19 := co_ c73_19
def c73_21 := cr_ c73_18
def c73_22 := cl_ c73_21
def c73_23 := cl_ c73_22
def r73_23 := co_ c73_23
def c73_25 := cr_ c73_22
def c73_26 := cl_ c73_25
def c73_29 := cr_ c73_26
def c73_30 := cr_ c73_25
def c73_31 := cr_ c73_21
def c73_34 := cr_ c73_31
def c73_35 := cl_ c73_34
def c73_36 := cl_ c73_35
def c73_37 := cl_ c73_36
def c73_38 := cl_ c73_37
def r73_38 := co_ c73_38
def c73_40 := cr_ c73_37
def c73_41 := cl_ c73_40
def c73_42 := cr_ c73_40
def c73_43 := cr_ c73_36
def c73_44 := cl_ c73_43
def c73_45 := cl_ c73_44
def c73_46 := cl_ c73_45
def r73_46 := co_ c73_46
def c73_48 := cr_ c73_45
def c73_49 := cl_ c73_48
def c73_52 := cr_ c73_49
def c73_53 := cr_ c73_48
def c73_54 := cr_ c73_43
def r73_54 := co_ c73_54
def c73_56 := cr_ c73_16
def r73_56 := co_ c73_56
def c73_58 := cr_ c73_3
def c73_61 := cr_ c73_58

theorem S_towpathlaw01_Book_lookInt {b_ : Option Addr} {w : World} {R : Bool → World → Prop} (h : F_towpathlaw01_Book_lookInt b_ R w) : C_towpathlaw01_Book_lookInt b_ w R := by
 unfold F_towpathlaw01_Book_lookInt at h
 unfold C_towpathlaw01_Book_lookInt
 refine Calls.mono (calls_of_wpE (args := [Value.pointer b_]) (R := fun v w' => ∃ (r0 : Bool), v = Value.bool r0 ∧ R r0 w') Tryz.func73 (c := c73_0) (by kernel_rfl) 64 (by kernel_rfl) (by kernel_rfl) [(0, Value.pointer b_)] (by kernel_rfl) ?_) ?_
 · refine Zp c73_3 P1 [(0, .pointer b_)] ?_
   refine Zs c73_4 c73_58 ?_
   refine Zp c73_7 P1 [(0, .pointer b_), (3, .int .i64 0)] ?_
   refine Zb 0 c73_8 ?_
   obtain ⟨I, μ, h0, hr⟩ := h
   refine wpE_loop (x := c73_9) (by kernel_rfl) (fun m l w => ∃ (i : Int), l = [(0, Value.pointer b_), (3, Value.int .i64 i)] ∧ I i w ∧ μ i w = m) (l' := [(0, Value.pointer b_), (3, Value.int .i64 0)]) (Sub.mk (by kernel_rfl)) ⟨0, rfl, h0, rfl⟩ ?_
   rintro _ _ w1 ⟨i, rfl, hI, rfl⟩
   obtain ⟨again_, again__h, h⟩ : ∃ again_ : Int → World → Prop, (∀ i' w', again_ i' w' → I i' w' ∧ μ i' w' < μ i w1) ∧ F_towpathlaw01_Book_lookInt_L0 b_ R again_ i w1 := ⟨_, fun _ _ h => h, hr i w1 hI⟩
   clear h0 hI
   unfold F_towpathlaw01_Book_lookInt_L0 at h
   refine Zs c73_10 c73_16 ?_
   refine Zt r73_11 c73_13 ?_
   refine Zn P2 2 [(0, [], .pointer b_), (3, [], .int .i64 i), (6, [], .int .i64 i), (7, [], .pointer b_)] ?_
   obtain ⟨hp_31, h⟩ := h
   refine Zv (fun pp => [(0, [], .pointer b_), (3, [], .int .i64 i), (6, [], .int .i64 i), (7, [], .pointer pp)]) hp_31 ?_
   refine Zn P1 3 [(0, [], .pointer b_), (3, [], .int .i64 i), (6, [], .int .i64 i), (7, [], .pointer (some ⟨(pblk b_), (poff b_), none⟩)), (8, [], .pointer (some ⟨(pblk b_), (poff b_), none⟩))] ?_
   refine Zn P1 4 [(0, [], .pointer b_), (3, [], .int .i64 i), (6, [], .int .i64 i), (9, [], .pointer (some ⟨(pblk b_), (poff b_) + 2, none⟩))] ?_
   obtain ⟨v10, hc, h⟩ := h
   refine Zl 36 9 (pblk b_) ((poff b_) + 2) 36 10 hc ?_
   refine Zf P2 [(0, .pointer b_), (3, .int .i64 i), (12, .bool (decide (i < ((v10.len : Nat) : Int))))] ?_
   change WpE _ _ c73_13 _ _ _
   refine Zc 12 (decide (i < ((v10.len : Nat) : Int))) c73_14 c73_15 (fun hb => ?_) (fun hb => ?_)
   · replace h := h.1 hb
     refine wpE_skip (by kernel_rfl) ?_
     change WpE _ _ c73_16 _ _ _
     refine Zs c73_17 c73_56 ?_
     refine Zb 1 c73_18 ?_
     refine Zt r73_19 c73_21 ?_
     refine Zn P1 1 [(0, [], .pointer b_), (3, [], .int .i64 i), (15, [], .pointer b_)] ?_
     obtain ⟨hp_46, h⟩ := h
     refine Zv (fun pp => [(0, [], .pointer b_), (3, [], .int .i64 i), (15, [], .pointer pp)]) hp_46 ?_
     refine Zn P1 2 [(0, [], .pointer b_), (3, [], .int .i64 i), (15, [], .pointer (some ⟨(pblk b_), (poff b_), none⟩)), (16, [], .pointer (some ⟨(pblk b_), (poff b_), none⟩))] ?_
     refine Zn P1 3 [(0, [], .pointer b_), (3, [], .int .i64 i), (17, [], .pointer (some ⟨(pblk b_), (poff b_) + 2, none⟩))] ?_
     obtain ⟨v18, hc, h⟩ := h
     refine Zl 36 17 (pblk b_) ((poff b_) + 2) 36 18 hc ?_
     refine Zn P1 5 [(0, [], .pointer b_), (3, [], .int .i64 i), (18, [], sv_ v18), (19, [], .int .i64 i)] ?_
     obtain ⟨hp_47, h⟩ := h
     refine Zv (fun pp => [(0, [], .pointer b_), (3, [], .int .i64 i), (18, [], .slice pp v18.len v18.cap), (19, [], .int .i64 i)]) hp_47 ?_
     obtain ⟨h0, h1, h⟩ := h
     refine Zj 36 146 18 19 (pblk v18.ptr) (poff v18.ptr) v18.len v18.cap i 3 20 0 h0 h1 ?_
     refine Zn [] 6 [(0, [], .pointer b_), (3, [], .int .i64 i), (20, [], .pointer (some ⟨(pblk v18.ptr), (poff v18.ptr) + i.toNat * 3, none⟩))] ?_
     obtain ⟨v21, hc, h⟩ := h
     refine reg_loadN (t := 146) (a := (Operand.tmp 20)) (b := (pblk v18.ptr)) (o := ((poff v18.ptr) + i.toNat * 3)) (ty := 146) (dst := some 21) [sv_ v21.l, sv_ v21.long, Value.int .i64 v21.n] (by kernel_rfl) (by kernel_rfl) (by kernel_rfl) (k := 3) (by kernel_rfl) (by kernel_rfl) hc ?_
     refine Zn [] 7 [(0, [], .pointer b_), (3, [], .int .i64 i), (21, [], .agg #[sv_ v21.l, sv_ v21.long, .int .i64 v21.n])] ?_
     refine Zw (some 4) (fun bb => pv_ bb) (Obj.cells ([.slice none 0 0, .slice none 0 0, .int .i64 0]).toArray ty_towpathlaw01_heldInt (0, 0)) (fun b_1 w2 hb hw => ?_)
     replace h := h b_1 w2 hb hw
     clear hb hw
     refine Zn [] 8 [(0, [], .pointer b_), (3, [], .int .i64 i), (4, [], pv_ b_1), (21, [], .agg #[sv_ v21.l, sv_ v21.long, .int .i64 v21.n])] ?_
     obtain ⟨hc, h⟩ := h
     refine Zo 146 4 21 b_1 0 3 [sv_ v21.l, sv_ v21.long, .int .i64 v21.n] hc (fun w3 hw => ?_)
     replace h := h w3 hw
     clear hw
     refine Ze [(0, .pointer b_), (3, .int .i64 i), (4, pv_ b_1)] ?_
     change WpE _ _ c73_21 _ _ _
     refine Zs c73_22 c73_31 ?_
     refine Zt r73_23 c73_25 ?_
     refine Zn P1 1 [(0, [], .pointer b_), (3, [], .int .i64 i), (4, [], pv_ b_1), (22, [], .pointer (some ⟨b_1, 1, none⟩))] ?_
     obtain ⟨v23, hc, h⟩ := h
     refine Zl 23 22 b_1 1 23 23 hc ?_
     refine Zn P2 4 [(0, [], .pointer b_), (3, [], .int .i64 i), (4, [], pv_ b_1), (24, [], .int .i64 ((v23.len : Nat) : Int)), (25, [], pv_ b_1)] ?_
     obtain ⟨v26, hc, h⟩ := h
     refine Zl 23 25 b_1 0 23 26 hc ?_
     refine Zf P3 [(0, .pointer b_), (3, .int .i64 i), (4, pv_ b_1), (29, .bool (((v23.len : Nat) : Int) != (IntKind.i64.wrap (((v26.len : Nat) : Int) + 70))))] ?_
     change WpE _ _ c73_25 _ _ _
     refine Zc 29 (((v23.len : Nat) : Int) != (IntKind.i64.wrap (((v26.len : Nat) : Int) + 70))) c73_26 c73_30 (fun hb => ?_) (fun hb => ?_)
     · replace h := h.1 hb
       refine Zp c73_29 P1 [(2, .bool false)] ?_
       refine wpE_ret (by kernel_rfl) ?_
       repeat (first | refine seqQ_ret ?_ | refine blockQ_ret ?_ | refine loopQ_ret ?_ | refine cutQ_ret ?_)
       exact retS (rs := [(ResultVar.tmp 2)]) (v := Value.bool false) (by kernel_rfl) (⟨by kernel_rfl, trivial⟩) ⟨false, rfl, h⟩
     · replace h := h.2 hb
       refine wpE_skip (by kernel_rfl) ?_
       change WpE _ _ c73_31 _ _ _
       refine Zp c73_34 P1 [(0, .pointer b_), (3, .int .i64 i), (4, pv_ b_1), (5, .int .i64 0)] ?_
       refine Zb 2 c73_35 ?_
       obtain ⟨I, μ, h0, hr⟩ := h
       refine wpE_loop (x := c73_36) (by kernel_rfl) (fun m l w => ∃ (k_ : Int), l = [(0, Value.pointer b_), (3, Value.int .i64 i), (4, pv_ b_1), (5, Value.int .i64 k_)] ∧ I k_ w ∧ μ k_ w = m) (l' := [(0, Value.pointer b_), (3, Value.int .i64 i), (4, pv_ b_1), (5, Value.int .i64 0)]) (Sub.mk (by kernel_rfl)) ⟨0, rfl, h0, rfl⟩ ?_
       rintro _ _ w4 ⟨k_, rfl, hI, rfl⟩
       obtain ⟨again_1, again_1_h, h⟩ : ∃ again_1 : Int → World → Prop, (∀ k_' w', again_1 k_' w' → I k_' w' ∧ μ k_' w' < μ k_ w4) ∧ F_towpathlaw01_Book_lookInt_L1 R i again_ b_1 again_1 k_ w4 := ⟨_, fun _ _ h => h, hr k_ w4 hI⟩
       clear h0 hI
       unfold F_towpathlaw01_Book_lookInt_L1 at h
       refine Zs c73_37 c73_43 ?_
       refine Zt r73_38 c73_40 ?_
       refine Zn P2 2 [(0, [], .pointer b_), (3, [], .int .i64 i), (4, [], pv_ b_1), (5, [], .int .i64 k_), (30, [], .int .i64 k_), (31, [], .pointer (some ⟨b_1, 1, none⟩))] ?_
       obtain ⟨v32, hc, h⟩ := h
       refine Zl 23 31 b_1 1 23 32 hc ?_
       refine Zf P2 [(0, .pointer b_), (3, .int .i64 i), (4, pv_ b_1), (5, .int .i64 k_), (34, .bool (decide (k_ < ((v32.len : Nat) : Int))))] ?_
       change WpE _ _ c73_40 _ _ _
       refine Zc 34 (decide (k_ < ((v32.len : Nat) : Int))) c73_41 c73_42 (fun hb => ?_) (fun hb => ?_)
       · replace h := h.1 hb
         refine wpE_skip (by kernel_rfl) ?_
         change WpE _ _ c73_43 _ _ _
         refine Zs c73_44 c73_54 ?_
         refine Zb 3 c73_45 ?_
         refine wpE_seq_cut (x := c73_46) (y := c73_48) (by kernel_rfl) (fun l w => ∃ (t63 : Bool), l = [(0, Value.pointer b_), (3, Value.int .i64 i), (4, pv_ b_1), (5, Value.int .i64 k_), (63, Value.bool t63)] ∧ F_towpathlaw01_Book_lookInt_k2 R k_ again_1 t63 w) ?_ ?_
         · refine wpE_drawregion (id := 10) (ops := r73_46) (by kernel_rfl) (by kernel_rfl) (by kernel_rfl) ?_
           refine qreg_run P1 1 [(0, [], Value.pointer b_), (3, [], Value.int .i64 i), (4, [], pv_ b_1), (5, [], Value.int .i64 k_), (37, [], Value.pointer (some ⟨b_1, 1, none⟩))] (by kernel_rfl) (by kernel_rfl) ?_
           obtain ⟨v38, hc, h⟩ := h
           refine qreg_load1 (t := 23) (a := (Operand.tmp 37)) (b := b_1) (o := 1) (ty := 23) (dst := some 38) (by kernel_rfl) (by kernel_rfl) (by kernel_rfl) hc ?_
           refine qreg_run P1 3 [(0, [], Value.pointer b_), (3, [], Value.int .i64 i), (4, [], pv_ b_1), (5, [], Value.int .i64 k_), (38, [], sv_ v38), (39, [], Value.int .i64 k_)] (by kernel_rfl) (by kernel_rfl) ?_
           obtain ⟨hp_54, h⟩ := h
           refine qreg_conv [(0, [], Value.pointer b_), (3, [], Value.int .i64 i), (4, [], pv_ b_1), (5, [], Value.int .i64 k_), (38, [], Value.slice (some ⟨(pblk v38.ptr), (poff v38.ptr), none⟩) v38.len v38.cap), (39, [], Value.int .i64 k_)] (congrArg (fun pp => ([(0, [], Value.pointer b_), (3, [], Value.int .i64 i), (4, [], pv_ b_1), (5, [], Value.int .i64 k_), (38, [], Value.slice pp v38.len v38.cap), (39, [], Value.int .i64 k_)] : GEnv)) hp_54) ?_
           obtain ⟨h0, h1, h⟩ := h
           refine qreg_indexS1 (t := 23) (e := 3) (x := (Operand.tmp 38)) (ix := (Operand.tmp 39)) (b := (pblk v38.ptr)) (o := (poff v38.ptr)) (l := v38.len) (c := v38.cap) (k := .i64) (j := k_) (ty := 0) (dst := some 40) (by kernel_rfl) (by kernel_rfl) (by kernel_rfl) (by kernel_rfl) (by kernel_rfl) h0 h1 ?_
           refine qreg_run [] 4 [(0, [], Value.pointer b_), (3, [], Value.int .i64 i), (4, [], pv_ b_1), (5, [], Value.int .i64 k_), (40, [], Value.pointer (some ⟨(pblk v38.ptr), (poff v38.ptr) + k_.toNat, none⟩))] (by kernel_rfl) (by kernel_rfl) ?_
           obtain ⟨v41, hc, h⟩ := h
           refine qreg_load1 (t := 3) (a := (Operand.tmp 40)) (b := (pblk v38.ptr)) (o := ((poff v38.ptr) + k_.toNat)) (ty := 3) (dst := some 41) (by kernel_rfl) (by kernel_rfl) (by kernel_rfl) hc ?_
           refine qreg_run P1 6 [(0, [], Value.pointer b_), (3, [], Value.int .i64 i), (4, [], pv_ b_1), (5, [], Value.int .i64 k_), (41, [], Value.int .i64 v41), (42, [], Value.pointer (some ⟨b_1, 2, none⟩))] (by kernel_rfl) (by kernel_rfl) ?_
           obtain ⟨v43, hc, h⟩ := h
           refine qreg_load1 (t := 3) (a := (Operand.tmp 42)) (b := b_1) (o := 2) (ty := 3) (dst := some 43) (by kernel_rfl) (by kernel_rfl) (by kernel_rfl) hc ?_
           refine qreg_run [] 7 [(0, [], Value.pointer b_), (3, [], Value.int .i64 i), (4, [], pv_ b_1), (5, [], Value.int .i64 k_), (41, [], Value.int .i64 v41), (43, [], Value.int .i64 v43)] (by kernel_rfl) (by kernel_rfl) ?_
           obtain ⟨v44, hq, h⟩ := h
           refine qreg_enter (op := (Op.call (Call.mk (Callee.value (Operand.func 137)) #[(Operand.tmp 41), (Operand.tmp 43)] #[3, 3]))) (ty := 4) (dst := some 44) 137 #[Value.int .i64 v41, Value.int .i64 v43] (Value.bool v44) (by kernel_rfl) (fun ww => by kernel_rfl) (fun w' he => Calls.mono (hq w' he) (by rintro _ w'' ⟨_, rfl, rfl, hE⟩; exact ⟨rfl, hE⟩)) ?_
           clear hq
           refine qreg_run P4 12 [(0, [], Value.pointer b_), (3, [], Value.int .i64 i), (4, [], pv_ b_1), (5, [], Value.int .i64 k_), (46, [], Value.bool (!v44)), (47, [(46, false)], Value.int .i64 k_), (48, [(46, false)], pv_ b_1)] (by kernel_rfl) (by kernel_rfl) ?_
           refine qreg_split 46 (!v44) (by kernel_rfl) (fun hb => ?_) (fun hb => ?_)
           · replace h := h.1 hb
             refine qreg_run [] 12 [(0, [], Value.pointer b_), (3, [], Value.int .i64 i), (4, [], pv_ b_1), (5, [], Value.int .i64 k_), (46, [], Value.bool true), (47, [], undef), (48, [], undef)] (by kernel_rfl) (by kernel_rfl) ?_
             refine qreg_run [.skip, .skip, .skip, .skip, .skip, .skip, .skip, .skip, .skip, .skip, .skip, .skip, .skip, .skip, .plain] 27 [(0, [], Value.pointer b_), (3, [], Value.int .i64 i), (4, [], pv_ b_1), (5, [], Value.int .i64 k_), (63, [], Value.bool true)] (by kernel_rfl) (by kernel_rfl) ?_
             refine qreg_end [(0, Value.pointer b_), (3, Value.int .i64 i), (4, pv_ b_1), (5, Value.int .i64 k_), (63, Value.bool true)] (by kernel_rfl) (by kernel_rfl) (fun w7 hw => ?_)
             replace h := h w7 hw
             clear hw
             exact ⟨[(0, Value.pointer b_), (3, Value.int .i64 i), (4, pv_ b_1), (5, Value.int .i64 k_), (63, Value.bool true)], Sub.mk (by kernel_rfl), true, rfl, h⟩
           · replace h := h.2 hb
             refine qreg_run [] 12 [(0, [], Value.pointer b_), (3, [], Value.int .i64 i), (4, [], pv_ b_1), (5, [], Value.int .i64 k_), (46, [], Value.bool false), (47, [], Value.int .i64 k_), (48, [], pv_ b_1)] (by kernel_rfl) (by kernel_rfl) ?_
             refine qreg_run [] 12 [(0, [], Value.pointer b_), (3, [], Value.int .i64 i), (4, [], pv_ b_1), (5, [], Value.int .i64 k_), (46, [], Value.bool false), (47, [], Value.int .i64 k_), (48, [], pv_ b_1)] (by kernel_rfl) (by kernel_rfl) ?_
             obtain ⟨v49, hc, h⟩ := h
             refine qreg_load1 (t := 23) (a := (Operand.tmp 48)) (b := b_1) (o := 0) (ty := 23) (dst := some 49) (by kernel_rfl) (by kernel_rfl) (by kernel_rfl) hc ?_
             refine qreg_run [.sure, .sure, .sure, .plain] 17 [(0, [], Value.pointer b_), (3, [], Value.int .i64 i), (4, [], pv_ b_1), (5, [], Value.int .i64 k_), (46, [], Value.bool false), (52, [], Value.bool (decide (k_ < ((v49.len : Nat) : Int)))), (53, [(52, true)], pv_ b_1)] (by kernel_rfl) (by kernel_rfl) ?_
             refine qreg_split 52 (decide (k_ < ((v49.len : Nat) : Int))) (by kernel_rfl) (fun hb => ?_) (fun hb => ?_)
             · replace h := h.1 hb
               refine qreg_run [] 17 [(0, [], Value.pointer b_), (3, [], Value.int .i64 i), (4, [], pv_ b_1), (5, [], Value.int .i64 k_), (46, [], Value.bool false), (52, [], Value.bool true), (53, [], pv_ b_1)] (by kernel_rfl) (by kernel_rfl) ?_
               refine qreg_run [] 17 [(0, [], Value.pointer b_), (3, [], Value.int .i64 i), (4, [], pv_ b_1), (5, [], Value.int .i64 k_), (46, [], Value.bool false), (52, [], Value.bool true), (53, [], pv_ b_1)] (by kernel_rfl) (by kernel_rfl) ?_
               obtain ⟨v54, hc, h⟩ := h
               refine qreg_load1 (t := 23) (a := (Operand.tmp 53)) (b := b_1) (o := 0) (ty := 23) (dst := some 54) (by kernel_rfl) (by kernel_rfl) (by kernel_rfl) hc ?_
               refine qreg_run [.sure] 19 [(0, [], Value.pointer b_), (3, [], Value.int .i64 i), (4, [], pv_ b_1), (5, [], Value.int .i64 k_), (46, [], Value.bool false), (52, [], Value.bool true), (54, [], sv_ v54), (55, [], Value.int .i64 k_)] (by kernel_rfl) (by kernel_rfl) ?_
               obtain ⟨hp_55, h⟩ := h
               refine qreg_conv [(0, [], Value.pointer b_), (3, [], Value.int .i64 i), (4, [], pv_ b_1), (5, [], Value.int .i64 k_), (46, [], Value.bool false), (52, [], Value.bool true), (54, [], Value.slice (some ⟨(pblk v54.ptr), (poff v54.ptr), none⟩) v54.len v54.cap), (55, [], Value.int .i64 k_)] (congrArg (fun pp => ([(0, [], Value.pointer b_), (3, [], Value.int .i64 i), (4, [], pv_ b_1), (5, [], Value.int .i64 k_), (46, [], Value.bool false), (52, [], Value.bool true), (54, [], Value.slice pp v54.len v54.cap), (55, [], Value.int .i64 k_)] : GEnv)) hp_55) ?_
               obtain ⟨h0, h1, h⟩ := h
               refine qreg_indexS1 (t := 23) (e := 3) (x := (Operand.tmp 54)) (ix := (Operand.tmp 55)) (b := (pblk v54.ptr)) (o := (poff v54.ptr)) (l := v54.len) (c := v54.cap) (k := .i64) (j := k_) (ty := 0) (dst := some 56) (by kernel_rfl) (by kernel_rfl) (by kernel_rfl) (by kernel_rfl) (by kernel_rfl) h0 h1 ?_
               refine qreg_run [] 20 [(0, [], Value.pointer b_), (3, [], Value.int .i64 i), (4, [], pv_ b_1), (5, [], Value.int .i64 k_), (46, [], Value.bool false), (52, [], Value.bool true), (56, [], Value.pointer (some ⟨(pblk v54.ptr), (poff v54.ptr) + k_.toNat, none⟩))] (by kernel_rfl) (by kernel_rfl) ?_
               obtain ⟨v57, hc, h⟩ := h
               refine qreg_load1 (t := 3) (a := (Operand.tmp 56)) (b := (pblk v54.ptr)) (o := ((poff v54.ptr) + k_.toNat)) (ty := 3) (dst := some 57) (by kernel_rfl) (by kernel_rfl) (by kernel_rfl) hc ?_
               refine qreg_run [.sure] 22 [(0, [], Value.pointer b_), (3, [], Value.int .i64 i), (4, [], pv_ b_1), (5, [], Value.int .i64 k_), (46, [], Value.bool false), (52, [], Value.bool true), (57, [], Value.int .i64 v57), (58, [], Value.pointer (some ⟨b_1, 2, none⟩))] (by kernel_rfl) (by kernel_rfl) ?_
               obtain ⟨v59, hc, h⟩ := h
               refine qreg_load1 (t := 3) (a := (Operand.tmp 58)) (b := b_1) (o := 2) (ty := 3) (dst := some 59) (by kernel_rfl) (by kernel_rfl) (by kernel_rfl) hc ?_
               refine qreg_run [] 23 [(0, [], Value.pointer b_), (3, [], Value.int .i64 i), (4, [], pv_ b_1), (5, [], Value.int .i64 k_), (46, [], Value.bool false), (52, [], Value.bool true), (57, [], Value.int .i64 v57), (59, [], Value.int .i64 v59)] (by kernel_rfl) (by kernel_rfl) ?_
               obtain ⟨v60, hq, h⟩ := h
               refine qreg_enter (op := (Op.call (Call.mk (Callee.value (Operand.func 137)) #[(Operand.tmp 57), (Operand.tmp 59)] #[3, 3]))) (ty := 4) (dst := some 60) 137 #[Value.int .i64 v57, Value.int .i64 v59] (Value.bool v60) (by kernel_rfl) (fun ww => by kernel_rfl) (fun w' he => Calls.mono (hq w' he) (by rintro _ w'' ⟨_, rfl, rfl, hE⟩; exact ⟨rfl, hE⟩)) ?_
               clear hq
               refine qreg_run [.sure, .sure, .plain] 27 [(0, [], Value.pointer b_), (3, [], Value.int .i64 i), (4, [], pv_ b_1), (5, [], Value.int .i64 k_), (63, [], Value.bool (!v60))] (by kernel_rfl) (by kernel_rfl) ?_
               refine qreg_end [(0, Value.pointer b_), (3, Value.int .i64 i), (4, pv_ b_1), (5, Value.int .i64 k_), (63, Value.bool (!v60))] (by kernel_rfl) (by kernel_rfl) (fun w9 hw => ?_)
               replace h := h w9 hw
               clear hw
               exact ⟨[(0, Value.pointer b_), (3, Value.int .i64 i), (4, pv_ b_1), (5, Value.int .i64 k_), (63, Value.bool (!v60))], Sub.mk (by kernel_rfl), (!v60), rfl, h⟩
             · replace h := h.2 hb
               refine qreg_run [] 17 [(0, [], Value.pointer b_), (3, [], Value.int .i64 i), (4, [], pv_ b_1), (5, [], Value.int .i64 k_), (46, [], Value.bool false), (52, [], Value.bool false), (53, [], undef)] (by kernel_rfl) (by kernel_rfl) ?_
               refine qreg_run [.skip, .skip, .skip, .skip, .skip, .skip, .skip, .skip, .sure, .plain] 27 [(0, [], Value.pointer b_), (3, [], Value.int .i64 i), (4, [], pv_ b_1), (5, [], Value.int .i64 k_), (63, [], Value.bool false)] (by kernel_rfl) (by kernel_rfl) ?_
               refine qreg_end [(0, Value.pointer b_), (3, Value.int .i64 i), (4, pv_ b_1), (5, Value.int .i64 k_), (63, Value.bool false)] (by kernel_rfl) (by kernel_rfl) (fun w10 hw => ?_)
               replace h := h w10 hw
               clear hw
               exact ⟨[(0, Value.pointer b_), (3, Value.int .i64 i), (4, pv_ b_1), (5, Value.int .i64 k_), (63, Value.bool false)], Sub.mk (by kernel_rfl), false, rfl, h⟩
         · rintro _ w5 ⟨t63, rfl, h⟩
           unfold F_towpathlaw01_Book_lookInt_k2 at h
           refine Zc 63 t63 c73_49 c73_53 (fun hb => ?_) (fun hb => ?_)
           · replace h := h.1 hb
             refine Zp c73_52 P1 [(2, .bool false)] ?_
             refine wpE_ret (by kernel_rfl) ?_
             repeat (first | refine seqQ_ret ?_ | refine blockQ_ret ?_ | refine loopQ_ret ?_ | refine cutQ_ret ?_)
             exact retS (rs := [(ResultVar.tmp 2)]) (v := Value.bool false) (by kernel_rfl) (⟨by kernel_rfl, trivial⟩) ⟨false, rfl, h⟩
           · replace h := h.2 hb
             refine wpE_skip (by kernel_rfl) ?_
             change WpE _ _ c73_54 _ _ _
             refine Zr r73_54 ?_
             refine Zf P3 [(0, .pointer b_), (3, .int .i64 i), (4, pv_ b_1), (5, .int .i64 (IntKind.i64.wrap (k_ + 1)))] ?_
             have hb_ := again_1_h _ _ h
             exact ⟨_, hb_.2, [(0, Value.pointer b_), (3, Value.int .i64 i), (4, pv_ b_1), (5, Value.int .i64 (IntKind.i64.wrap (k_ + 1)))], Sub.mk (by kernel_rfl), (IntKind.i64.wrap (k_ + 1)), rfl, hb_.1, rfl⟩
       · replace h := h.2 hb
         refine wpE_exit (id := 2) (by kernel_rfl) ?_
         change WpE _ _ c73_56 _ _ _
         refine Zr r73_56 ?_
         refine Zf P3 [(0, .pointer b_), (3, .int .i64 (IntKind.i64.wrap (i + 1)))] ?_
         have hb_ := again__h _ _ h
         exact ⟨_, hb_.2, [(0, Value.pointer b_), (3, Value.int .i64 (IntKind.i64.wrap (i + 1)))], Sub.mk (by kernel_rfl), (IntKind.i64.wrap (i + 1)), rfl, hb_.1, rfl⟩
   · replace h := h.2 hb
     refine wpE_exit (id := 0) (by kernel_rfl) ?_
     change WpE _ _ c73_58 _ _ _
     refine Zp c73_61 P1 [(2, .bool true)] ?_
     refine wpE_ret (by kernel_rfl) ?_
     repeat (first | refine seqQ_ret ?_ | refine blockQ_ret ?_ | refine loopQ_ret ?_ | refine cutQ_ret ?_)
     exact retS (rs := [(ResultVar.tmp 2)]) (v := Value.bool true) (by kernel_rfl) (⟨by kernel_rfl, trivial⟩) ⟨true, rfl, h⟩
 · rintro e w' ⟨v, rfl, r0, rfl, h⟩; exact ⟨r0, rfl, h⟩

/-! ### (*towpath/towpathlaw01.Book).lookText (function 74) -/
def c74_0 := cb_ Tryz.f74
def c74_3 := cr_ c74_0
def c74_4 := cl_ c74_3
def c74_7 := cr_ c74_4
def c74_8 := cl_ c74_7
def c74_9 := cl_ c74_8
def c74_10 := cl_ c74_9
def c74_11 := cl_ c74_10
def r74_11 := co_ c74_11
def c74_13 := cr_ c74_10
def c74_14 := cl_ c74_13
def c74_15 := cr_ c74_13
def c74_16 := cr_ c74_9
def c74_58 := cr_ c74_3
def c74_61 := cr_ c74_58

theorem S_towpathlaw01_Book_lookText {b_ : Option Addr} {w : World} {R : Bool → World → Prop} (h : F_towpathlaw01_Book_lookText b_ R w) : C_towpathlaw01_Book_lookText b_ w R := by
 unfold F_towpathlaw01_Book_lookText at h
 unfold C_towpathlaw01_Book_lookText
 refine Calls.mono (calls_of_wpE (args := [Value.pointer b_]) (R := fun v w' => ∃ (r0 : Bool), v = Value.bool r0 ∧ R r0 w') Tryz.func74 (c := c74_0) (by kernel_rfl) 64 (by kernel_rfl) (by kernel_rfl) [(0, Value.pointer b_)] (by kernel_rfl) ?_) ?_
 · refine Zp c74_3 P1 [(0, .pointer b_)] ?_
   refine Zs c74_4 c74_58 ?_
   refine Zp c74_7 P1 [(0, .pointer b_), (3, .int .i64 0)] ?_
   refine Zb 0 c74_8 ?_
   obtain ⟨I, μ, h0, hr⟩ := h
   refine wpE_loop (x := c74_9) (by kernel_rfl) (fun m l w => ∃ (i : Int), l = [(0, Value.pointer b_), (3, Value.int .i64 i)] ∧ I i w ∧ μ i w = m) (l' := [(0, Value.pointer b_), (3, Value.int .i64 0)]) (Sub.mk (by kernel_rfl)) ⟨0, rfl, h0, rfl⟩ ?_
   rintro _ _ w1 ⟨i, rfl, hI, rfl⟩
   obtain ⟨again_, again__h, h⟩ : ∃ again_ : Int → World → Prop, (∀ i' w', again_ i' w' → I i' w' ∧ μ i' w' < μ i w1) ∧ F_towpathlaw01_Book_lookText_L0 b_ R again_ i w1 := ⟨_, fun _ _ h => h, hr i w1 hI⟩
   clear h0 hI
   unfold F_towpathlaw01_Book_lookText_L0 at h
   refine Zs c74_10 c74_16 ?_
   refine Zt r74_11 c74_13 ?_
   refine Zn P2 2 [(0, [], .pointer b_), (3, [], .int .i64 i), (6, [], .int .i64 i), (7, [], .pointer b_)] ?_
   obtain ⟨hp_7, h⟩ := h
   refine Zv (fun pp => [(0, [], .pointer b_), (3, [], .int .i64 i), (6, [], .int .i64 i), (7, [], .pointer pp)]) hp_7 ?_
   refine Zn P1 3 [(0, [], .pointer b_), (3, [], .int .i64 i), (6, [], .int .i64 i), (7, [], .pointer (some ⟨(pblk b_), (poff b_), none⟩)), (8, [], .pointer (some ⟨(pblk b_), (poff b_), none⟩))] ?_
   refine Zn P1 4 [(0, [], .pointer b_), (3, [], .int .i64 i), (6, [], .int .i64 i), (9, [], .pointer (some ⟨(pblk b_), (poff b_) + 3, none⟩))] ?_
   obtain ⟨v10, hc, h⟩ := h
   refine Zl 37 9 (pblk b_) ((poff b_) + 3) 37 10 hc ?_
   refine Zf P2 [(0, .pointer b_), (3, .int .i64 i), (12, .bool (decide (i < ((v10.len : Nat) : Int))))] ?_
   change WpE _ _ c74_13 _ _ _
   refine Zc 12 (decide (i < ((v10.len : Nat) : Int))) c74_14 c74_15 (fun hb => ?_) (fun hb => ?_)
   · replace h := h.1 hb
     exact h.elim
   · replace h := h.2 hb
     refine wpE_exit (id := 0) (by kernel_rfl) ?_
     change WpE _ _ c74_58 _ _ _
     refine Zp c74_61 P1 [(2, .bool true)] ?_
     refine wpE_ret (by kernel_rfl) ?_
     repeat (first | refine seqQ_ret ?_ | refine blockQ_ret ?_ | refine loopQ_ret ?_ | refine cutQ_ret ?_)
     exact retS (rs := [(ResultVar.tmp 2)]) (v := Value.bool true) (by kernel_rfl) (⟨by kernel_rfl, trivial⟩) ⟨true, rfl, h⟩
 · rintro e w' ⟨v, rfl, r0, rfl, h⟩; exact ⟨r0, rfl, h⟩

/-! ### (*towpath/towpathlaw01.Book).lookWrite (function 75) -/
def c75_0 := cb_ Tryz.f75
def c75_3 := cr_ c75_0
def c75_4 := cl_ c75_3
def c75_7 := cr_ c75_4
def c75_8 := cl_ c75_7
def c75_9 := cl_ c75_8
def c75_10 := cl_ c75_9
def c75_11 := cl_ c75_10
def r75_11 := co_ c75_11
def c75_13 := cr_ c75_10
def c75_14 := cl_ c75_13
def c75_15 := cr_ c75_13
def c75_16 := cr_ c75_9
def c75_17 := cl_ c75_16
def c75_18 := cl_ c75_17
def c75_19 := cl_ c75_18
def r75_19 := co_ c75_19
def c75_21 := cr_ c75_18
def c75_22 := cl_ c75_21
def c75_23 := cl_ c75_22
def r75_23 := co_ c75_23
def c75_25 := cr_ c75_22
def c75_26 := cl_ c75_25
def c75_29 := cr_ c75_26
def c75_30 := cr_ c75_25
def c75_31 := cr_ c75_21
def c75_34 := cr_ c75_31
def c75_35 := cl_ c75_34
def c75_36 := cl_ c75_35
def c75_37 := cl_ c75_36
def c75_38 := cl_ c75_37
def r75_38 := co_ c75_38
def c75_40 := cr_ c75_37
def c75_41 := cl_ c75_40
def c75_42 := cr_ c75_40
def c75_43 := cr_ c75_36
def c75_44 := cl_ c75_43
def c75_45 := cl_ c75_44
def c75_46 := cl_ c75_45
def r75_46 := co_ c75_46
def c75_48 := cr_ c75_45
def c75_49 := cl_ c75_48
def c75_52 := cr_ c75_49
def c75_53 := cr_ c75_48
def c75_54 := cr_ c75_43
def r75_54 := co_ c75_54
def c75_56 := cr_ c75_16
def r75_56 := co_ c75_56
def c75_58 := cr_ c75_3
def c75_61 := cr_ c75_58
def o_towpathlaw01_Book_lookWrite_46 : List Nat := [0, 1, 2, 3, 4, 5, 6, 7, 8, 9, 10, 11, 12, 13, 14, 15, 16, 17, 18, 19, 20, 21, 22, 23, 24, 25, 26]

theorem S_towpathlaw01_Book_lookWrite {b_ : Option Addr} {w : World} {R : Bool → World → Prop} (h : F_towpathlaw01_Book_lookWrite b_ R w) : C_towpathlaw01_Book_lookWrite b_ w R := by
 unfold F_towpathlaw01_Book_lookWrite at h
 unfold C_towpathlaw01_Book_lookWrite
 refine Calls.mono (calls_of_wpE (args := [Value.pointer b_]) (R := fun v w' => ∃ (r0 : Bool), v = Value.bool r0 ∧ R r0 w') Tryz.func75 (c := c75_0) (by kernel_rfl) 64 (by kernel_rfl) (by kernel_rfl) [(0, Value.pointer b_)] (by kernel_rfl) ?_) ?_
 · refine Zp c75_3 P1 [(0, .pointer b_)] ?_
   refine Zs c75_4 c75_58 ?_
   refine Zp c75_7 P1 [(0, .pointer b_), (3, .int .i64 0)] ?_
   refine Zb 0 c75_8 ?_
   obtain ⟨I, μ, h0, hr⟩ := h
   refine wpE_loop (x := c75_9) (by kernel_rfl) (fun m l w => ∃ (i : Int), l = [(0, Value.pointer b_), (3, Value.int .i64 i)] ∧ I i w ∧ μ i w = m) (l' := [(0, Value.pointer b_), (3, Value.int .i64 0)]) (Sub.mk (by kernel_rfl)) ⟨0, rfl, h0, rfl⟩ ?_
   rintro _ _ w1 ⟨i, rfl, hI, rfl⟩
   obtain ⟨again_, again__h, h⟩ : ∃ again_ : Int → World → Prop, (∀ i' w', again_ i' w' → I i' w' ∧ μ i' w' < μ i w1) ∧ F_towpathlaw01_Book_lookWrite_L0 b_ R again_ i w1 := ⟨_, fun _ _ h => h, hr i w1 hI⟩
   clear h0 hI
   unfold F_towpathlaw01_Book_lookWrite_L0 at h
   refine Zs c75_10 c75_16 ?_
   refine Zt r75_11 c75_13 ?_
   refine Zn P2 2 [(0, [], .pointer b_), (3, [], .int .i64 i), (6, [], .int .i64 i), (7, [], .pointer b_)] ?_
   obtain ⟨hp_31, h⟩ := h
   refine Zv (fun pp => [(0, [], .pointer b_), (3, [], .int .i64 i), (6, [], .int .i64 i), (7, [], .pointer pp)]) hp_31 ?_
   refine Zn P1 3 [(0, [], .pointer b_), (3, [], .int .i64 i), (6, [], .int .i64 i), (7, [], .pointer (some ⟨(pblk b_), (poff b_), none⟩)), (8, [], .pointer (some ⟨(pblk b_), (poff b_), none⟩))] ?_
   refine Zn P1 4 [(0, [], .pointer b_), (3, [], .int .i64 i), (6, [], .int .i64 i), (9, [], .pointer (some ⟨(pblk b_), (poff b_) + 4, none⟩))] ?_
   obtain ⟨v10, hc, h⟩ := h
   refine Zl 38 9 (pblk b_) ((poff b_) + 4) 38 10 hc ?_
   refine Zf P2 [(0, .pointer b_), (3, .int .i64 i), (12, .bool (decide (i < ((v10.len : Nat) : Int))))] ?_
   change WpE _ _ c75_13 _ _ _
   refine Zc 12 (decide (i < ((v10.len : Nat) : Int))) c75_14 c75_15 (fun hb => ?_) (fun hb => ?_)
   · replace h := h.1 hb
     refine wpE_skip (by kernel_rfl) ?_
     change WpE _ _ c75_16 _ _ _
     refine Zs c75_17 c75_56 ?_
     refine Zb 1 c75_18 ?_
     refine Zt r75_19 c75_21 ?_
     refine Zn P1 1 [(0, [], .pointer b_), (3, [], .int .i64 i), (15, [], .pointer b_)] ?_
     obtain ⟨hp_46, h⟩ := h
     refine Zv (fun pp => [(0, [], .pointer b_), (3, [], .int .i64 i), (15, [], .pointer pp)]) hp_46 ?_
     refine Zn P1 2 [(0, [], .pointer b_), (3, [], .int .i64 i), (15, [], .pointer (some ⟨(pblk b_), (poff b_), none⟩)), (16, [], .pointer (some ⟨(pblk b_), (poff b_), none⟩))] ?_
     refine Zn P1 3 [(0, [], .pointer b_), (3, [], .int .i64 i), (17, [], .pointer (some ⟨(pblk b_), (poff b_) + 4, none⟩))] ?_
     obtain ⟨v18, hc, h⟩ := h
     refine Zl 38 17 (pblk b_) ((poff b_) + 4) 38 18 hc ?_
     refine Zn P1 5 [(0, [], .pointer b_), (3, [], .int .i64 i), (18, [], sv_ v18), (19, [], .int .i64 i)] ?_
     obtain ⟨hp_47, h⟩ := h
     refine Zv (fun pp => [(0, [], .pointer b_), (3, [], .int .i64 i), (18, [], .slice pp v18.len v18.cap), (19, [], .int .i64 i)]) hp_47 ?_
     obtain ⟨h0, h1, h⟩ := h
     refine Zj 38 153 18 19 (pblk v18.ptr) (poff v18.ptr) v18.len v18.cap i 3 20 0 h0 h1 ?_
     refine Zn [] 6 [(0, [], .pointer b_), (3, [], .int .i64 i), (20, [], .pointer (some ⟨(pblk v18.ptr), (poff v18.ptr) + i.toNat * 3, none⟩))] ?_
     obtain ⟨v21, hc, h⟩ := h
     refine reg_loadN (t := 153) (a := (Operand.tmp 20)) (b := (pblk v18.ptr)) (o := ((poff v18.ptr) + i.toNat * 3)) (ty := 153) (dst := some 21) [sv_ v21.l, sv_ v21.long, Value.int .i64 v21.n] (by kernel_rfl) (by kernel_rfl) (by kernel_rfl) (k := 3) (by kernel_rfl) (by kernel_rfl) hc ?_
     refine Zn [] 7 [(0, [], .pointer b_), (3, [], .int .i64 i), (21, [], .agg #[sv_ v21.l, sv_ v21.long, .int .i64 v21.n])] ?_
     refine Zw (some 4) (fun bb => pv_ bb) (Obj.cells ([.slice none 0 0, .slice none 0 0, .int .i64 0]).toArray ty_towpathlaw01_heldWrite (0, 0)) (fun b_1 w2 hb hw => ?_)
     replace h := h b_1 w2 hb hw
     clear hb hw
     refine Zn [] 8 [(0, [], .pointer b_), (3, [], .int .i64 i), (4, [], pv_ b_1), (21, [], .agg #[sv_ v21.l, sv_ v21.long, .int .i64 v21.n])] ?_
     obtain ⟨hc, h⟩ := h
     refine Zo 153 4 21 b_1 0 3 [sv_ v21.l, sv_ v21.long, .int .i64 v21.n] hc (fun w3 hw => ?_)
     replace h := h w3 hw
     clear hw
     refine Ze [(0, .pointer b_), (3, .int .i64 i), (4, pv_ b_1)] ?_
     change WpE _ _ c75_21 _ _ _
     refine Zs c75_22 c75_31 ?_
     refine Zt r75_23 c75_25 ?_
     refine Zn P1 1 [(0, [], .pointer b_), (3, [], .int .i64 i), (4, [], pv_ b_1), (22, [], .pointer (some ⟨b_1, 1, none⟩))] ?_
     obtain ⟨v23, hc, h⟩ := h
     refine Zl 50 22 b_1 1 50 23 hc ?_
     refine Zn P2 4 [(0, [], .pointer b_), (3, [], .int .i64 i), (4, [], pv_ b_1), (24, [], .int .i64 ((v23.len : Nat) : Int)), (25, [], pv_ b_1)] ?_
     obtain ⟨v26, hc, h⟩ := h
     refine Zl 50 25 b_1 0 50 26 hc ?_
     refine Zf P3 [(0, .pointer b_), (3, .int .i64 i), (4, pv_ b_1), (29, .bool (((v23.len : Nat) : Int) != (IntKind.i64.wrap (((v26.len : Nat) : Int) + 70))))] ?_
     change WpE _ _ c75_25 _ _ _
     refine Zc 29 (((v23.len : Nat) : Int) != (IntKind.i64.wrap (((v26.len : Nat) : Int) + 70))) c75_26 c75_30 (fun hb => ?_) (fun hb => ?_)
     · replace h := h.1 hb
       refine Zp c75_29 P1 [(2, .bool false)] ?_
       refine wpE_ret (by kernel_rfl) ?_
       repeat (first | refine seqQ_ret ?_ | refine blockQ_ret ?_ | refine loopQ_ret ?_ | refine cutQ_ret ?_)
       exact retS (rs := [(ResultVar.tmp 2)]) (v := Value.bool false) (by kernel_rfl) (⟨by kernel_rfl, trivial⟩) ⟨false, rfl, h⟩
     · replace h := h.2 hb
       refine wpE_skip (by kernel_rfl) ?_
       change WpE _ _ c75_31 _ _ _
       refine Zp c75_34 P1 [(0, .pointer b_), (3, .int .i64 i), (4, pv_ b_1), (5, .int .i64 0)] ?_
       refine Zb 2 c75_35 ?_
       obtain ⟨I, μ, h0, hr⟩ := h
       refine wpE_loop (x := c75_36) (by kernel_rfl) (fun m l w => ∃ (k_ : Int), l = [(0, Value.pointer b_), (3, Value.int .i64 i), (4, pv_ b_1), (5, Value.int .i64 k_)] ∧ I k_ w ∧ μ k_ w = m) (l' := [(0, Value.pointer b_), (3, Value.int .i64 i), (4, pv_ b_1), (5, Value.int .i64 0)]) (Sub.mk (by kernel_rfl)) ⟨0, rfl, h0, rfl⟩ ?_
       rintro _ _ w4 ⟨k_, rfl, hI, rfl⟩
       obtain ⟨again_1, again_1_h, h⟩ : ∃ again_1 : Int → World → Prop, (∀ k_' w', again_1 k_' w' → I k_' w' ∧ μ k_' w' < μ k_ w4) ∧ F_towpathlaw01_Book_lookWrite_L1 R i again_ b_1 again_1 k_ w4 := ⟨_, fun _ _ h => h, hr k_ w4 hI⟩
       clear h0 hI
       unfold F_towpathlaw01_Book_lookWrite_L1 at h
       refine Zs c75_37 c75_43 ?_
       refine Zt r75_38 c75_40 ?_
       refine Zn P2 2 [(0, [], .pointer b_), (3, [], .int .i64 i), (4, [], pv_ b_1), (5, [], .int .i64 k_), (30, [], .int .i64 k_), (31, [], .pointer (some ⟨b_1, 1, none⟩))] ?_
       obtain ⟨v32, hc, h⟩ := h
       refine Zl 50 31 b_1 1 50 32 hc ?_
       refine Zf P2 [(0, .pointer b_), (3, .int .i64 i), (4, pv_ b_1), (5, .int .i64 k_), (34, .bool (decide (k_ < ((v32.len : Nat) : Int))))] ?_
       change WpE _ _ c75_40 _ _ _
       refine Zc 34 (decide (k_ < ((v32.len : Nat) : Int))) c75_41 c75_42 (fun hb => ?_) (fun hb => ?_)
       · replace h := h.1 hb
         refine wpE_skip (by kernel_rfl) ?_
         change WpE _ _ c75_43 _ _ _
         refine Zs c75_44 c75_54 ?_
         refine Zb 3 c75_45 ?_
         refine wpE_seq_cut (x := c75_46) (y := c75_48) (by kernel_rfl) (fun l w => ∃ (t63 : Bool), l = [(0, Value.pointer b_), (3, Value.int .i64 i), (4, pv_ b_1), (5, Value.int .i64 k_), (63, Value.bool t63)] ∧ F_towpathlaw01_Book_lookWrite_k2 R k_ again_1 t63 w) ?_ ?_
         · refine wpE_mixregion (id := 10) (ops := r75_46) o_towpathlaw01_Book_lookWrite_46 (by kernel_rfl) (by kernel_rfl) (by kernel_rfl) (by kernel_rfl) (fun w6 hw => ?_)
           replace h := h w6 hw
           clear hw
           refine mreg_run P1 1 [(0, [], Value.pointer b_), (3, [], Value.int .i64 i), (4, [], pv_ b_1), (5, [], Value.int .i64 k_), (37, [], Value.pointer (some ⟨b_1, 1, none⟩))] (by kernel_rfl) (by kernel_rfl) ?_
           obtain ⟨v38, hc, h⟩ := h
           refine mreg_load1 (i := 1) (by kernel_rfl) (t := 50) (a := (Operand.tmp 37)) (b := b_1) (o := 1) (ty := 50) (dst := some 38) (by kernel_rfl) (by kernel_rfl) (by kernel_rfl) hc ?_
           refine mreg_run P1 3 [(0, [], Value.pointer b_), (3, [], Value.int .i64 i), (4, [], pv_ b_1), (5, [], Value.int .i64 k_), (38, [], sv_ v38), (39, [], Value.int .i64 k_)] (by kernel_rfl) (by kernel_rfl) ?_
           obtain ⟨hp_54, h⟩ := h
           refine mreg_conv [(0, [], Value.pointer b_), (3, [], Value.int .i64 i), (4, [], pv_ b_1), (5, [], Value.int .i64 k_), (38, [], Value.slice (some ⟨(pblk v38.ptr), (poff v38.ptr), none⟩) v38.len v38.cap), (39, [], Value.int .i64 k_)] (congrArg (fun pp => ([(0, [], Value.pointer b_), (3, [], Value.int .i64 i), (4, [], pv_ b_1), (5, [], Value.int .i64 k_), (38, [], Value.slice pp v38.len v38.cap), (39, [], Value.int .i64 k_)] : GEnv)) hp_54) ?_
           obtain ⟨h0, h1, h⟩ := h
           refine mreg_indexS (i := 3) (by kernel_rfl) (t := 50) (e := 139) (x := (Operand.tmp 38)) (ix := (Operand.tmp 39)) (b := (pblk v38.ptr)) (o := (poff v38.ptr)) (l := v38.len) (c := v38.cap) (k := .i64) (j := k_) (ty := 0) (dst := some 40) (sz := 3) (by kernel_rfl) (by kernel_rfl) (by kernel_rfl) (by kernel_rfl) (by kernel_rfl) h0 h1 ?_
           refine mreg_run [] 4 [(0, [], Value.pointer b_), (3, [], Value.int .i64 i), (4, [], pv_ b_1), (5, [], Value.int .i64 k_), (40, [], Value.pointer (some ⟨(pblk v38.ptr), (poff v38.ptr) + k_.toNat * 3, none⟩))] (by kernel_rfl) (by kernel_rfl) ?_
           obtain ⟨v41, hc, h⟩ := h
           refine mreg_loadN (i := 4) (by kernel_rfl) (t := 139) (a := (Operand.tmp 40)) (b := (pblk v38.ptr)) (o := ((poff v38.ptr) + k_.toNat * 3)) (ty := 139) (dst := some 41) [Value.string v41.Key, Value.string v41.Val, Value.bool v41.Drop] (by kernel_rfl) (by kernel_rfl) (by kernel_rfl) (k := 3) (by kernel_rfl) (by kernel_rfl) hc ?_
           refine mreg_run P1 6 [(0, [], Value.pointer b_), (3, [], Value.int .i64 i), (4, [], pv_ b_1), (5, [], Value.int .i64 k_), (41, [], Value.agg #[Value.string v41.Key, Value.string v41.Val, Value.bool v41.Drop]), (42, [], Value.pointer (some ⟨b_1, 2, none⟩))] (by kernel_rfl) (by kernel_rfl) ?_
           obtain ⟨v43, hc, h⟩ := h
           refine mreg_load1 (i := 6) (by kernel_rfl) (t := 3) (a := (Operand.tmp 42)) (b := b_1) (o := 2) (ty := 3) (dst := some 43) (by kernel_rfl) (by kernel_rfl) (by kernel_rfl) hc ?_
           refine mreg_run [] 7 [(0, [], Value.pointer b_), (3, [], Value.int .i64 i), (4, [], pv_ b_1), (5, [], Value.int .i64 k_), (41, [], Value.agg #[Value.string v41.Key, Value.string v41.Val, Value.bool v41.Drop]), (43, [], Value.int .i64 v43)] (by kernel_rfl) (by kernel_rfl) ?_
           refine mreg_enter (op := (Op.call (Call.mk (Callee.value (Operand.func 139)) #[(Operand.tmp 41), (Operand.tmp 43)] #[139, 3]))) (ty := 4) (dst := some 44) 7 [4, 6, 3, 5, 1, 2, 0] [] 139 #[Value.agg #[Value.string v41.Key, Value.string v41.Val, Value.bool v41.Drop], Value.int .i64 v43] (by kernel_rfl) (by kernel_rfl) (by kernel_rfl) (by kernel_rfl) (by kernel_rfl) (fun ww => by kernel_rfl) (Calls.mono h ?_)
           rintro _ w7 ⟨v44, rfl, h⟩
           refine ⟨_, rfl, trivial, ?_⟩
           refine mreg_run P4 12 [(0, [], Value.pointer b_), (3, [], Value.int .i64 i), (4, [], pv_ b_1), (5, [], Value.int .i64 k_), (46, [], Value.bool (!v44)), (47, [(46, false)], Value.int .i64 k_), (48, [(46, false)], pv_ b_1)] (by kernel_rfl) (by kernel_rfl) ?_
           refine mreg_split 46 (!v44) (by kernel_rfl) (fun hb => ?_) (fun hb => ?_)
           · replace h := h.1 hb
             refine mreg_run [] 12 [(0, [], Value.pointer b_), (3, [], Value.int .i64 i), (4, [], pv_ b_1), (5, [], Value.int .i64 k_), (46, [], Value.bool true), (47, [], undef), (48, [], undef)] (by kernel_rfl) (by kernel_rfl) ?_
             refine mreg_run [.skip, .skip, .skip, .skip, .skip, .skip, .skip, .skip, .skip, .skip, .skip, .skip, .skip, .skip, .plain] 27 [(0, [], Value.pointer b_), (3, [], Value.int .i64 i), (4, [], pv_ b_1), (5, [], Value.int .i64 k_), (63, [], Value.bool true)] (by kernel_rfl) (by kernel_rfl) ?_
             refine mreg_end [(0, Value.pointer b_), (3, Value.int .i64 i), (4, pv_ b_1), (5, Value.int .i64 k_), (63, Value.bool true)] (by kernel_rfl) (by kernel_rfl) (by kernel_rfl) ?_
             exact ⟨[(0, Value.pointer b_), (3, Value.int .i64 i), (4, pv_ b_1), (5, Value.int .i64 k_), (63, Value.bool true)], Sub.mk (by kernel_rfl), true, rfl, h⟩
           · replace h := h.2 hb
             refine mreg_run [] 12 [(0, [], Value.pointer b_), (3, [], Value.int .i64 i), (4, [], pv_ b_1), (5, [], Value.int .i64 k_), (46, [], Value.bool false), (47, [], Value.int .i64 k_), (48, [], pv_ b_1)] (by kernel_rfl) (by kernel_rfl) ?_
             refine mreg_run [] 12 [(0, [], Value.pointer b_), (3, [], Value.int .i64 i), (4, [], pv_ b_1), (5, [], Value.int .i64 k_), (46, [], Value.bool false), (47, [], Value.int .i64 k_), (48, [], pv_ b_1)] (by kernel_rfl) (by kernel_rfl) ?_
             obtain ⟨v49, hc, h⟩ := h
             refine mreg_load1 (i := 12) (by kernel_rfl) (t := 50) (a := (Operand.tmp 48)) (b := b_1) (o := 0) (ty := 50) (dst := some 49) (by kernel_rfl) (by kernel_rfl) (by kernel_rfl) hc ?_
             refine mreg_run [.sure, .sure, .sure, .plain] 17 [(0, [], Value.pointer b_), (3, [], Value.int .i64 i), (4, [], pv_ b_1), (5, [], Value.int .i64 k_), (46, [], Value.bool false), (52, [], Value.bool (decide (k_ < ((v49.len : Nat) : Int)))), (53, [(52, true)], pv_ b_1)] (by kernel_rfl) (by kernel_rfl) ?_
             refine mreg_split 52 (decide (k_ < ((v49.len : Nat) : Int))) (by kernel_rfl) (fun hb => ?_) (fun hb => ?_)
             · replace h := h.1 hb
               refine mreg_run [] 17 [(0, [], Value.pointer b_), (3, [], Value.int .i64 i), (4, [], pv_ b_1), (5, [], Value.int .i64 k_), (46, [], Value.bool false), (52, [], Value.bool true), (53, [], pv_ b_1)] (by kernel_rfl) (by kernel_rfl) ?_
               refine mreg_run [] 17 [(0, [], Value.pointer b_), (3, [], Value.int .i64 i), (4, [], pv_ b_1), (5, [], Value.int .i64 k_), (46, [], Value.bool false), (52, [], Value.bool true), (53, [], pv_ b_1)] (by kernel_rfl) (by kernel_rfl) ?_
               obtain ⟨v54, hc, h⟩ := h
               refine mreg_load1 (i := 17) (by kernel_rfl) (t := 50) (a := (Operand.tmp 53)) (b := b_1) (o := 0) (ty := 50) (dst := some 54) (by kernel_rfl) (by kernel_rfl) (by kernel_rfl) hc ?_
               refine mreg_run [.sure] 19 [(0, [], Value.pointer b_), (3, [], Value.int .i64 i), (4, [], pv_ b_1), (5, [], Value.int .i64 k_), (46, [], Value.bool false), (52, [], Value.bool true), (54, [], sv_ v54), (55, [], Value.int .i64 k_)] (by kernel_rfl) (by kernel_rfl) ?_
               obtain ⟨hp_55, h⟩ := h
               refine mreg_conv [(0, [], Value.pointer b_), (3, [], Value.int .i64 i), (4, [], pv_ b_1), (5, [], Value.int .i64 k_), (46, [], Value.bool false), (52, [], Value.bool true), (54, [], Value.slice (some ⟨(pblk v54.ptr), (poff v54.ptr), none⟩) v54.len v54.cap), (55, [], Value.int .i64 k_)] (congrArg (fun pp => ([(0, [], Value.pointer b_), (3, [], Value.int .i64 i), (4, [], pv_ b_1), (5, [], Value.int .i64 k_), (46, [], Value.bool false), (52, [], Value.bool true), (54, [], Value.slice pp v54.len v54.cap), (55, [], Value.int .i64 k_)] : GEnv)) hp_55) ?_
               obtain ⟨h0, h1, h⟩ := h
               refine mreg_indexS (i := 19) (by kernel_rfl) (t := 50) (e := 139) (x := (Operand.tmp 54)) (ix := (Operand.tmp 55)) (b := (pblk v54.ptr)) (o := (poff v54.ptr)) (l := v54.len) (c := v54.cap) (k := .i64) (j := k_) (ty := 0) (dst := some 56) (sz := 3) (by kernel_rfl) (by kernel_rfl) (by kernel_rfl) (by kernel_rfl) (by kernel_rfl) h0 h1 ?_
               refine mreg_run [] 20 [(0, [], Value.pointer b_), (3, [], Value.int .i64 i), (4, [], pv_ b_1), (5, [], Value.int .i64 k_), (46, [], Value.bool false), (52, [], Value.bool true), (56, [], Value.pointer (some ⟨(pblk v54.ptr), (poff v54.ptr) + k_.toNat * 3, none⟩))] (by kernel_rfl) (by kernel_rfl) ?_
               obtain ⟨v57, hc, h⟩ := h
               refine mreg_loadN (i := 20) (by kernel_rfl) (t := 139) (a := (Operand.tmp 56)) (b := (pblk v54.ptr)) (o := ((poff v54.ptr) + k_.toNat * 3)) (ty := 139) (dst := some 57) [Value.string v57.Key, Value.string v57.Val, Value.bool v57.Drop] (by kernel_rfl) (by kernel_rfl) (by kernel_rfl) (k := 3) (by kernel_rfl) (by kernel_rfl) hc ?_
               refine mreg_run [.sure] 22 [(0, [], Value.pointer b_), (3, [], Value.int .i64 i), (4, [], pv_ b_1), (5, [], Value.int .i64 k_), (46, [], Value.bool false), (52, [], Value.bool true), (57, [], Value.agg #[Value.string v57.Key, Value.string v57.Val, Value.bool v57.Drop]), (58, [], Value.pointer (some ⟨b_1, 2, none⟩))] (by kernel_rfl) (by kernel_rfl) ?_
               obtain ⟨v59, hc, h⟩ := h
               refine mreg_load1 (i := 22) (by kernel_rfl) (t := 3) (a := (Operand.tmp 58)) (b := b_1) (o := 2) (ty := 3) (dst := some 59) (by kernel_rfl) (by kernel_rfl) (by kernel_rfl) hc ?_
               refine mreg_run [] 23 [(0, [], Value.pointer b_), (3, [], Value.int .i64 i), (4, [], pv_ b_1), (5, [], Value.int .i64 k_), (46, [], Value.bool false), (52, [], Value.bool true), (57, [], Value.agg #[Value.string v57.Key, Value.string v57.Val, Value.bool v57.Drop]), (59, [], Value.int .i64 v59)] (by kernel_rfl) (by kernel_rfl) ?_
               refine mreg_enter (op := (Op.call (Call.mk (Callee.value (Operand.func 139)) #[(Operand.tmp 57), (Operand.tmp 59)] #[139, 3]))) (ty := 4) (dst := some 60) 23 [15, 20, 22, 9, 14, 19, 21, 7, 8, 10, 13, 17, 18, 4, 6, 12, 16, 3, 5, 11, 1, 2, 0] [] 139 #[Value.agg #[Value.string v57.Key, Value.string v57.Val, Value.bool v57.Drop], Value.int .i64 v59] (by kernel_rfl) (by kernel_rfl) (by kernel_rfl) (by kernel_rfl) (by kernel_rfl) (fun ww => by kernel_rfl) (Calls.mono h ?_)
               rintro _ w8 ⟨v60, rfl, h⟩
               refine ⟨_, rfl, trivial, ?_⟩
               refine mreg_run [.sure, .sure, .plain] 27 [(0, [], Value.pointer b_), (3, [], Value.int .i64 i), (4, [], pv_ b_1), (5, [], Value.int .i64 k_), (63, [], Value.bool (!v60))] (by kernel_rfl) (by kernel_rfl) ?_
               refine mreg_end [(0, Value.pointer b_), (3, Value.int .i64 i), (4, pv_ b_1), (5, Value.int .i64 k_), (63, Value.bool (!v60))] (by kernel_rfl) (by kernel_rfl) (by kernel_rfl) ?_
               exact ⟨[(0, Value.pointer b_), (3, Value.int .i64 i), (4, pv_ b_1), (5, Value.int .i64 k_), (63, Value.bool (!v60))], Sub.mk (by kernel_rfl), (!v60), rfl, h⟩
             · replace h := h.2 hb
               refine mreg_run [] 17 [(0, [], Value.pointer b_), (3, [], Value.int .i64 i), (4, [], pv_ b_1), (5, [], Value.int .i64 k_), (46, [], Value.bool false), (52, [], Value.bool false), (53, [], undef)] (by kernel_rfl) (by kernel_rfl) ?_
               refine mreg_run [.skip, .skip, .skip, .skip, .skip, .skip, .skip, .skip, .sure, .plain] 27 [(0, [], Value.pointer b_), (3, [], Value.int .i64 i), (4, [], pv_ b_1), (5, [], Value.int .i64 k_), (63, [], Value.bool false)] (by kernel_rfl) (by kernel_rfl) ?_
               refine mreg_end [(0, Value.pointer b_), (3, Value.int .i64 i), (4, pv_ b_1), (5, Value.int .i64 k_), (63, Value.bool false)] (by kernel_rfl) (by kernel_rfl) (by kernel_rfl) ?_
               exact ⟨[(0, Value.pointer b_), (3, Value.int .i64 i), (4, pv_ b_1), (5, Value.int .i64 k_), (63, Value.bool false)], Sub.mk (by kernel_rfl), false, rfl, h⟩
         · rintro _ w5 ⟨t63, rfl, h⟩
           unfold F_towpathlaw01_Book_lookWrite_k2 at h
           refine Zc 63 t63 c75_49 c75_53 (fun hb => ?_) (fun hb => ?_)
           · replace h := h.1 hb
             refine Zp c75_52 P1 [(2, .bool false)] ?_
             refine wpE_ret (by kernel_rfl) ?_
             repeat (first | refine seqQ_ret ?_ | refine blockQ_ret ?_ | refine loopQ_ret ?_ | refine cutQ_ret ?_)
             exact retS (rs := [(ResultVar.tmp 2)]) (v := Value.bool false) (by kernel_rfl) (⟨by kernel_rfl, trivial⟩) ⟨false, rfl, h⟩
           · replace h := h.2 hb
             refine wpE_skip (by kernel_rfl) ?_
             change WpE _ _ c75_54 _ _ _
             refine Zr r75_54 ?_
             refine Zf P3 [(0, .pointer b_), (3, .int .i64 i), (4, pv_ b_1), (5, .int .i64 (IntKind.i64.wrap (k_ + 1)))] ?_
             have hb_ := again_1_h _ _ h
             exact ⟨_, hb_.2, [(0, Value.pointer b_), (3, Value.int .i64 i), (4, pv_ b_1), (5, Value.int .i64 (IntKind.i64.wrap (k_ + 1)))], Sub.mk (by kernel_rfl), (IntKind.i64.wrap (k_ + 1)), rfl, hb_.1, rfl⟩
       · replace h := h.2 hb
         refine wpE_exit (id := 2) (by kernel_rfl) ?_
         change WpE _ _ c75_56 _ _ _
         refine Zr r75_56 ?_
         refine Zf P3 [(0, .pointer b_), (3, .int .i64 (IntKind.i64.wrap (i + 1)))] ?_
         have hb_ := again__h _ _ h
         exact ⟨_, hb_.2, [(0, Value.pointer b_), (3, Value.int .i64 (IntKind.i64.wrap (i + 1)))], Sub.mk (by kernel_rfl), (IntKind.i64.wrap (i + 1)), rfl, hb_.1, rfl⟩
   · replace h := h.2 hb
     refine wpE_exit (id := 0) (by kernel_rfl) ?_
     change WpE _ _ c75_58 _ _ _
     refine Zp c75_61 P1 [(2, .bool true)] ?_
     refine wpE_ret (by kernel_rfl) ?_
     repeat (first | refine seqQ_ret ?_ | refine blockQ_ret ?_ | refine loopQ_ret ?_ | refine cutQ_ret ?_)
     exact retS (rs := [(ResultVar.tmp 2)]) (v := Value.bool true) (by kernel_rfl) (⟨by kernel_rfl, trivial⟩) ⟨true, rfl, h⟩
 · rintro e w' ⟨v, rfl, r0, rfl, h⟩; exact ⟨r0, rfl, h⟩

/-! ### (*towpath/towpathlaw01.Book).lookEntry (function 76) -/
def c76_0 := cb_ Tryz.f76
def c76_3 := cr_ c76_0
def c76_4 := cl_ c76_3
def c76_7 := cr_ c76_4
def c76_8 := cl_ c76_7
def c76_9 := cl_ c76_8
def c76_10 := cl_ c76_9
def c76_11 := cl_ c76_10
def r76_11 := co_ c76_11
def c76_13 := cr_ c76_10
def c76_14 := cl_ c76_13
def c76_15 := cr_ c76_13
def c76_16 := cr_ c76_9
def c76_58 := cr_ c76_3
def c76_61 := cr_ c76_58

theorem S_towpathlaw01_Book_lookEntry {b_ : Option Addr} {w : World} {R : Bool → World → Prop} (h : F_towpathlaw01_Book_lookEntry b_ R w) : C_towpathlaw01_Book_lookEntry b_ w R := by
 unfold F_towpathlaw01_Book_lookEntry at h
 unfold C_towpathlaw01_Book_lookEntry
 refine Calls.mono (calls_of_wpE (args := [Value.pointer b_]) (R := fun v w' => ∃ (r0 : Bool), v = Value.bool r0 ∧ R r0 w') Tryz.func76 (c := c76_0) (by kernel_rfl) 64 (by kernel_rfl) (by kernel_rfl) [(0, Value.pointer b_)] (by kernel_rfl) ?_) ?_
 · refine Zp c76_3 P1 [(0, .pointer b_)] ?_
   refine Zs c76_4 c76_58 ?_
   refine Zp c76_7 P1 [(0, .pointer b_), (3, .int .i64 0)] ?_
   refine Zb 0 c76_8 ?_
   obtain ⟨I, μ, h0, hr⟩ := h
   refine wpE_loop (x := c76_9) (by kernel_rfl) (fun m l w => ∃ (i : Int), l = [(0, Value.pointer b_), (3, Value.int .i64 i)] ∧ I i w ∧ μ i w = m) (l' := [(0, Value.pointer b_), (3, Value.int .i64 0)]) (Sub.mk (by kernel_rfl)) ⟨0, rfl, h0, rfl⟩ ?_
   rintro _ _ w1 ⟨i, rfl, hI, rfl⟩
   obtain ⟨again_, again__h, h⟩ : ∃ again_ : Int → World → Prop, (∀ i' w', again_ i' w' → I i' w' ∧ μ i' w' < μ i w1) ∧ F_towpathlaw01_Book_lookEntry_L0 b_ R again_ i w1 := ⟨_, fun _ _ h => h, hr i w1 hI⟩
   clear h0 hI
   unfold F_towpathlaw01_Book_lookEntry_L0 at h
   refine Zs c76_10 c76_16 ?_
   refine Zt r76_11 c76_13 ?_
   refine Zn P2 2 [(0, [], .pointer b_), (3, [], .int .i64 i), (6, [], .int .i64 i), (7, [], .pointer b_)] ?_
   obtain ⟨hp_7, h⟩ := h
   refine Zv (fun pp => [(0, [], .pointer b_), (3, [], .int .i64 i), (6, [], .int .i64 i), (7, [], .pointer pp)]) hp_7 ?_
   refine Zn P1 3 [(0, [], .pointer b_), (3, [], .int .i64 i), (6, [], .int .i64 i), (7, [], .pointer (some ⟨(pblk b_), (poff b_), none⟩)), (8, [], .pointer (some ⟨(pblk b_), (poff b_), none⟩))] ?_
   refine Zn P1 4 [(0, [], .pointer b_), (3, [], .int .i64 i), (6, [], .int .i64 i), (9, [], .pointer (some ⟨(pblk b_), (poff b_) + 5, none⟩))] ?_
   obtain ⟨v10, hc, h⟩ := h
   refine Zl 39 9 (pblk b_) ((poff b_) + 5) 39 10 hc ?_
   refine Zf P2 [(0, .pointer b_), (3, .int .i64 i), (12, .bool (decide (i < ((v10.len : Nat) : Int))))] ?_
   change WpE _ _ c76_13 _ _ _
   refine Zc 12 (decide (i < ((v10.len : Nat) : Int))) c76_14 c76_15 (fun hb => ?_) (fun hb => ?_)
   · replace h := h.1 hb
     exact h.elim
   · replace h := h.2 hb
     refine wpE_exit (id := 0) (by kernel_rfl) ?_
     change WpE _ _ c76_58 _ _ _
     refine Zp c76_61 P1 [(2, .bool true)] ?_
     refine wpE_ret (by kernel_rfl) ?_
     repeat (first | refine seqQ_ret ?_ | refine blockQ_ret ?_ | refine loopQ_ret ?_ | refine cutQ_ret ?_)
     exact retS (rs := [(ResultVar.tmp 2)]) (v := Value.bool true) (by kernel_rfl) (⟨by kernel_rfl, trivial⟩) ⟨true, rfl, h⟩
 · rintro e w' ⟨v, rfl, r0, rfl, h⟩; exact ⟨r0, rfl, h⟩

/-! ### (*towpath/towpathlaw01.Book).lookVersion (function 77) -/
def c77_0 := cb_ Tryz.f77
def c77_3 := cr_ c77_0
def c77_4 := cl_ c77_3
def c77_7 := cr_ c77_4
def c77_8 := cl_ c77_7
def c77_9 := cl_ c77_8
def c77_10 := cl_ c77_9
def c77_11 := cl_ c77_10
def r77_11 := co_ c77_11
def c77_13 := cr_ c77_10
def c77_14 := cl_ c77_13
def c77_15 := cr_ c77_13
def c77_16 := cr_ c77_9
def c77_58 := cr_ c77_3
def c77_61 := cr_ c77_58

theorem S_towpathlaw01_Book_lookVersion {b_ : Option Addr} {w : World} {R : Bool → World → Prop} (h : F_towpathlaw01_Book_lookVersion b_ R w) : C_towpathlaw01_Book_lookVersion b_ w R := by
 unfold F_towpathlaw01_Book_lookVersion at h
 unfold C_towpathlaw01_Book_lookVersion
 refine Calls.mono (calls_of_wpE (args := [Value.pointer b_]) (R := fun v w' => ∃ (r0 : Bool), v = Value.bool r0 ∧ R r0 w') Tryz.func77 (c := c77_0) (by kernel_rfl) 64 (by kernel_rfl) (by kernel_rfl) [(0, Value.pointer b_)] (by kernel_rfl) ?_) ?_
 · refine Zp c77_3 P1 [(0, .pointer b_)] ?_
   refine Zs c77_4 c77_58 ?_
   refine Zp c77_7 P1 [(0, .pointer b_), (3, .int .i64 0)] ?_
   refine Zb 0 c77_8 ?_
   obtain ⟨I, μ, h0, hr⟩ := h
   refine wpE_loop (x := c77_9) (by kernel_rfl) (fun m l w => ∃ (i : Int), l = [(0, Value.pointer b_), (3, Value.int .i64 i)] ∧ I i w ∧ μ i w = m) (l' := [(0, Value.pointer b_), (3, Value.int .i64 0)]) (Sub.mk (by kernel_rfl)) ⟨0, rfl, h0, rfl⟩ ?_
   rintro _ _ w1 ⟨i, rfl, hI, rfl⟩
   obtain ⟨again_, again__h, h⟩ : ∃ again_ : Int → World → Prop, (∀ i' w', again_ i' w' → I i' w' ∧ μ i' w' < μ i w1) ∧ F_towpathlaw01_Book_lookVersion_L0 b_ R again_ i w1 := ⟨_, fun _ _ h => h, hr i w1 hI⟩
   clear h0 hI
   unfold F_towpathlaw01_Book_lookVersion_L0 at h
   refine Zs c77_10 c77_16 ?_
   refine Zt r77_11 c77_13 ?_
   refine Zn P2 2 [(0, [], .pointer b_), (3, [], .int .i64 i), (6, [], .int .i64 i), (7, [], .pointer b_)] ?_
   obtain ⟨hp_7, h⟩ := h
   refine Zv (fun pp => [(0, [], .pointer b_), (3, [], .int .i64 i), (6, [], .int .i64 i), (7, [], .pointer pp)]) hp_7 ?_
   refine Zn P1 3 [(0, [], .pointer b_), (3, [], .int .i64 i), (6, [], .int .i64 i), (7, [], .pointer (some ⟨(pblk b_), (poff b_), none⟩)), (8, [], .pointer (some ⟨(pblk b_), (poff b_), none⟩))] ?_
   refine Zn P1 4 [(0, [], .pointer b_), (3, [], .int .i64 i), (6, [], .int .i64 i), (9, [], .pointer (some ⟨(pblk b_), (poff b_) + 6, none⟩))] ?_
   obtain ⟨v10, hc, h⟩ := h
   refine Zl 40 9 (pblk b_) ((poff b_) + 6) 40 10 hc ?_
   refine Zf P2 [(0, .pointer b_), (3, .int .i64 i), (12, .bool (decide (i < ((v10.len : Nat) : Int))))] ?_
   change WpE _ _ c77_13 _ _ _
   refine Zc 12 (decide (i < ((v10.len : Nat) : Int))) c77_14 c77_15 (fun hb => ?_) (fun hb => ?_)
   · replace h := h.1 hb
     exact h.elim
   · replace h := h.2 hb
     refine wpE_exit (id := 0) (by kernel_rfl) ?_
     change WpE _ _ c77_58 _ _ _
     refine Zp c77_61 P1 [(2, .bool true)] ?_
     refine wpE_ret (by kernel_rfl) ?_
     repeat (first | refine seqQ_ret ?_ | refine blockQ_ret ?_ | refine loopQ_ret ?_ | refine cutQ_ret ?_)
     exact retS (rs := [(ResultVar.tmp 2)]) (v := Value.bool true) (by kernel_rfl) (⟨by kernel_rfl, trivial⟩) ⟨true, rfl, h⟩
 · rintro e w' ⟨v, rfl, r0, rfl, h⟩; exact ⟨r0, rfl, h⟩
end
end Go.Proofs.YtpdegdnigcnjiaaGreatDoor
