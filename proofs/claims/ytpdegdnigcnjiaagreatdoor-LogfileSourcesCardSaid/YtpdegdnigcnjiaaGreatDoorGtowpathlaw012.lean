/- WRITTEN BY PROGRAM (dec.py): for each Go function the clean formula F, the call's contract C, and the proof S that F gives C. -/
import Derived.Test.YtpdegdnigcnjiaaGreatDoorRows
import Derived.Test.YtpdegdnigcnjiaaGreatDoorGF
namespace Go.Proofs.YtpdegdnigcnjiaaGreatDoor
open Go
set_option linter.unusedVariables false
set_option maxRecDepth 100000
set_option maxHeartbeats 4000000
noncomputable section

/-! ### (*towpath/towpathlaw01.Book).fillEvent (function 59) -/
def c59_0 := cb_ Tryz.f59
def c59_3 := cr_ c59_0
def c59_4 := cl_ c59_3
def c59_5 := cl_ c59_4
def c59_6 := cl_ c59_5
def c59_7 := cl_ c59_6
def r59_7 := co_ c59_7
def c59_9 := cr_ c59_6
def c59_10 := cl_ c59_9
def c59_11 := cr_ c59_9
def c59_12 := cr_ c59_5

theorem S_towpathlaw01_Book_fillEvent {b_ : Option Addr} {w : World} {R : World → Prop} (h : F_towpathlaw01_Book_fillEvent b_ R w) : C_towpathlaw01_Book_fillEvent b_ w R := by
 unfold F_towpathlaw01_Book_fillEvent at h
 unfold C_towpathlaw01_Book_fillEvent
 refine Calls.mono (calls_of_wpE (args := [Value.pointer b_]) (R := fun v w' => v = Value.tuple #[] ∧ R w') Tryz.func59 (c := c59_0) (by kernel_rfl) 35 (by kernel_rfl) (by kernel_rfl) [(0, Value.pointer b_)] (by kernel_rfl) ?_) ?_
 · refine Zp c59_3 P1 [(0, .pointer b_), (2, .int .i64 0)] ?_
   refine Zb 0 c59_4 ?_
   obtain ⟨I, μ, h0, hr⟩ := h
   refine wpE_loop (x := c59_5) (by kernel_rfl) (fun m l w => ∃ (i : Int), l = [(0, Value.pointer b_), (2, Value.int .i64 i)] ∧ I i w ∧ μ i w = m) (l' := [(0, Value.pointer b_), (2, Value.int .i64 0)]) (Sub.mk (by kernel_rfl)) ⟨0, rfl, h0, rfl⟩ ?_
   rintro _ _ w1 ⟨i, rfl, hI, rfl⟩
   obtain ⟨again_, again__h, h⟩ : ∃ again_ : Int → World → Prop, (∀ i' w', again_ i' w' → I i' w' ∧ μ i' w' < μ i w1) ∧ F_towpathlaw01_Book_fillEvent_L0 b_ R again_ i w1 := ⟨_, fun _ _ h => h, hr i w1 hI⟩
   clear h0 hI
   unfold F_towpathlaw01_Book_fillEvent_L0 at h
   refine Zs c59_6 c59_12 ?_
   refine Zt r59_7 c59_9 ?_
   refine Zn P2 2 [(0, [], .pointer b_), (2, [], .int .i64 i), (5, [], .int .i64 i), (6, [], .pointer b_)] ?_
   obtain ⟨hp_3, h⟩ := h
   refine Zv (fun pp => [(0, [], .pointer b_), (2, [], .int .i64 i), (5, [], .int .i64 i), (6, [], .pointer pp)]) hp_3 ?_
   refine Zn P1 3 [(0, [], .pointer b_), (2, [], .int .i64 i), (5, [], .int .i64 i), (6, [], .pointer (some ⟨(pblk b_), (poff b_), none⟩)), (7, [], .pointer (some ⟨(pblk b_), (poff b_), none⟩))] ?_
   refine Zn P1 4 [(0, [], .pointer b_), (2, [], .int .i64 i), (5, [], .int .i64 i), (8, [], .pointer (some ⟨(pblk b_), (poff b_) + 10, none⟩))] ?_
   obtain ⟨v9, hc, h⟩ := h
   refine Zl 44 8 (pblk b_) ((poff b_) + 10) 44 9 hc ?_
   refine Zf P2 [(0, .pointer b_), (2, .int .i64 i), (11, .bool (decide (i < ((v9.len : Nat) : Int))))] ?_
   change WpE _ _ c59_9 _ _ _
   refine Zc 11 (decide (i < ((v9.len : Nat) : Int))) c59_10 c59_11 (fun hb => ?_) (fun hb => ?_)
   · replace h := h.1 hb
     exact h.elim
   · replace h := h.2 hb
     refine wpE_exit (id := 0) (by kernel_rfl) ?_
     repeat (first | refine seqQ_exit ?_ | refine loopQ_exit ?_ | refine cutQ_exit ?_ | refine blockQ_hit ?_ | refine blockQ_miss (by kernel_rfl) ?_)
     refine retQ_normal ?_
     repeat (first | refine seqQ_ret ?_ | refine blockQ_ret ?_ | refine loopQ_ret ?_ | refine cutQ_ret ?_)
     exact retT (rs := []) (vs := []) (by kernel_rfl) (trivial) (by kernel_rfl) ⟨rfl, h⟩
 · rintro e w' ⟨v, rfl, rfl, h⟩; exact ⟨rfl, h⟩

/-! ### (*towpath/towpathlaw01.Book).fillAnswer (function 60) -/
def c60_0 := cb_ Tryz.f60
def c60_3 := cr_ c60_0
def c60_4 := cl_ c60_3
def c60_5 := cl_ c60_4
def c60_6 := cl_ c60_5
def c60_7 := cl_ c60_6
def r60_7 := co_ c60_7
def c60_9 := cr_ c60_6
def c60_10 := cl_ c60_9
def c60_11 := cr_ c60_9
def c60_12 := cr_ c60_5

theorem S_towpathlaw01_Book_fillAnswer {b_ : Option Addr} {w : World} {R : World → Prop} (h : F_towpathlaw01_Book_fillAnswer b_ R w) : C_towpathlaw01_Book_fillAnswer b_ w R := by
 unfold F_towpathlaw01_Book_fillAnswer at h
 unfold C_towpathlaw01_Book_fillAnswer
 refine Calls.mono (calls_of_wpE (args := [Value.pointer b_]) (R := fun v w' => v = Value.tuple #[] ∧ R w') Tryz.func60 (c := c60_0) (by kernel_rfl) 35 (by kernel_rfl) (by kernel_rfl) [(0, Value.pointer b_)] (by kernel_rfl) ?_) ?_
 · refine Zp c60_3 P1 [(0, .pointer b_), (2, .int .i64 0)] ?_
   refine Zb 0 c60_4 ?_
   obtain ⟨I, μ, h0, hr⟩ := h
   refine wpE_loop (x := c60_5) (by kernel_rfl) (fun m l w => ∃ (i : Int), l = [(0, Value.pointer b_), (2, Value.int .i64 i)] ∧ I i w ∧ μ i w = m) (l' := [(0, Value.pointer b_), (2, Value.int .i64 0)]) (Sub.mk (by kernel_rfl)) ⟨0, rfl, h0, rfl⟩ ?_
   rintro _ _ w1 ⟨i, rfl, hI, rfl⟩
   obtain ⟨again_, again__h, h⟩ : ∃ again_ : Int → World → Prop, (∀ i' w', again_ i' w' → I i' w' ∧ μ i' w' < μ i w1) ∧ F_towpathlaw01_Book_fillAnswer_L0 b_ R again_ i w1 := ⟨_, fun _ _ h => h, hr i w1 hI⟩
   clear h0 hI
   unfold F_towpathlaw01_Book_fillAnswer_L0 at h
   refine Zs c60_6 c60_12 ?_
   refine Zt r60_7 c60_9 ?_
   refine Zn P2 2 [(0, [], .pointer b_), (2, [], .int .i64 i), (5, [], .int .i64 i), (6, [], .pointer b_)] ?_
   obtain ⟨hp_3, h⟩ := h
   refine Zv (fun pp => [(0, [], .pointer b_), (2, [], .int .i64 i), (5, [], .int .i64 i), (6, [], .pointer pp)]) hp_3 ?_
   refine Zn P1 3 [(0, [], .pointer b_), (2, [], .int .i64 i), (5, [], .int .i64 i), (6, [], .pointer (some ⟨(pblk b_), (poff b_), none⟩)), (7, [], .pointer (some ⟨(pblk b_), (poff b_), none⟩))] ?_
   refine Zn P1 4 [(0, [], .pointer b_), (2, [], .int .i64 i), (5, [], .int .i64 i), (8, [], .pointer (some ⟨(pblk b_), (poff b_) + 11, none⟩))] ?_
   obtain ⟨v9, hc, h⟩ := h
   refine Zl 45 8 (pblk b_) ((poff b_) + 11) 45 9 hc ?_
   refine Zf P2 [(0, .pointer b_), (2, .int .i64 i), (11, .bool (decide (i < ((v9.len : Nat) : Int))))] ?_
   change WpE _ _ c60_9 _ _ _
   refine Zc 11 (decide (i < ((v9.len : Nat) : Int))) c60_10 c60_11 (fun hb => ?_) (fun hb => ?_)
   · replace h := h.1 hb
     exact h.elim
   · replace h := h.2 hb
     refine wpE_exit (id := 0) (by kernel_rfl) ?_
     repeat (first | refine seqQ_exit ?_ | refine loopQ_exit ?_ | refine cutQ_exit ?_ | refine blockQ_hit ?_ | refine blockQ_miss (by kernel_rfl) ?_)
     refine retQ_normal ?_
     repeat (first | refine seqQ_ret ?_ | refine blockQ_ret ?_ | refine loopQ_ret ?_ | refine cutQ_ret ?_)
     exact retT (rs := []) (vs := []) (by kernel_rfl) (trivial) (by kernel_rfl) ⟨rfl, h⟩
 · rintro e w' ⟨v, rfl, rfl, h⟩; exact ⟨rfl, h⟩

/-! ### (*towpath/towpathlaw01.Book).growByte (function 61) -/
def c61_0 := cb_ Tryz.f61
def c61_3 := cr_ c61_0
def c61_4 := cl_ c61_3
def c61_5 := cl_ c61_4
def c61_6 := cl_ c61_5
def c61_7 := cl_ c61_6
def r61_7 := co_ c61_7
def c61_9 := cr_ c61_6
def c61_10 := cl_ c61_9
def c61_11 := cr_ c61_9
def c61_12 := cr_ c61_5

theorem S_towpathlaw01_Book_growByte {b_ : Option Addr} {w : World} {R : World → Prop} (h : F_towpathlaw01_Book_growByte b_ R w) : C_towpathlaw01_Book_growByte b_ w R := by
 unfold F_towpathlaw01_Book_growByte at h
 unfold C_towpathlaw01_Book_growByte
 refine Calls.mono (calls_of_wpE (args := [Value.pointer b_]) (R := fun v w' => v = Value.tuple #[] ∧ R w') Tryz.func61 (c := c61_0) (by kernel_rfl) 42 (by kernel_rfl) (by kernel_rfl) [(0, Value.pointer b_)] (by kernel_rfl) ?_) ?_
 · refine Zp c61_3 P1 [(0, .pointer b_), (2, .int .i64 0)] ?_
   refine Zb 0 c61_4 ?_
   obtain ⟨I, μ, h0, hr⟩ := h
   refine wpE_loop (x := c61_5) (by kernel_rfl) (fun m l w => ∃ (i : Int), l = [(0, Value.pointer b_), (2, Value.int .i64 i)] ∧ I i w ∧ μ i w = m) (l' := [(0, Value.pointer b_), (2, Value.int .i64 0)]) (Sub.mk (by kernel_rfl)) ⟨0, rfl, h0, rfl⟩ ?_
   rintro _ _ w1 ⟨i, rfl, hI, rfl⟩
   obtain ⟨again_, again__h, h⟩ : ∃ again_ : Int → World → Prop, (∀ i' w', again_ i' w' → I i' w' ∧ μ i' w' < μ i w1) ∧ F_towpathlaw01_Book_growByte_L0 b_ R again_ i w1 := ⟨_, fun _ _ h => h, hr i w1 hI⟩
   clear h0 hI
   unfold F_towpathlaw01_Book_growByte_L0 at h
   refine Zs c61_6 c61_12 ?_
   refine Zt r61_7 c61_9 ?_
   refine Zn P2 2 [(0, [], .pointer b_), (2, [], .int .i64 i), (6, [], .int .i64 i), (7, [], .pointer b_)] ?_
   obtain ⟨hp_3, h⟩ := h
   refine Zv (fun pp => [(0, [], .pointer b_), (2, [], .int .i64 i), (6, [], .int .i64 i), (7, [], .pointer pp)]) hp_3 ?_
   refine Zn P1 3 [(0, [], .pointer b_), (2, [], .int .i64 i), (6, [], .int .i64 i), (7, [], .pointer (some ⟨(pblk b_), (poff b_), none⟩)), (8, [], .pointer (some ⟨(pblk b_), (poff b_), none⟩))] ?_
   refine Zn P1 4 [(0, [], .pointer b_), (2, [], .int .i64 i), (6, [], .int .i64 i), (9, [], .pointer (some ⟨(pblk b_), (poff b_) + 1, none⟩))] ?_
   obtain ⟨v10, hc, h⟩ := h
   refine Zl 35 9 (pblk b_) ((poff b_) + 1) 35 10 hc ?_
   refine Zf P2 [(0, .pointer b_), (2, .int .i64 i), (12, .bool (decide (i < ((v10.len : Nat) : Int))))] ?_
   change WpE _ _ c61_9 _ _ _
   refine Zc 12 (decide (i < ((v10.len : Nat) : Int))) c61_10 c61_11 (fun hb => ?_) (fun hb => ?_)
   · replace h := h.1 hb
     exact h.elim
   · replace h := h.2 hb
     refine wpE_exit (id := 0) (by kernel_rfl) ?_
     repeat (first | refine seqQ_exit ?_ | refine loopQ_exit ?_ | refine cutQ_exit ?_ | refine blockQ_hit ?_ | refine blockQ_miss (by kernel_rfl) ?_)
     refine retQ_normal ?_
     repeat (first | refine seqQ_ret ?_ | refine blockQ_ret ?_ | refine loopQ_ret ?_ | refine cutQ_ret ?_)
     exact retT (rs := []) (vs := []) (by kernel_rfl) (trivial) (by kernel_rfl) ⟨rfl, h⟩
 · rintro e w' ⟨v, rfl, rfl, h⟩; exact ⟨rfl, h⟩

/-! ### (*towpath/towpathlaw01.Book).growInt (function 62) -/
def c62_0 := cb_ Tryz.f62
def c62_3 := cr_ c62_0
def c62_4 := cl_ c62_3
def c62_5 := cl_ c62_4
def c62_6 := cl_ c62_5
def c62_7 := cl_ c62_6
def r62_7 := co_ c62_7
def c62_9 := cr_ c62_6
def c62_10 := cl_ c62_9
def c62_11 := cr_ c62_9
def c62_12 := cr_ c62_5
def c62_13 := cl_ c62_12
def c62_14 := cl_ c62_13
def c62_15 := cl_ c62_14
def r62_15 := co_ c62_15
def c62_17 := cr_ c62_14
def c62_18 := cl_ c62_17
def r62_18 := co_ c62_18
def c62_20 := cr_ c62_17
def c62_21 := cl_ c62_20
def c62_24 := cr_ c62_21
def c62_25 := cl_ c62_24
def c62_26 := cl_ c62_25
def c62_27 := cl_ c62_26
def c62_30 := cr_ c62_27
def c62_31 := cl_ c62_30
def c62_32 := cr_ c62_30
def c62_33 := cr_ c62_26
def c62_34 := cl_ c62_33
def c62_35 := cl_ c62_34
def r62_35 := co_ c62_35
def c62_37 := cr_ c62_33
def r62_37 := co_ c62_37
def c62_39 := cr_ c62_20
def r62_39 := co_ c62_39
def c62_41 := cr_ c62_12
def r62_41 := co_ c62_41

theorem S_towpathlaw01_Book_growInt {b_ : Option Addr} {w : World} {R : World → Prop} (h : F_towpathlaw01_Book_growInt b_ R w) : C_towpathlaw01_Book_growInt b_ w R := by
 unfold F_towpathlaw01_Book_growInt at h
 unfold C_towpathlaw01_Book_growInt
 refine Calls.mono (calls_of_wpE (args := [Value.pointer b_]) (R := fun v w' => v = Value.tuple #[] ∧ R w') Tryz.func62 (c := c62_0) (by kernel_rfl) 42 (by kernel_rfl) (by kernel_rfl) [(0, Value.pointer b_)] (by kernel_rfl) ?_) ?_
 · refine Zp c62_3 P1 [(0, .pointer b_), (2, .int .i64 0)] ?_
   refine Zb 0 c62_4 ?_
   obtain ⟨I, μ, h0, hr⟩ := h
   refine wpE_loop (x := c62_5) (by kernel_rfl) (fun m l w => ∃ (i : Int), l = [(0, Value.pointer b_), (2, Value.int .i64 i)] ∧ I i w ∧ μ i w = m) (l' := [(0, Value.pointer b_), (2, Value.int .i64 0)]) (Sub.mk (by kernel_rfl)) ⟨0, rfl, h0, rfl⟩ ?_
   rintro _ _ w1 ⟨i, rfl, hI, rfl⟩
   obtain ⟨again_, again__h, h⟩ : ∃ again_ : Int → World → Prop, (∀ i' w', again_ i' w' → I i' w' ∧ μ i' w' < μ i w1) ∧ F_towpathlaw01_Book_growInt_L0 b_ R again_ i w1 := ⟨_, fun _ _ h => h, hr i w1 hI⟩
   clear h0 hI
   unfold F_towpathlaw01_Book_growInt_L0 at h
   refine Zs c62_6 c62_12 ?_
   refine Zt r62_7 c62_9 ?_
   refine Zn P2 2 [(0, [], .pointer b_), (2, [], .int .i64 i), (6, [], .int .i64 i), (7, [], .pointer b_)] ?_
   obtain ⟨hp_3, h⟩ := h
   refine Zv (fun pp => [(0, [], .pointer b_), (2, [], .int .i64 i), (6, [], .int .i64 i), (7, [], .pointer pp)]) hp_3 ?_
   refine Zn P1 3 [(0, [], .pointer b_), (2, [], .int .i64 i), (6, [], .int .i64 i), (7, [], .pointer (some ⟨(pblk b_), (poff b_), none⟩)), (8, [], .pointer (some ⟨(pblk b_), (poff b_), none⟩))] ?_
   refine Zn P1 4 [(0, [], .pointer b_), (2, [], .int .i64 i), (6, [], .int .i64 i), (9, [], .pointer (some ⟨(pblk b_), (poff b_) + 2, none⟩))] ?_
   obtain ⟨v10, hc, h⟩ := h
   refine Zl 36 9 (pblk b_) ((poff b_) + 2) 36 10 hc ?_
   refine Zf P2 [(0, .pointer b_), (2, .int .i64 i), (12, .bool (decide (i < ((v10.len : Nat) : Int))))] ?_
   change WpE _ _ c62_9 _ _ _
   refine Zc 12 (decide (i < ((v10.len : Nat) : Int))) c62_10 c62_11 (fun hb => ?_) (fun hb => ?_)
   · replace h := h.1 hb
     refine wpE_skip (by kernel_rfl) ?_
     change WpE _ _ c62_12 _ _ _
     refine Zs c62_13 c62_41 ?_
     refine Zb 1 c62_14 ?_
     refine Zt r62_15 c62_17 ?_
     refine Zn P1 1 [(0, [], .pointer b_), (2, [], .int .i64 i), (15, [], .pointer b_)] ?_
     obtain ⟨hp_12, h⟩ := h
     refine Zv (fun pp => [(0, [], .pointer b_), (2, [], .int .i64 i), (15, [], .pointer pp)]) hp_12 ?_
     refine Zn P1 2 [(0, [], .pointer b_), (2, [], .int .i64 i), (15, [], .pointer (some ⟨(pblk b_), (poff b_), none⟩)), (16, [], .pointer (some ⟨(pblk b_), (poff b_), none⟩))] ?_
     refine Zn P1 3 [(0, [], .pointer b_), (2, [], .int .i64 i), (17, [], .pointer (some ⟨(pblk b_), (poff b_) + 2, none⟩))] ?_
     obtain ⟨v18, hc, h⟩ := h
     refine Zl 36 17 (pblk b_) ((poff b_) + 2) 36 18 hc ?_
     refine Zn P1 5 [(0, [], .pointer b_), (2, [], .int .i64 i), (18, [], sv_ v18), (19, [], .int .i64 i)] ?_
     obtain ⟨hp_13, h⟩ := h
     refine Zv (fun pp => [(0, [], .pointer b_), (2, [], .int .i64 i), (18, [], .slice pp v18.len v18.cap), (19, [], .int .i64 i)]) hp_13 ?_
     obtain ⟨h0, h1, h⟩ := h
     refine Zj 36 146 18 19 (pblk v18.ptr) (poff v18.ptr) v18.len v18.cap i 3 20 0 h0 h1 ?_
     refine Zn [] 6 [(0, [], .pointer b_), (2, [], .int .i64 i), (20, [], .pointer (some ⟨(pblk v18.ptr), (poff v18.ptr) + i.toNat * 3, none⟩))] ?_
     obtain ⟨v21, hc, h⟩ := h
     refine reg_loadN (t := 146) (a := (Operand.tmp 20)) (b := (pblk v18.ptr)) (o := ((poff v18.ptr) + i.toNat * 3)) (ty := 146) (dst := some 21) [sv_ v21.l, sv_ v21.long, Value.int .i64 v21.n] (by kernel_rfl) (by kernel_rfl) (by kernel_rfl) (k := 3) (by kernel_rfl) (by kernel_rfl) hc ?_
     refine Zn [] 7 [(0, [], .pointer b_), (2, [], .int .i64 i), (21, [], .agg #[sv_ v21.l, sv_ v21.long, .int .i64 v21.n])] ?_
     refine Zw (some 3) (fun bb => pv_ bb) (Obj.cells ([.slice none 0 0, .slice none 0 0, .int .i64 0]).toArray ty_towpathlaw01_heldInt (0, 0)) (fun b_1 w2 hb hw => ?_)
     replace h := h b_1 w2 hb hw
     clear hb hw
     refine Zn [] 8 [(0, [], .pointer b_), (2, [], .int .i64 i), (3, [], pv_ b_1), (21, [], .agg #[sv_ v21.l, sv_ v21.long, .int .i64 v21.n])] ?_
     obtain ⟨hc, h⟩ := h
     refine Zo 146 3 21 b_1 0 3 [sv_ v21.l, sv_ v21.long, .int .i64 v21.n] hc (fun w3 hw => ?_)
     replace h := h w3 hw
     clear hw
     refine Ze [(0, .pointer b_), (2, .int .i64 i), (3, pv_ b_1)] ?_
     change WpE _ _ c62_17 _ _ _
     refine Zt r62_18 c62_20 ?_
     refine Zn P1 1 [(0, [], .pointer b_), (2, [], .int .i64 i), (3, [], pv_ b_1), (22, [], pv_ b_1)] ?_
     obtain ⟨long, hc, h⟩ := h
     refine Zl 23 22 b_1 0 23 23 hc ?_
     refine Zf P1 [(0, .pointer b_), (2, .int .i64 i), (3, pv_ b_1), (4, sv_ long)] ?_
     change WpE _ _ c62_20 _ _ _
     refine Zs c62_21 c62_39 ?_
     refine Zp c62_24 P1 [(0, .pointer b_), (2, .int .i64 i), (3, pv_ b_1), (4, sv_ long), (5, .int .i64 0)] ?_
     refine Zb 2 c62_25 ?_
     obtain ⟨I, μ, h0, hr⟩ := h
     refine wpE_loop (x := c62_26) (by kernel_rfl) (fun m l w => ∃ (long1 : Slc) (k_ : Int), l = [(0, Value.pointer b_), (2, Value.int .i64 i), (3, pv_ b_1), (4, sv_ long1), (5, Value.int .i64 k_)] ∧ I long1 k_ w ∧ μ long1 k_ w = m) (l' := [(0, Value.pointer b_), (2, Value.int .i64 i), (3, pv_ b_1), (4, sv_ long), (5, Value.int .i64 0)]) (Sub.mk (by kernel_rfl)) ⟨long, 0, rfl, h0, rfl⟩ ?_
     rintro _ _ w4 ⟨long1, k_, rfl, hI, rfl⟩
     obtain ⟨again_1, again_1_h, h⟩ : ∃ again_1 : Slc → Int → World → Prop, (∀ long1' k_' w', again_1 long1' k_' w' → I long1' k_' w' ∧ μ long1' k_' w' < μ long1 k_ w4) ∧ F_towpathlaw01_Book_growInt_L1 b_ i again_ b_1 again_1 long1 k_ w4 := ⟨_, fun _ _ _ h => h, hr long1 k_ w4 hI⟩
     clear h0 hI
     unfold F_towpathlaw01_Book_growInt_L1 at h
     refine Zs c62_27 c62_33 ?_
     refine Zp c62_30 P2 [(0, .pointer b_), (2, .int .i64 i), (3, pv_ b_1), (4, sv_ long1), (5, .int .i64 k_), (25, .bool (decide (k_ < 70)))] ?_
     refine Zc 25 (decide (k_ < 70)) c62_31 c62_32 (fun hb => ?_) (fun hb => ?_)
     · replace h := h.1 hb
       refine wpE_skip (by kernel_rfl) ?_
       change WpE _ _ c62_33 _ _ _
       refine Zs c62_34 c62_37 ?_
       refine Zb 3 c62_35 ?_
       refine Zr r62_35 ?_
       refine Zn P2 2 [(0, [], .pointer b_), (2, [], .int .i64 i), (3, [], pv_ b_1), (4, [], sv_ long1), (5, [], .int .i64 k_), (28, [], sv_ long1), (29, [], .pointer (some ⟨b_1, 2, none⟩))] ?_
       obtain ⟨v30, hc, h⟩ := h
       refine Zl 3 29 b_1 2 3 30 hc ?_
       refine Zn [] 3 [(0, [], .pointer b_), (2, [], .int .i64 i), (3, [], pv_ b_1), (4, [], sv_ long1), (5, [], .int .i64 k_), (28, [], sv_ long1), (30, [], .int .i64 v30)] ?_
       refine Zm 126 #[.int .i64 v30] (some 31) (Calls.mono h ?_)
       rintro _ w5 ⟨v31, rfl, h⟩
       refine ⟨_, rfl, ?_⟩
       refine Zn [] 4 [(0, [], .pointer b_), (2, [], .int .i64 i), (3, [], pv_ b_1), (4, [], sv_ long1), (5, [], .int .i64 k_), (28, [], sv_ long1), (31, [], .int .i64 v31)] ?_
       refine Zw (some 32) (fun bb => .slice (some ⟨bb, 0, none⟩) 1 1) (Obj.cells ([.int .i64 v31]).toArray ty_int (0, 0)) (fun b_2 w6 hb hw => ?_)
       replace h := h b_2 w6 hb hw
       clear hb hw
       refine Zn [] 5 [(0, [], .pointer b_), (2, [], .int .i64 i), (3, [], pv_ b_1), (4, [], sv_ long1), (5, [], .int .i64 k_), (28, [], sv_ long1), (32, [], .slice (some ⟨b_2, 0, none⟩) 1 1)] ?_
       obtain ⟨src, hs, h⟩ := h
       refine reg_append (t := 23) (tx := 23) (e := 3) (a := (Operand.tmp 28)) (xo := (Operand.tmp 32)) (s := long1) (x := (Slc.mk (some ⟨b_2, 0, none⟩) 1 1)) (sz := 1) (by_ := 8) (zs := [Value.int .i64 0]) (ty := 23) (dst := some 33)  src (by kernel_rfl) (by kernel_rfl) (by kernel_rfl) (by kernel_rfl) (by kernel_rfl) (by kernel_rfl) (by kernel_rfl) (by kernel_rfl) (by kernel_rfl) hs (AppendW.mono h (fun long2 w7 h => ?_))
       refine Zf P1 [(0, .pointer b_), (2, .int .i64 i), (3, pv_ b_1), (4, sv_ long2), (5, .int .i64 k_)] ?_
       change WpE _ _ c62_37 _ _ _
       refine Zr r62_37 ?_
       refine Zf P3 [(0, .pointer b_), (2, .int .i64 i), (3, pv_ b_1), (4, sv_ long2), (5, .int .i64 (IntKind.i64.wrap (k_ + 1)))] ?_
       have hb_ := again_1_h _ _ _ h
       exact ⟨_, hb_.2, [(0, Value.pointer b_), (2, Value.int .i64 i), (3, pv_ b_1), (4, sv_ long2), (5, Value.int .i64 (IntKind.i64.wrap (k_ + 1)))], Sub.mk (by kernel_rfl), long2, (IntKind.i64.wrap (k_ + 1)), rfl, hb_.1, rfl⟩
     · replace h := h.2 hb
       refine wpE_exit (id := 2) (by kernel_rfl) ?_
       change WpE _ _ c62_39 _ _ _
       refine Zr r62_39 ?_
       refine Zn P1 1 [(0, [], .pointer b_), (2, [], .int .i64 i), (4, [], sv_ long1), (34, [], .pointer b_)] ?_
       obtain ⟨hp_14, h⟩ := h
       refine Zv (fun pp => [(0, [], .pointer b_), (2, [], .int .i64 i), (4, [], sv_ long1), (34, [], .pointer pp)]) hp_14 ?_
       refine Zn P1 2 [(0, [], .pointer b_), (2, [], .int .i64 i), (4, [], sv_ long1), (34, [], .pointer (some ⟨(pblk b_), (poff b_), none⟩)), (35, [], .pointer (some ⟨(pblk b_), (poff b_), none⟩))] ?_
       refine Zn P1 3 [(0, [], .pointer b_), (2, [], .int .i64 i), (4, [], sv_ long1), (36, [], .pointer (some ⟨(pblk b_), (poff b_) + 2, none⟩))] ?_
       obtain ⟨v37, hc, h⟩ := h
       refine Zl 36 36 (pblk b_) ((poff b_) + 2) 36 37 hc ?_
       refine Zn P2 6 [(0, [], .pointer b_), (2, [], .int .i64 i), (37, [], sv_ v37), (38, [], .int .i64 i), (39, [], sv_ long1)] ?_
       obtain ⟨hp_15, h⟩ := h
       refine Zv (fun pp => [(0, [], .pointer b_), (2, [], .int .i64 i), (37, [], .slice pp v37.len v37.cap), (38, [], .int .i64 i), (39, [], sv_ long1)]) hp_15 ?_
       obtain ⟨h0, h1, h⟩ := h
       refine Zj 36 146 37 38 (pblk v37.ptr) (poff v37.ptr) v37.len v37.cap i 3 40 0 h0 h1 ?_
       refine Zn P1 8 [(0, [], .pointer b_), (2, [], .int .i64 i), (39, [], sv_ long1), (41, [], .pointer (some ⟨(pblk v37.ptr), ((poff v37.ptr) + i.toNat * 3) + 1, none⟩))] ?_
       obtain ⟨hc, h⟩ := h
       refine Zo 23 41 39 (pblk v37.ptr) (((poff v37.ptr) + i.toNat * 3) + 1) 1 [sv_ long1] hc (fun w8 hw => ?_)
       replace h := h w8 hw
       clear hw
       refine Ze [(0, .pointer b_), (2, .int .i64 i)] ?_
       change WpE _ _ c62_41 _ _ _
       refine Zr r62_41 ?_
       refine Zf P3 [(0, .pointer b_), (2, .int .i64 (IntKind.i64.wrap (i + 1)))] ?_
       have hb_ := again__h _ _ h
       exact ⟨_, hb_.2, [(0, Value.pointer b_), (2, Value.int .i64 (IntKind.i64.wrap (i + 1)))], Sub.mk (by kernel_rfl), (IntKind.i64.wrap (i + 1)), rfl, hb_.1, rfl⟩
   · replace h := h.2 hb
     refine wpE_exit (id := 0) (by kernel_rfl) ?_
     repeat (first | refine seqQ_exit ?_ | refine loopQ_exit ?_ | refine cutQ_exit ?_ | refine blockQ_hit ?_ | refine blockQ_miss (by kernel_rfl) ?_)
     refine retQ_normal ?_
     repeat (first | refine seqQ_ret ?_ | refine blockQ_ret ?_ | refine loopQ_ret ?_ | refine cutQ_ret ?_)
     exact retT (rs := []) (vs := []) (by kernel_rfl) (trivial) (by kernel_rfl) ⟨rfl, h⟩
 · rintro e w' ⟨v, rfl, rfl, h⟩; exact ⟨rfl, h⟩

/-! ### (*towpath/towpathlaw01.Book).growText (function 63) -/
def c63_0 := cb_ Tryz.f63
def c63_3 := cr_ c63_0
def c63_4 := cl_ c63_3
def c63_5 := cl_ c63_4
def c63_6 := cl_ c63_5
def c63_7 := cl_ c63_6
def r63_7 := co_ c63_7
def c63_9 := cr_ c63_6
def c63_10 := cl_ c63_9
def c63_11 := cr_ c63_9
def c63_12 := cr_ c63_5

theorem S_towpathlaw01_Book_growText {b_ : Option Addr} {w : World} {R : World → Prop} (h : F_towpathlaw01_Book_growText b_ R w) : C_towpathlaw01_Book_growText b_ w R := by
 unfold F_towpathlaw01_Book_growText at h
 unfold C_towpathlaw01_Book_growText
 refine Calls.mono (calls_of_wpE (args := [Value.pointer b_]) (R := fun v w' => v = Value.tuple #[] ∧ R w') Tryz.func63 (c := c63_0) (by kernel_rfl) 42 (by kernel_rfl) (by kernel_rfl) [(0, Value.pointer b_)] (by kernel_rfl) ?_) ?_
 · refine Zp c63_3 P1 [(0, .pointer b_), (2, .int .i64 0)] ?_
   refine Zb 0 c63_4 ?_
   obtain ⟨I, μ, h0, hr⟩ := h
   refine wpE_loop (x := c63_5) (by kernel_rfl) (fun m l w => ∃ (i : Int), l = [(0, Value.pointer b_), (2, Value.int .i64 i)] ∧ I i w ∧ μ i w = m) (l' := [(0, Value.pointer b_), (2, Value.int .i64 0)]) (Sub.mk (by kernel_rfl)) ⟨0, rfl, h0, rfl⟩ ?_
   rintro _ _ w1 ⟨i, rfl, hI, rfl⟩
   obtain ⟨again_, again__h, h⟩ : ∃ again_ : Int → World → Prop, (∀ i' w', again_ i' w' → I i' w' ∧ μ i' w' < μ i w1) ∧ F_towpathlaw01_Book_growText_L0 b_ R again_ i w1 := ⟨_, fun _ _ h => h, hr i w1 hI⟩
   clear h0 hI
   unfold F_towpathlaw01_Book_growText_L0 at h
   refine Zs c63_6 c63_12 ?_
   refine Zt r63_7 c63_9 ?_
   refine Zn P2 2 [(0, [], .pointer b_), (2, [], .int .i64 i), (6, [], .int .i64 i), (7, [], .pointer b_)] ?_
   obtain ⟨hp_3, h⟩ := h
   refine Zv (fun pp => [(0, [], .pointer b_), (2, [], .int .i64 i), (6, [], .int .i64 i), (7, [], .pointer pp)]) hp_3 ?_
   refine Zn P1 3 [(0, [], .pointer b_), (2, [], .int .i64 i), (6, [], .int .i64 i), (7, [], .pointer (some ⟨(pblk b_), (poff b_), none⟩)), (8, [], .pointer (some ⟨(pblk b_), (poff b_), none⟩))] ?_
   refine Zn P1 4 [(0, [], .pointer b_), (2, [], .int .i64 i), (6, [], .int .i64 i), (9, [], .pointer (some ⟨(pblk b_), (poff b_) + 3, none⟩))] ?_
   obtain ⟨v10, hc, h⟩ := h
   refine Zl 37 9 (pblk b_) ((poff b_) + 3) 37 10 hc ?_
   refine Zf P2 [(0, .pointer b_), (2, .int .i64 i), (12, .bool (decide (i < ((v10.len : Nat) : Int))))] ?_
   change WpE _ _ c63_9 _ _ _
   refine Zc 12 (decide (i < ((v10.len : Nat) : Int))) c63_10 c63_11 (fun hb => ?_) (fun hb => ?_)
   · replace h := h.1 hb
     exact h.elim
   · replace h := h.2 hb
     refine wpE_exit (id := 0) (by kernel_rfl) ?_
     repeat (first | refine seqQ_exit ?_ | refine loopQ_exit ?_ | refine cutQ_exit ?_ | refine blockQ_hit ?_ | refine blockQ_miss (by kernel_rfl) ?_)
     refine retQ_normal ?_
     repeat (first | refine seqQ_ret ?_ | refine blockQ_ret ?_ | refine loopQ_ret ?_ | refine cutQ_ret ?_)
     exact retT (rs := []) (vs := []) (by kernel_rfl) (trivial) (by kernel_rfl) ⟨rfl, h⟩
 · rintro e w' ⟨v, rfl, rfl, h⟩; exact ⟨rfl, h⟩

/-! ### (*towpath/towpathlaw01.Book).growWrite (function 64) -/
def c64_0 := cb_ Tryz.f64
def c64_3 := cr_ c64_0
def c64_4 := cl_ c64_3
def c64_5 := cl_ c64_4
def c64_6 := cl_ c64_5
def c64_7 := cl_ c64_6
def r64_7 := co_ c64_7
def c64_9 := cr_ c64_6
def c64_10 := cl_ c64_9
def c64_11 := cr_ c64_9
def c64_12 := cr_ c64_5
def c64_13 := cl_ c64_12
def c64_14 := cl_ c64_13
def c64_15 := cl_ c64_14
def r64_15 := co_ c64_15
def c64_17 := cr_ c64_14
def c64_18 := cl_ c64_17
def r64_18 := co_ c64_18
def c64_20 := cr_ c64_17
def c64_21 := cl_ c64_20
def c64_24 := cr_ c64_21
def c64_25 := cl_ c64_24
def c64_26 := cl_ c64_25
def c64_27 := cl_ c64_26
def c64_30 := cr_ c64_27
def c64_31 := cl_ c64_30
def c64_32 := cr_ c64_30
def c64_33 := cr_ c64_26
def c64_34 := cl_ c64_33
def c64_35 := cl_ c64_34
def r64_35 := co_ c64_35
def c64_37 := cr_ c64_33
def r64_37 := co_ c64_37
def c64_39 := cr_ c64_20
def r64_39 := co_ c64_39
def c64_41 := cr_ c64_12
def r64_41 := co_ c64_41

theorem S_towpathlaw01_Book_growWrite {b_ : Option Addr} {w : World} {R : World → Prop} (h : F_towpathlaw01_Book_growWrite b_ R w) : C_towpathlaw01_Book_growWrite b_ w R := by
 unfold F_towpathlaw01_Book_growWrite at h
 unfold C_towpathlaw01_Book_growWrite
 refine Calls.mono (calls_of_wpE (args := [Value.pointer b_]) (R := fun v w' => v = Value.tuple #[] ∧ R w') Tryz.func64 (c := c64_0) (by kernel_rfl) 42 (by kernel_rfl) (by kernel_rfl) [(0, Value.pointer b_)] (by kernel_rfl) ?_) ?_
 · refine Zp c64_3 P1 [(0, .pointer b_), (2, .int .i64 0)] ?_
   refine Zb 0 c64_4 ?_
   obtain ⟨I, μ, h0, hr⟩ := h
   refine wpE_loop (x := c64_5) (by kernel_rfl) (fun m l w => ∃ (i : Int), l = [(0, Value.pointer b_), (2, Value.int .i64 i)] ∧ I i w ∧ μ i w = m) (l' := [(0, Value.pointer b_), (2, Value.int .i64 0)]) (Sub.mk (by kernel_rfl)) ⟨0, rfl, h0, rfl⟩ ?_
   rintro _ _ w1 ⟨i, rfl, hI, rfl⟩
   obtain ⟨again_, again__h, h⟩ : ∃ again_ : Int → World → Prop, (∀ i' w', again_ i' w' → I i' w' ∧ μ i' w' < μ i w1) ∧ F_towpathlaw01_Book_growWrite_L0 b_ R again_ i w1 := ⟨_, fun _ _ h => h, hr i w1 hI⟩
   clear h0 hI
   unfold F_towpathlaw01_Book_growWrite_L0 at h
   refine Zs c64_6 c64_12 ?_
   refine Zt r64_7 c64_9 ?_
   refine Zn P2 2 [(0, [], .pointer b_), (2, [], .int .i64 i), (6, [], .int .i64 i), (7, [], .pointer b_)] ?_
   obtain ⟨hp_3, h⟩ := h
   refine Zv (fun pp => [(0, [], .pointer b_), (2, [], .int .i64 i), (6, [], .int .i64 i), (7, [], .pointer pp)]) hp_3 ?_
   refine Zn P1 3 [(0, [], .pointer b_), (2, [], .int .i64 i), (6, [], .int .i64 i), (7, [], .pointer (some ⟨(pblk b_), (poff b_), none⟩)), (8, [], .pointer (some ⟨(pblk b_), (poff b_), none⟩))] ?_
   refine Zn P1 4 [(0, [], .pointer b_), (2, [], .int .i64 i), (6, [], .int .i64 i), (9, [], .pointer (some ⟨(pblk b_), (poff b_) + 4, none⟩))] ?_
   obtain ⟨v10, hc, h⟩ := h
   refine Zl 38 9 (pblk b_) ((poff b_) + 4) 38 10 hc ?_
   refine Zf P2 [(0, .pointer b_), (2, .int .i64 i), (12, .bool (decide (i < ((v10.len : Nat) : Int))))] ?_
   change WpE _ _ c64_9 _ _ _
   refine Zc 12 (decide (i < ((v10.len : Nat) : Int))) c64_10 c64_11 (fun hb => ?_) (fun hb => ?_)
   · replace h := h.1 hb
     refine wpE_skip (by kernel_rfl) ?_
     change WpE _ _ c64_12 _ _ _
     refine Zs c64_13 c64_41 ?_
     refine Zb 1 c64_14 ?_
     refine Zt r64_15 c64_17 ?_
     refine Zn P1 1 [(0, [], .pointer b_), (2, [], .int .i64 i), (15, [], .pointer b_)] ?_
     obtain ⟨hp_12, h⟩ := h
     refine Zv (fun pp => [(0, [], .pointer b_), (2, [], .int .i64 i), (15, [], .pointer pp)]) hp_12 ?_
     refine Zn P1 2 [(0, [], .pointer b_), (2, [], .int .i64 i), (15, [], .pointer (some ⟨(pblk b_), (poff b_), none⟩)), (16, [], .pointer (some ⟨(pblk b_), (poff b_), none⟩))] ?_
     refine Zn P1 3 [(0, [], .pointer b_), (2, [], .int .i64 i), (17, [], .pointer (some ⟨(pblk b_), (poff b_) + 4, none⟩))] ?_
     obtain ⟨v18, hc, h⟩ := h
     refine Zl 38 17 (pblk b_) ((poff b_) + 4) 38 18 hc ?_
     refine Zn P1 5 [(0, [], .pointer b_), (2, [], .int .i64 i), (18, [], sv_ v18), (19, [], .int .i64 i)] ?_
     obtain ⟨hp_13, h⟩ := h
     refine Zv (fun pp => [(0, [], .pointer b_), (2, [], .int .i64 i), (18, [], .slice pp v18.len v18.cap), (19, [], .int .i64 i)]) hp_13 ?_
     obtain ⟨h0, h1, h⟩ := h
     refine Zj 38 153 18 19 (pblk v18.ptr) (poff v18.ptr) v18.len v18.cap i 3 20 0 h0 h1 ?_
     refine Zn [] 6 [(0, [], .pointer b_), (2, [], .int .i64 i), (20, [], .pointer (some ⟨(pblk v18.ptr), (poff v18.ptr) + i.toNat * 3, none⟩))] ?_
     obtain ⟨v21, hc, h⟩ := h
     refine reg_loadN (t := 153) (a := (Operand.tmp 20)) (b := (pblk v18.ptr)) (o := ((poff v18.ptr) + i.toNat * 3)) (ty := 153) (dst := some 21) [sv_ v21.l, sv_ v21.long, Value.int .i64 v21.n] (by kernel_rfl) (by kernel_rfl) (by kernel_rfl) (k := 3) (by kernel_rfl) (by kernel_rfl) hc ?_
     refine Zn [] 7 [(0, [], .pointer b_), (2, [], .int .i64 i), (21, [], .agg #[sv_ v21.l, sv_ v21.long, .int .i64 v21.n])] ?_
     refine Zw (some 3) (fun bb => pv_ bb) (Obj.cells ([.slice none 0 0, .slice none 0 0, .int .i64 0]).toArray ty_towpathlaw01_heldWrite (0, 0)) (fun b_1 w2 hb hw => ?_)
     replace h := h b_1 w2 hb hw
     clear hb hw
     refine Zn [] 8 [(0, [], .pointer b_), (2, [], .int .i64 i), (3, [], pv_ b_1), (21, [], .agg #[sv_ v21.l, sv_ v21.long, .int .i64 v21.n])] ?_
     obtain ⟨hc, h⟩ := h
     refine Zo 153 3 21 b_1 0 3 [sv_ v21.l, sv_ v21.long, .int .i64 v21.n] hc (fun w3 hw => ?_)
     replace h := h w3 hw
     clear hw
     refine Ze [(0, .pointer b_), (2, .int .i64 i), (3, pv_ b_1)] ?_
     change WpE _ _ c64_17 _ _ _
     refine Zt r64_18 c64_20 ?_
     refine Zn P1 1 [(0, [], .pointer b_), (2, [], .int .i64 i), (3, [], pv_ b_1), (22, [], pv_ b_1)] ?_
     obtain ⟨long, hc, h⟩ := h
     refine Zl 50 22 b_1 0 50 23 hc ?_
     refine Zf P1 [(0, .pointer b_), (2, .int .i64 i), (3, pv_ b_1), (4, sv_ long)] ?_
     change WpE _ _ c64_20 _ _ _
     refine Zs c64_21 c64_39 ?_
     refine Zp c64_24 P1 [(0, .pointer b_), (2, .int .i64 i), (3, pv_ b_1), (4, sv_ long), (5, .int .i64 0)] ?_
     refine Zb 2 c64_25 ?_
     obtain ⟨I, μ, h0, hr⟩ := h
     refine wpE_loop (x := c64_26) (by kernel_rfl) (fun m l w => ∃ (long1 : Slc) (k_ : Int), l = [(0, Value.pointer b_), (2, Value.int .i64 i), (3, pv_ b_1), (4, sv_ long1), (5, Value.int .i64 k_)] ∧ I long1 k_ w ∧ μ long1 k_ w = m) (l' := [(0, Value.pointer b_), (2, Value.int .i64 i), (3, pv_ b_1), (4, sv_ long), (5, Value.int .i64 0)]) (Sub.mk (by kernel_rfl)) ⟨long, 0, rfl, h0, rfl⟩ ?_
     rintro _ _ w4 ⟨long1, k_, rfl, hI, rfl⟩
     obtain ⟨again_1, again_1_h, h⟩ : ∃ again_1 : Slc → Int → World → Prop, (∀ long1' k_' w', again_1 long1' k_' w' → I long1' k_' w' ∧ μ long1' k_' w' < μ long1 k_ w4) ∧ F_towpathlaw01_Book_growWrite_L1 b_ i again_ b_1 again_1 long1 k_ w4 := ⟨_, fun _ _ _ h => h, hr long1 k_ w4 hI⟩
     clear h0 hI
     unfold F_towpathlaw01_Book_growWrite_L1 at h
     refine Zs c64_27 c64_33 ?_
     refine Zp c64_30 P2 [(0, .pointer b_), (2, .int .i64 i), (3, pv_ b_1), (4, sv_ long1), (5, .int .i64 k_), (25, .bool (decide (k_ < 70)))] ?_
     refine Zc 25 (decide (k_ < 70)) c64_31 c64_32 (fun hb => ?_) (fun hb => ?_)
     · replace h := h.1 hb
       refine wpE_skip (by kernel_rfl) ?_
       change WpE _ _ c64_33 _ _ _
       refine Zs c64_34 c64_37 ?_
       refine Zb 3 c64_35 ?_
       refine Zr r64_35 ?_
       refine Zn P2 2 [(0, [], .pointer b_), (2, [], .int .i64 i), (3, [], pv_ b_1), (4, [], sv_ long1), (5, [], .int .i64 k_), (28, [], sv_ long1), (29, [], .pointer (some ⟨b_1, 2, none⟩))] ?_
       obtain ⟨v30, hc, h⟩ := h
       refine Zl 3 29 b_1 2 3 30 hc ?_
       refine Zn [] 3 [(0, [], .pointer b_), (2, [], .int .i64 i), (3, [], pv_ b_1), (4, [], sv_ long1), (5, [], .int .i64 k_), (28, [], sv_ long1), (30, [], .int .i64 v30)] ?_
       refine Zm 128 #[.int .i64 v30] (some 31) (Calls.mono h ?_)
       rintro _ w5 ⟨v31, rfl, h⟩
       refine ⟨_, rfl, ?_⟩
       refine Zn [] 4 [(0, [], .pointer b_), (2, [], .int .i64 i), (3, [], pv_ b_1), (4, [], sv_ long1), (5, [], .int .i64 k_), (28, [], sv_ long1), (31, [], .agg #[.string v31.Key, .string v31.Val, .bool v31.Drop])] ?_
       refine Zw (some 32) (fun bb => .slice (some ⟨bb, 0, none⟩) 1 1) (Obj.cells ([.string v31.Key, .string v31.Val, .bool v31.Drop]).toArray ty_api_Write (0, 0)) (fun b_2 w6 hb hw => ?_)
       replace h := h b_2 w6 hb hw
       clear hb hw
       refine Zn [] 5 [(0, [], .pointer b_), (2, [], .int .i64 i), (3, [], pv_ b_1), (4, [], sv_ long1), (5, [], .int .i64 k_), (28, [], sv_ long1), (32, [], .slice (some ⟨b_2, 0, none⟩) 1 1)] ?_
       obtain ⟨src, hs, h⟩ := h
       refine reg_append (t := 50) (tx := 50) (e := 139) (a := (Operand.tmp 28)) (xo := (Operand.tmp 32)) (s := long1) (x := (Slc.mk (some ⟨b_2, 0, none⟩) 1 1)) (sz := 3) (by_ := 40) (zs := [Value.string ByteArray.empty, Value.string ByteArray.empty, Value.bool false]) (ty := 50) (dst := some 33)  src (by kernel_rfl) (by kernel_rfl) (by kernel_rfl) (by kernel_rfl) (by kernel_rfl) (by kernel_rfl) (by kernel_rfl) (by kernel_rfl) (by kernel_rfl) hs (AppendW.mono h (fun long2 w7 h => ?_))
       refine Zf P1 [(0, .pointer b_), (2, .int .i64 i), (3, pv_ b_1), (4, sv_ long2), (5, .int .i64 k_)] ?_
       change WpE _ _ c64_37 _ _ _
       refine Zr r64_37 ?_
       refine Zf P3 [(0, .pointer b_), (2, .int .i64 i), (3, pv_ b_1), (4, sv_ long2), (5, .int .i64 (IntKind.i64.wrap (k_ + 1)))] ?_
       have hb_ := again_1_h _ _ _ h
       exact ⟨_, hb_.2, [(0, Value.pointer b_), (2, Value.int .i64 i), (3, pv_ b_1), (4, sv_ long2), (5, Value.int .i64 (IntKind.i64.wrap (k_ + 1)))], Sub.mk (by kernel_rfl), long2, (IntKind.i64.wrap (k_ + 1)), rfl, hb_.1, rfl⟩
     · replace h := h.2 hb
       refine wpE_exit (id := 2) (by kernel_rfl) ?_
       change WpE _ _ c64_39 _ _ _
       refine Zr r64_39 ?_
       refine Zn P1 1 [(0, [], .pointer b_), (2, [], .int .i64 i), (4, [], sv_ long1), (34, [], .pointer b_)] ?_
       obtain ⟨hp_14, h⟩ := h
       refine Zv (fun pp => [(0, [], .pointer b_), (2, [], .int .i64 i), (4, [], sv_ long1), (34, [], .pointer pp)]) hp_14 ?_
       refine Zn P1 2 [(0, [], .pointer b_), (2, [], .int .i64 i), (4, [], sv_ long1), (34, [], .pointer (some ⟨(pblk b_), (poff b_), none⟩)), (35, [], .pointer (some ⟨(pblk b_), (poff b_), none⟩))] ?_
       refine Zn P1 3 [(0, [], .pointer b_), (2, [], .int .i64 i), (4, [], sv_ long1), (36, [], .pointer (some ⟨(pblk b_), (poff b_) + 4, none⟩))] ?_
       obtain ⟨v37, hc, h⟩ := h
       refine Zl 38 36 (pblk b_) ((poff b_) + 4) 38 37 hc ?_
       refine Zn P2 6 [(0, [], .pointer b_), (2, [], .int .i64 i), (37, [], sv_ v37), (38, [], .int .i64 i), (39, [], sv_ long1)] ?_
       obtain ⟨hp_15, h⟩ := h
       refine Zv (fun pp => [(0, [], .pointer b_), (2, [], .int .i64 i), (37, [], .slice pp v37.len v37.cap), (38, [], .int .i64 i), (39, [], sv_ long1)]) hp_15 ?_
       obtain ⟨h0, h1, h⟩ := h
       refine Zj 38 153 37 38 (pblk v37.ptr) (poff v37.ptr) v37.len v37.cap i 3 40 0 h0 h1 ?_
       refine Zn P1 8 [(0, [], .pointer b_), (2, [], .int .i64 i), (39, [], sv_ long1), (41, [], .pointer (some ⟨(pblk v37.ptr), ((poff v37.ptr) + i.toNat * 3) + 1, none⟩))] ?_
       obtain ⟨hc, h⟩ := h
       refine Zo 50 41 39 (pblk v37.ptr) (((poff v37.ptr) + i.toNat * 3) + 1) 1 [sv_ long1] hc (fun w8 hw => ?_)
       replace h := h w8 hw
       clear hw
       refine Ze [(0, .pointer b_), (2, .int .i64 i)] ?_
       change WpE _ _ c64_41 _ _ _
       refine Zr r64_41 ?_
       refine Zf P3 [(0, .pointer b_), (2, .int .i64 (IntKind.i64.wrap (i + 1)))] ?_
       have hb_ := again__h _ _ h
       exact ⟨_, hb_.2, [(0, Value.pointer b_), (2, Value.int .i64 (IntKind.i64.wrap (i + 1)))], Sub.mk (by kernel_rfl), (IntKind.i64.wrap (i + 1)), rfl, hb_.1, rfl⟩
   · replace h := h.2 hb
     refine wpE_exit (id := 0) (by kernel_rfl) ?_
     repeat (first | refine seqQ_exit ?_ | refine loopQ_exit ?_ | refine cutQ_exit ?_ | refine blockQ_hit ?_ | refine blockQ_miss (by kernel_rfl) ?_)
     refine retQ_normal ?_
     repeat (first | refine seqQ_ret ?_ | refine blockQ_ret ?_ | refine loopQ_ret ?_ | refine cutQ_ret ?_)
     exact retT (rs := []) (vs := []) (by kernel_rfl) (trivial) (by kernel_rfl) ⟨rfl, h⟩
 · rintro e w' ⟨v, rfl, rfl, h⟩; exact ⟨rfl, h⟩

/-! ### (*towpath/towpathlaw01.Book).growEntry (function 65) -/
def c65_0 := cb_ Tryz.f65
def c65_3 := cr_ c65_0
def c65_4 := cl_ c65_3
def c65_5 := cl_ c65_4
def c65_6 := cl_ c65_5
def c65_7 := cl_ c65_6
def r65_7 := co_ c65_7
def c65_9 := cr_ c65_6
def c65_10 := cl_ c65_9
def c65_11 := cr_ c65_9
def c65_12 := cr_ c65_5

theorem S_towpathlaw01_Book_growEntry {b_ : Option Addr} {w : World} {R : World → Prop} (h : F_towpathlaw01_Book_growEntry b_ R w) : C_towpathlaw01_Book_growEntry b_ w R := by
 unfold F_towpathlaw01_Book_growEntry at h
 unfold C_towpathlaw01_Book_growEntry
 refine Calls.mono (calls_of_wpE (args := [Value.pointer b_]) (R := fun v w' => v = Value.tuple #[] ∧ R w') Tryz.func65 (c := c65_0) (by kernel_rfl) 42 (by kernel_rfl) (by kernel_rfl) [(0, Value.pointer b_)] (by kernel_rfl) ?_) ?_
 · refine Zp c65_3 P1 [(0, .pointer b_), (2, .int .i64 0)] ?_
   refine Zb 0 c65_4 ?_
   obtain ⟨I, μ, h0, hr⟩ := h
   refine wpE_loop (x := c65_5) (by kernel_rfl) (fun m l w => ∃ (i : Int), l = [(0, Value.pointer b_), (2, Value.int .i64 i)] ∧ I i w ∧ μ i w = m) (l' := [(0, Value.pointer b_), (2, Value.int .i64 0)]) (Sub.mk (by kernel_rfl)) ⟨0, rfl, h0, rfl⟩ ?_
   rintro _ _ w1 ⟨i, rfl, hI, rfl⟩
   obtain ⟨again_, again__h, h⟩ : ∃ again_ : Int → World → Prop, (∀ i' w', again_ i' w' → I i' w' ∧ μ i' w' < μ i w1) ∧ F_towpathlaw01_Book_growEntry_L0 b_ R again_ i w1 := ⟨_, fun _ _ h => h, hr i w1 hI⟩
   clear h0 hI
   unfold F_towpathlaw01_Book_growEntry_L0 at h
   refine Zs c65_6 c65_12 ?_
   refine Zt r65_7 c65_9 ?_
   refine Zn P2 2 [(0, [], .pointer b_), (2, [], .int .i64 i), (6, [], .int .i64 i), (7, [], .pointer b_)] ?_
   obtain ⟨hp_3, h⟩ := h
   refine Zv (fun pp => [(0, [], .pointer b_), (2, [], .int .i64 i), (6, [], .int .i64 i), (7, [], .pointer pp)]) hp_3 ?_
   refine Zn P1 3 [(0, [], .pointer b_), (2, [], .int .i64 i), (6, [], .int .i64 i), (7, [], .pointer (some ⟨(pblk b_), (poff b_), none⟩)), (8, [], .pointer (some ⟨(pblk b_), (poff b_), none⟩))] ?_
   refine Zn P1 4 [(0, [], .pointer b_), (2, [], .int .i64 i), (6, [], .int .i64 i), (9, [], .pointer (some ⟨(pblk b_), (poff b_) + 5, none⟩))] ?_
   obtain ⟨v10, hc, h⟩ := h
   refine Zl 39 9 (pblk b_) ((poff b_) + 5) 39 10 hc ?_
   refine Zf P2 [(0, .pointer b_), (2, .int .i64 i), (12, .bool (decide (i < ((v10.len : Nat) : Int))))] ?_
   change WpE _ _ c65_9 _ _ _
   refine Zc 12 (decide (i < ((v10.len : Nat) : Int))) c65_10 c65_11 (fun hb => ?_) (fun hb => ?_)
   · replace h := h.1 hb
     exact h.elim
   · replace h := h.2 hb
     refine wpE_exit (id := 0) (by kernel_rfl) ?_
     repeat (first | refine seqQ_exit ?_ | refine loopQ_exit ?_ | refine cutQ_exit ?_ | refine blockQ_hit ?_ | refine blockQ_miss (by kernel_rfl) ?_)
     refine retQ_normal ?_
     repeat (first | refine seqQ_ret ?_ | refine blockQ_ret ?_ | refine loopQ_ret ?_ | refine cutQ_ret ?_)
     exact retT (rs := []) (vs := []) (by kernel_rfl) (trivial) (by kernel_rfl) ⟨rfl, h⟩
 · rintro e w' ⟨v, rfl, rfl, h⟩; exact ⟨rfl, h⟩

/-! ### (*towpath/towpathlaw01.Book).growVersion (function 66) -/
def c66_0 := cb_ Tryz.f66
def c66_3 := cr_ c66_0
def c66_4 := cl_ c66_3
def c66_5 := cl_ c66_4
def c66_6 := cl_ c66_5
def c66_7 := cl_ c66_6
def r66_7 := co_ c66_7
def c66_9 := cr_ c66_6
def c66_10 := cl_ c66_9
def c66_11 := cr_ c66_9
def c66_12 := cr_ c66_5

theorem S_towpathlaw01_Book_growVersion {b_ : Option Addr} {w : World} {R : World → Prop} (h : F_towpathlaw01_Book_growVersion b_ R w) : C_towpathlaw01_Book_growVersion b_ w R := by
 unfold F_towpathlaw01_Book_growVersion at h
 unfold C_towpathlaw01_Book_growVersion
 refine Calls.mono (calls_of_wpE (args := [Value.pointer b_]) (R := fun v w' => v = Value.tuple #[] ∧ R w') Tryz.func66 (c := c66_0) (by kernel_rfl) 42 (by kernel_rfl) (by kernel_rfl) [(0, Value.pointer b_)] (by kernel_rfl) ?_) ?_
 · refine Zp c66_3 P1 [(0, .pointer b_), (2, .int .i64 0)] ?_
   refine Zb 0 c66_4 ?_
   obtain ⟨I, μ, h0, hr⟩ := h
   refine wpE_loop (x := c66_5) (by kernel_rfl) (fun m l w => ∃ (i : Int), l = [(0, Value.pointer b_), (2, Value.int .i64 i)] ∧ I i w ∧ μ i w = m) (l' := [(0, Value.pointer b_), (2, Value.int .i64 0)]) (Sub.mk (by kernel_rfl)) ⟨0, rfl, h0, rfl⟩ ?_
   rintro _ _ w1 ⟨i, rfl, hI, rfl⟩
   obtain ⟨again_, again__h, h⟩ : ∃ again_ : Int → World → Prop, (∀ i' w', again_ i' w' → I i' w' ∧ μ i' w' < μ i w1) ∧ F_towpathlaw01_Book_growVersion_L0 b_ R again_ i w1 := ⟨_, fun _ _ h => h, hr i w1 hI⟩
   clear h0 hI
   unfold F_towpathlaw01_Book_growVersion_L0 at h
   refine Zs c66_6 c66_12 ?_
   refine Zt r66_7 c66_9 ?_
   refine Zn P2 2 [(0, [], .pointer b_), (2, [], .int .i64 i), (6, [], .int .i64 i), (7, [], .pointer b_)] ?_
   obtain ⟨hp_3, h⟩ := h
   refine Zv (fun pp => [(0, [], .pointer b_), (2, [], .int .i64 i), (6, [], .int .i64 i), (7, [], .pointer pp)]) hp_3 ?_
   refine Zn P1 3 [(0, [], .pointer b_), (2, [], .int .i64 i), (6, [], .int .i64 i), (7, [], .pointer (some ⟨(pblk b_), (poff b_), none⟩)), (8, [], .pointer (some ⟨(pblk b_), (poff b_), none⟩))] ?_
   refine Zn P1 4 [(0, [], .pointer b_), (2, [], .int .i64 i), (6, [], .int .i64 i), (9, [], .pointer (some ⟨(pblk b_), (poff b_) + 6, none⟩))] ?_
   obtain ⟨v10, hc, h⟩ := h
   refine Zl 40 9 (pblk b_) ((poff b_) + 6) 40 10 hc ?_
   refine Zf P2 [(0, .pointer b_), (2, .int .i64 i), (12, .bool (decide (i < ((v10.len : Nat) : Int))))] ?_
   change WpE _ _ c66_9 _ _ _
   refine Zc 12 (decide (i < ((v10.len : Nat) : Int))) c66_10 c66_11 (fun hb => ?_) (fun hb => ?_)
   · replace h := h.1 hb
     exact h.elim
   · replace h := h.2 hb
     refine wpE_exit (id := 0) (by kernel_rfl) ?_
     repeat (first | refine seqQ_exit ?_ | refine loopQ_exit ?_ | refine cutQ_exit ?_ | refine blockQ_hit ?_ | refine blockQ_miss (by kernel_rfl) ?_)
     refine retQ_normal ?_
     repeat (first | refine seqQ_ret ?_ | refine blockQ_ret ?_ | refine loopQ_ret ?_ | refine cutQ_ret ?_)
     exact retT (rs := []) (vs := []) (by kernel_rfl) (trivial) (by kernel_rfl) ⟨rfl, h⟩
 · rintro e w' ⟨v, rfl, rfl, h⟩; exact ⟨rfl, h⟩

/-! ### (*towpath/towpathlaw01.Book).growTxn (function 67) -/
def c67_0 := cb_ Tryz.f67
def c67_3 := cr_ c67_0
def c67_4 := cl_ c67_3
def c67_5 := cl_ c67_4
def c67_6 := cl_ c67_5
def c67_7 := cl_ c67_6
def r67_7 := co_ c67_7
def c67_9 := cr_ c67_6
def c67_10 := cl_ c67_9
def c67_11 := cr_ c67_9
def c67_12 := cr_ c67_5
def c67_13 := cl_ c67_12
def c67_14 := cl_ c67_13
def c67_15 := cl_ c67_14
def r67_15 := co_ c67_15
def c67_17 := cr_ c67_14
def c67_18 := cl_ c67_17
def r67_18 := co_ c67_18
def c67_20 := cr_ c67_17
def c67_21 := cl_ c67_20
def c67_24 := cr_ c67_21
def c67_25 := cl_ c67_24
def c67_26 := cl_ c67_25
def c67_27 := cl_ c67_26
def c67_30 := cr_ c67_27
def c67_31 := cl_ c67_30
def c67_32 := cr_ c67_30
def c67_33 := cr_ c67_26
def c67_34 := cl_ c67_33
def c67_35 := cl_ c67_34
def r67_35 := co_ c67_35
def c67_37 := cr_ c67_33
def r67_37 := co_ c67_37
def c67_39 := cr_ c67_20
def r67_39 := co_ c67_39
def c67_41 := cr_ c67_12
def r67_41 := co_ c67_41

theorem S_towpathlaw01_Book_growTxn {b_ : Option Addr} {w : World} {R : World → Prop} (h : F_towpathlaw01_Book_growTxn b_ R w) : C_towpathlaw01_Book_growTxn b_ w R := by
 unfold F_towpathlaw01_Book_growTxn at h
 unfold C_towpathlaw01_Book_growTxn
 refine Calls.mono (calls_of_wpE (args := [Value.pointer b_]) (R := fun v w' => v = Value.tuple #[] ∧ R w') Tryz.func67 (c := c67_0) (by kernel_rfl) 42 (by kernel_rfl) (by kernel_rfl) [(0, Value.pointer b_)] (by kernel_rfl) ?_) ?_
 · refine Zp c67_3 P1 [(0, .pointer b_), (2, .int .i64 0)] ?_
   refine Zb 0 c67_4 ?_
   obtain ⟨I, μ, h0, hr⟩ := h
   refine wpE_loop (x := c67_5) (by kernel_rfl) (fun m l w => ∃ (i : Int), l = [(0, Value.pointer b_), (2, Value.int .i64 i)] ∧ I i w ∧ μ i w = m) (l' := [(0, Value.pointer b_), (2, Value.int .i64 0)]) (Sub.mk (by kernel_rfl)) ⟨0, rfl, h0, rfl⟩ ?_
   rintro _ _ w1 ⟨i, rfl, hI, rfl⟩
   obtain ⟨again_, again__h, h⟩ : ∃ again_ : Int → World → Prop, (∀ i' w', again_ i' w' → I i' w' ∧ μ i' w' < μ i w1) ∧ F_towpathlaw01_Book_growTxn_L0 b_ R again_ i w1 := ⟨_, fun _ _ h => h, hr i w1 hI⟩
   clear h0 hI
   unfold F_towpathlaw01_Book_growTxn_L0 at h
   refine Zs c67_6 c67_12 ?_
   refine Zt r67_7 c67_9 ?_
   refine Zn P2 2 [(0, [], .pointer b_), (2, [], .int .i64 i), (6, [], .int .i64 i), (7, [], .pointer b_)] ?_
   obtain ⟨hp_3, h⟩ := h
   refine Zv (fun pp => [(0, [], .pointer b_), (2, [], .int .i64 i), (6, [], .int .i64 i), (7, [], .pointer pp)]) hp_3 ?_
   refine Zn P1 3 [(0, [], .pointer b_), (2, [], .int .i64 i), (6, [], .int .i64 i), (7, [], .pointer (some ⟨(pblk b_), (poff b_), none⟩)), (8, [], .pointer (some ⟨(pblk b_), (poff b_), none⟩))] ?_
   refine Zn P1 4 [(0, [], .pointer b_), (2, [], .int .i64 i), (6, [], .int .i64 i), (9, [], .pointer (some ⟨(pblk b_), (poff b_) + 7, none⟩))] ?_
   obtain ⟨v10, hc, h⟩ := h
   refine Zl 41 9 (pblk b_) ((poff b_) + 7) 41 10 hc ?_
   refine Zf P2 [(0, .pointer b_), (2, .int .i64 i), (12, .bool (decide (i < ((v10.len : Nat) : Int))))] ?_
   change WpE _ _ c67_9 _ _ _
   refine Zc 12 (decide (i < ((v10.len : Nat) : Int))) c67_10 c67_11 (fun hb => ?_) (fun hb => ?_)
   · replace h := h.1 hb
     refine wpE_skip (by kernel_rfl) ?_
     change WpE _ _ c67_12 _ _ _
     refine Zs c67_13 c67_41 ?_
     refine Zb 1 c67_14 ?_
     refine Zt r67_15 c67_17 ?_
     refine Zn P1 1 [(0, [], .pointer b_), (2, [], .int .i64 i), (15, [], .pointer b_)] ?_
     obtain ⟨hp_12, h⟩ := h
     refine Zv (fun pp => [(0, [], .pointer b_), (2, [], .int .i64 i), (15, [], .pointer pp)]) hp_12 ?_
     refine Zn P1 2 [(0, [], .pointer b_), (2, [], .int .i64 i), (15, [], .pointer (some ⟨(pblk b_), (poff b_), none⟩)), (16, [], .pointer (some ⟨(pblk b_), (poff b_), none⟩))] ?_
     refine Zn P1 3 [(0, [], .pointer b_), (2, [], .int .i64 i), (17, [], .pointer (some ⟨(pblk b_), (poff b_) + 7, none⟩))] ?_
     obtain ⟨v18, hc, h⟩ := h
     refine Zl 41 17 (pblk b_) ((poff b_) + 7) 41 18 hc ?_
     refine Zn P1 5 [(0, [], .pointer b_), (2, [], .int .i64 i), (18, [], sv_ v18), (19, [], .int .i64 i)] ?_
     obtain ⟨hp_13, h⟩ := h
     refine Zv (fun pp => [(0, [], .pointer b_), (2, [], .int .i64 i), (18, [], .slice pp v18.len v18.cap), (19, [], .int .i64 i)]) hp_13 ?_
     obtain ⟨h0, h1, h⟩ := h
     refine Zj 41 141 18 19 (pblk v18.ptr) (poff v18.ptr) v18.len v18.cap i 3 20 0 h0 h1 ?_
     refine Zn [] 6 [(0, [], .pointer b_), (2, [], .int .i64 i), (20, [], .pointer (some ⟨(pblk v18.ptr), (poff v18.ptr) + i.toNat * 3, none⟩))] ?_
     obtain ⟨v21, hc, h⟩ := h
     refine reg_loadN (t := 141) (a := (Operand.tmp 20)) (b := (pblk v18.ptr)) (o := ((poff v18.ptr) + i.toNat * 3)) (ty := 141) (dst := some 21) [sv_ v21.l, sv_ v21.long, Value.int .i64 v21.n] (by kernel_rfl) (by kernel_rfl) (by kernel_rfl) (k := 3) (by kernel_rfl) (by kernel_rfl) hc ?_
     refine Zn [] 7 [(0, [], .pointer b_), (2, [], .int .i64 i), (21, [], .agg #[sv_ v21.l, sv_ v21.long, .int .i64 v21.n])] ?_
     refine Zw (some 3) (fun bb => pv_ bb) (Obj.cells ([.slice none 0 0, .slice none 0 0, .int .i64 0]).toArray ty_towpathlaw01_heldTxn (0, 0)) (fun b_1 w2 hb hw => ?_)
     replace h := h b_1 w2 hb hw
     clear hb hw
     refine Zn [] 8 [(0, [], .pointer b_), (2, [], .int .i64 i), (3, [], pv_ b_1), (21, [], .agg #[sv_ v21.l, sv_ v21.long, .int .i64 v21.n])] ?_
     obtain ⟨hc, h⟩ := h
     refine Zo 141 3 21 b_1 0 3 [sv_ v21.l, sv_ v21.long, .int .i64 v21.n] hc (fun w3 hw => ?_)
     replace h := h w3 hw
     clear hw
     refine Ze [(0, .pointer b_), (2, .int .i64 i), (3, pv_ b_1)] ?_
     change WpE _ _ c67_17 _ _ _
     refine Zt r67_18 c67_20 ?_
     refine Zn P1 1 [(0, [], .pointer b_), (2, [], .int .i64 i), (3, [], pv_ b_1), (22, [], pv_ b_1)] ?_
     obtain ⟨long, hc, h⟩ := h
     refine Zl 22 22 b_1 0 22 23 hc ?_
     refine Zf P1 [(0, .pointer b_), (2, .int .i64 i), (3, pv_ b_1), (4, sv_ long)] ?_
     change WpE _ _ c67_20 _ _ _
     refine Zs c67_21 c67_39 ?_
     refine Zp c67_24 P1 [(0, .pointer b_), (2, .int .i64 i), (3, pv_ b_1), (4, sv_ long), (5, .int .i64 0)] ?_
     refine Zb 2 c67_25 ?_
     obtain ⟨I, μ, h0, hr⟩ := h
     refine wpE_loop (x := c67_26) (by kernel_rfl) (fun m l w => ∃ (long1 : Slc) (k_ : Int), l = [(0, Value.pointer b_), (2, Value.int .i64 i), (3, pv_ b_1), (4, sv_ long1), (5, Value.int .i64 k_)] ∧ I long1 k_ w ∧ μ long1 k_ w = m) (l' := [(0, Value.pointer b_), (2, Value.int .i64 i), (3, pv_ b_1), (4, sv_ long), (5, Value.int .i64 0)]) (Sub.mk (by kernel_rfl)) ⟨long, 0, rfl, h0, rfl⟩ ?_
     rintro _ _ w4 ⟨long1, k_, rfl, hI, rfl⟩
     obtain ⟨again_1, again_1_h, h⟩ : ∃ again_1 : Slc → Int → World → Prop, (∀ long1' k_' w', again_1 long1' k_' w' → I long1' k_' w' ∧ μ long1' k_' w' < μ long1 k_ w4) ∧ F_towpathlaw01_Book_growTxn_L1 b_ i again_ b_1 again_1 long1 k_ w4 := ⟨_, fun _ _ _ h => h, hr long1 k_ w4 hI⟩
     clear h0 hI
     unfold F_towpathlaw01_Book_growTxn_L1 at h
     refine Zs c67_27 c67_33 ?_
     refine Zp c67_30 P2 [(0, .pointer b_), (2, .int .i64 i), (3, pv_ b_1), (4, sv_ long1), (5, .int .i64 k_), (25, .bool (decide (k_ < 70)))] ?_
     refine Zc 25 (decide (k_ < 70)) c67_31 c67_32 (fun hb => ?_) (fun hb => ?_)
     · replace h := h.1 hb
       refine wpE_skip (by kernel_rfl) ?_
       change WpE _ _ c67_33 _ _ _
       refine Zs c67_34 c67_37 ?_
       refine Zb 3 c67_35 ?_
       refine Zr r67_35 ?_
       refine Zn P2 2 [(0, [], .pointer b_), (2, [], .int .i64 i), (3, [], pv_ b_1), (4, [], sv_ long1), (5, [], .int .i64 k_), (28, [], sv_ long1), (29, [], .pointer (some ⟨b_1, 2, none⟩))] ?_
       obtain ⟨v30, hc, h⟩ := h
       refine Zl 3 29 b_1 2 3 30 hc ?_
       refine Zn [] 3 [(0, [], .pointer b_), (2, [], .int .i64 i), (3, [], pv_ b_1), (4, [], sv_ long1), (5, [], .int .i64 k_), (28, [], sv_ long1), (30, [], .int .i64 v30)] ?_
       refine Zm 131 #[.int .i64 v30] (some 31) (Calls.mono h ?_)
       rintro _ w5 ⟨v31, rfl, h⟩
       refine ⟨_, rfl, ?_⟩
       refine Zn [] 4 [(0, [], .pointer b_), (2, [], .int .i64 i), (3, [], pv_ b_1), (4, [], sv_ long1), (5, [], .int .i64 k_), (28, [], sv_ long1), (31, [], .agg #[.int .i64 v31.Number, sv_ v31.Writes])] ?_
       refine Zw (some 32) (fun bb => .slice (some ⟨bb, 0, none⟩) 1 1) (Obj.cells ([.int .i64 v31.Number, sv_ v31.Writes]).toArray ty_api_Txn (0, 0)) (fun b_2 w6 hb hw => ?_)
       replace h := h b_2 w6 hb hw
       clear hb hw
       refine Zn [] 5 [(0, [], .pointer b_), (2, [], .int .i64 i), (3, [], pv_ b_1), (4, [], sv_ long1), (5, [], .int .i64 k_), (28, [], sv_ long1), (32, [], .slice (some ⟨b_2, 0, none⟩) 1 1)] ?_
       obtain ⟨src, hs, h⟩ := h
       refine reg_append (t := 22) (tx := 22) (e := 52) (a := (Operand.tmp 28)) (xo := (Operand.tmp 32)) (s := long1) (x := (Slc.mk (some ⟨b_2, 0, none⟩) 1 1)) (sz := 2) (by_ := 32) (zs := [Value.int .i64 0, Value.slice none 0 0]) (ty := 22) (dst := some 33)  src (by kernel_rfl) (by kernel_rfl) (by kernel_rfl) (by kernel_rfl) (by kernel_rfl) (by kernel_rfl) (by kernel_rfl) (by kernel_rfl) (by kernel_rfl) hs (AppendW.mono h (fun long2 w7 h => ?_))
       refine Zf P1 [(0, .pointer b_), (2, .int .i64 i), (3, pv_ b_1), (4, sv_ long2), (5, .int .i64 k_)] ?_
       change WpE _ _ c67_37 _ _ _
       refine Zr r67_37 ?_
       refine Zf P3 [(0, .pointer b_), (2, .int .i64 i), (3, pv_ b_1), (4, sv_ long2), (5, .int .i64 (IntKind.i64.wrap (k_ + 1)))] ?_
       have hb_ := again_1_h _ _ _ h
       exact ⟨_, hb_.2, [(0, Value.pointer b_), (2, Value.int .i64 i), (3, pv_ b_1), (4, sv_ long2), (5, Value.int .i64 (IntKind.i64.wrap (k_ + 1)))], Sub.mk (by kernel_rfl), long2, (IntKind.i64.wrap (k_ + 1)), rfl, hb_.1, rfl⟩
     · replace h := h.2 hb
       refine wpE_exit (id := 2) (by kernel_rfl) ?_
       change WpE _ _ c67_39 _ _ _
       refine Zr r67_39 ?_
       refine Zn P1 1 [(0, [], .pointer b_), (2, [], .int .i64 i), (4, [], sv_ long1), (34, [], .pointer b_)] ?_
       obtain ⟨hp_14, h⟩ := h
       refine Zv (fun pp => [(0, [], .pointer b_), (2, [], .int .i64 i), (4, [], sv_ long1), (34, [], .pointer pp)]) hp_14 ?_
       refine Zn P1 2 [(0, [], .pointer b_), (2, [], .int .i64 i), (4, [], sv_ long1), (34, [], .pointer (some ⟨(pblk b_), (poff b_), none⟩)), (35, [], .pointer (some ⟨(pblk b_), (poff b_), none⟩))] ?_
       refine Zn P1 3 [(0, [], .pointer b_), (2, [], .int .i64 i), (4, [], sv_ long1), (36, [], .pointer (some ⟨(pblk b_), (poff b_) + 7, none⟩))] ?_
       obtain ⟨v37, hc, h⟩ := h
       refine Zl 41 36 (pblk b_) ((poff b_) + 7) 41 37 hc ?_
       refine Zn P2 6 [(0, [], .pointer b_), (2, [], .int .i64 i), (37, [], sv_ v37), (38, [], .int .i64 i), (39, [], sv_ long1)] ?_
       obtain ⟨hp_15, h⟩ := h
       refine Zv (fun pp => [(0, [], .pointer b_), (2, [], .int .i64 i), (37, [], .slice pp v37.len v37.cap), (38, [], .int .i64 i), (39, [], sv_ long1)]) hp_15 ?_
       obtain ⟨h0, h1, h⟩ := h
       refine Zj 41 141 37 38 (pblk v37.ptr) (poff v37.ptr) v37.len v37.cap i 3 40 0 h0 h1 ?_
       refine Zn P1 8 [(0, [], .pointer b_), (2, [], .int .i64 i), (39, [], sv_ long1), (41, [], .pointer (some ⟨(pblk v37.ptr), ((poff v37.ptr) + i.toNat * 3) + 1, none⟩))] ?_
       obtain ⟨hc, h⟩ := h
       refine Zo 22 41 39 (pblk v37.ptr) (((poff v37.ptr) + i.toNat * 3) + 1) 1 [sv_ long1] hc (fun w8 hw => ?_)
       replace h := h w8 hw
       clear hw
       refine Ze [(0, .pointer b_), (2, .int .i64 i)] ?_
       change WpE _ _ c67_41 _ _ _
       refine Zr r67_41 ?_
       refine Zf P3 [(0, .pointer b_), (2, .int .i64 (IntKind.i64.wrap (i + 1)))] ?_
       have hb_ := again__h _ _ h
       exact ⟨_, hb_.2, [(0, Value.pointer b_), (2, Value.int .i64 (IntKind.i64.wrap (i + 1)))], Sub.mk (by kernel_rfl), (IntKind.i64.wrap (i + 1)), rfl, hb_.1, rfl⟩
   · replace h := h.2 hb
     refine wpE_exit (id := 0) (by kernel_rfl) ?_
     repeat (first | refine seqQ_exit ?_ | refine loopQ_exit ?_ | refine cutQ_exit ?_ | refine blockQ_hit ?_ | refine blockQ_miss (by kernel_rfl) ?_)
     refine retQ_normal ?_
     repeat (first | refine seqQ_ret ?_ | refine blockQ_ret ?_ | refine loopQ_ret ?_ | refine cutQ_ret ?_)
     exact retT (rs := []) (vs := []) (by kernel_rfl) (trivial) (by kernel_rfl) ⟨rfl, h⟩
 · rintro e w' ⟨v, rfl, rfl, h⟩; exact ⟨rfl, h⟩

/-! ### (*towpath/towpathlaw01.Book).growHeld (function 68) -/
def c68_0 := cb_ Tryz.f68
def c68_3 := cr_ c68_0
def c68_4 := cl_ c68_3
def c68_5 := cl_ c68_4
def c68_6 := cl_ c68_5
def c68_7 := cl_ c68_6
def r68_7 := co_ c68_7
def c68_9 := cr_ c68_6
def c68_10 := cl_ c68_9
def c68_11 := cr_ c68_9
def c68_12 := cr_ c68_5

theorem S_towpathlaw01_Book_growHeld {b_ : Option Addr} {w : World} {R : World → Prop} (h : F_towpathlaw01_Book_growHeld b_ R w) : C_towpathlaw01_Book_growHeld b_ w R := by
 unfold F_towpathlaw01_Book_growHeld at h
 unfold C_towpathlaw01_Book_growHeld
 refine Calls.mono (calls_of_wpE (args := [Value.pointer b_]) (R := fun v w' => v = Value.tuple #[] ∧ R w') Tryz.func68 (c := c68_0) (by kernel_rfl) 42 (by kernel_rfl) (by kernel_rfl) [(0, Value.pointer b_)] (by kernel_rfl) ?_) ?_
 · refine Zp c68_3 P1 [(0, .pointer b_), (2, .int .i64 0)] ?_
   refine Zb 0 c68_4 ?_
   obtain ⟨I, μ, h0, hr⟩ := h
   refine wpE_loop (x := c68_5) (by kernel_rfl) (fun m l w => ∃ (i : Int), l = [(0, Value.pointer b_), (2, Value.int .i64 i)] ∧ I i w ∧ μ i w = m) (l' := [(0, Value.pointer b_), (2, Value.int .i64 0)]) (Sub.mk (by kernel_rfl)) ⟨0, rfl, h0, rfl⟩ ?_
   rintro _ _ w1 ⟨i, rfl, hI, rfl⟩
   obtain ⟨again_, again__h, h⟩ : ∃ again_ : Int → World → Prop, (∀ i' w', again_ i' w' → I i' w' ∧ μ i' w' < μ i w1) ∧ F_towpathlaw01_Book_growHeld_L0 b_ R again_ i w1 := ⟨_, fun _ _ h => h, hr i w1 hI⟩
   clear h0 hI
   unfold F_towpathlaw01_Book_growHeld_L0 at h
   refine Zs c68_6 c68_12 ?_
   refine Zt r68_7 c68_9 ?_
   refine Zn P2 2 [(0, [], .pointer b_), (2, [], .int .i64 i), (6, [], .int .i64 i), (7, [], .pointer b_)] ?_
   obtain ⟨hp_3, h⟩ := h
   refine Zv (fun pp => [(0, [], .pointer b_), (2, [], .int .i64 i), (6, [], .int .i64 i), (7, [], .pointer pp)]) hp_3 ?_
   refine Zn P1 3 [(0, [], .pointer b_), (2, [], .int .i64 i), (6, [], .int .i64 i), (7, [], .pointer (some ⟨(pblk b_), (poff b_), none⟩)), (8, [], .pointer (some ⟨(pblk b_), (poff b_), none⟩))] ?_
   refine Zn P1 4 [(0, [], .pointer b_), (2, [], .int .i64 i), (6, [], .int .i64 i), (9, [], .pointer (some ⟨(pblk b_), (poff b_) + 8, none⟩))] ?_
   obtain ⟨v10, hc, h⟩ := h
   refine Zl 42 9 (pblk b_) ((poff b_) + 8) 42 10 hc ?_
   refine Zf P2 [(0, .pointer b_), (2, .int .i64 i), (12, .bool (decide (i < ((v10.len : Nat) : Int))))] ?_
   change WpE _ _ c68_9 _ _ _
   refine Zc 12 (decide (i < ((v10.len : Nat) : Int))) c68_10 c68_11 (fun hb => ?_) (fun hb => ?_)
   · replace h := h.1 hb
     exact h.elim
   · replace h := h.2 hb
     refine wpE_exit (id := 0) (by kernel_rfl) ?_
     repeat (first | refine seqQ_exit ?_ | refine loopQ_exit ?_ | refine cutQ_exit ?_ | refine blockQ_hit ?_ | refine blockQ_miss (by kernel_rfl) ?_)
     refine retQ_normal ?_
     repeat (first | refine seqQ_ret ?_ | refine blockQ_ret ?_ | refine loopQ_ret ?_ | refine cutQ_ret ?_)
     exact retT (rs := []) (vs := []) (by kernel_rfl) (trivial) (by kernel_rfl) ⟨rfl, h⟩
 · rintro e w' ⟨v, rfl, rfl, h⟩; exact ⟨rfl, h⟩

/-! ### (*towpath/towpathlaw01.Book).growHeldList (function 69) -/
def c69_0 := cb_ Tryz.f69
def c69_3 := cr_ c69_0
def c69_4 := cl_ c69_3
def c69_5 := cl_ c69_4
def c69_6 := cl_ c69_5
def c69_7 := cl_ c69_6
def r69_7 := co_ c69_7
def c69_9 := cr_ c69_6
def c69_10 := cl_ c69_9
def c69_11 := cr_ c69_9
def c69_12 := cr_ c69_5

theorem S_towpathlaw01_Book_growHeldList {b_ : Option Addr} {w : World} {R : World → Prop} (h : F_towpathlaw01_Book_growHeldList b_ R w) : C_towpathlaw01_Book_growHeldList b_ w R := by
 unfold F_towpathlaw01_Book_growHeldList at h
 unfold C_towpathlaw01_Book_growHeldList
 refine Calls.mono (calls_of_wpE (args := [Value.pointer b_]) (R := fun v w' => v = Value.tuple #[] ∧ R w') Tryz.func69 (c := c69_0) (by kernel_rfl) 42 (by kernel_rfl) (by kernel_rfl) [(0, Value.pointer b_)] (by kernel_rfl) ?_) ?_
 · refine Zp c69_3 P1 [(0, .pointer b_), (2, .int .i64 0)] ?_
   refine Zb 0 c69_4 ?_
   obtain ⟨I, μ, h0, hr⟩ := h
   refine wpE_loop (x := c69_5) (by kernel_rfl) (fun m l w => ∃ (i : Int), l = [(0, Value.pointer b_), (2, Value.int .i64 i)] ∧ I i w ∧ μ i w = m) (l' := [(0, Value.pointer b_), (2, Value.int .i64 0)]) (Sub.mk (by kernel_rfl)) ⟨0, rfl, h0, rfl⟩ ?_
   rintro _ _ w1 ⟨i, rfl, hI, rfl⟩
   obtain ⟨again_, again__h, h⟩ : ∃ again_ : Int → World → Prop, (∀ i' w', again_ i' w' → I i' w' ∧ μ i' w' < μ i w1) ∧ F_towpathlaw01_Book_growHeldList_L0 b_ R again_ i w1 := ⟨_, fun _ _ h => h, hr i w1 hI⟩
   clear h0 hI
   unfold F_towpathlaw01_Book_growHeldList_L0 at h
   refine Zs c69_6 c69_12 ?_
   refine Zt r69_7 c69_9 ?_
   refine Zn P2 2 [(0, [], .pointer b_), (2, [], .int .i64 i), (6, [], .int .i64 i), (7, [], .pointer b_)] ?_
   obtain ⟨hp_3, h⟩ := h
   refine Zv (fun pp => [(0, [], .pointer b_), (2, [], .int .i64 i), (6, [], .int .i64 i), (7, [], .pointer pp)]) hp_3 ?_
   refine Zn P1 3 [(0, [], .pointer b_), (2, [], .int .i64 i), (6, [], .int .i64 i), (7, [], .pointer (some ⟨(pblk b_), (poff b_), none⟩)), (8, [], .pointer (some ⟨(pblk b_), (poff b_), none⟩))] ?_
   refine Zn P1 4 [(0, [], .pointer b_), (2, [], .int .i64 i), (6, [], .int .i64 i), (9, [], .pointer (some ⟨(pblk b_), (poff b_) + 9, none⟩))] ?_
   obtain ⟨v10, hc, h⟩ := h
   refine Zl 43 9 (pblk b_) ((poff b_) + 9) 43 10 hc ?_
   refine Zf P2 [(0, .pointer b_), (2, .int .i64 i), (12, .bool (decide (i < ((v10.len : Nat) : Int))))] ?_
   change WpE _ _ c69_9 _ _ _
   refine Zc 12 (decide (i < ((v10.len : Nat) : Int))) c69_10 c69_11 (fun hb => ?_) (fun hb => ?_)
   · replace h := h.1 hb
     exact h.elim
   · replace h := h.2 hb
     refine wpE_exit (id := 0) (by kernel_rfl) ?_
     repeat (first | refine seqQ_exit ?_ | refine loopQ_exit ?_ | refine cutQ_exit ?_ | refine blockQ_hit ?_ | refine blockQ_miss (by kernel_rfl) ?_)
     refine retQ_normal ?_
     repeat (first | refine seqQ_ret ?_ | refine blockQ_ret ?_ | refine loopQ_ret ?_ | refine cutQ_ret ?_)
     exact retT (rs := []) (vs := []) (by kernel_rfl) (trivial) (by kernel_rfl) ⟨rfl, h⟩
 · rintro e w' ⟨v, rfl, rfl, h⟩; exact ⟨rfl, h⟩
end
end Go.Proofs.YtpdegdnigcnjiaaGreatDoor
