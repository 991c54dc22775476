/- WRITTEN BY PROGRAM (dec.py): for each Go function the clean formula F, the call's contract C, and the proof S that F gives C. -/
import Derived.Test.YtpdegdnigcnjiaaGreatDoorRows
import Derived.Test.YtpdegdnigcnjiaaGreatDoorGF
namespace Go.Proofs.YtpdegdnigcnjiaaGreatDoor
open Go
set_option linter.unusedVariables false
set_option maxRecDepth 100000
set_option maxHeartbeats 4000000
noncomputable section

/-! ### (*towpath/towpathlaw01.Book).fillByte (function 50) -/
def c50_0 := cb_ Tryz.f50
def c50_3 := cr_ c50_0
def c50_4 := cl_ c50_3
def c50_5 := cl_ c50_4
def c50_6 := cl_ c50_5
def c50_7 := cl_ c50_6
def r50_7 := co_ c50_7
def c50_9 := cr_ c50_6
def c50_10 := cl_ c50_9
def c50_11 := cr_ c50_9
def c50_12 := cr_ c50_5
def c50_13 := cl_ c50_12
def c50_14 := cl_ c50_13
def c50_15 := cl_ c50_14
def r50_15 := co_ c50_15
def c50_17 := cr_ c50_14
def c50_20 := cr_ c50_17
def c50_21 := cl_ c50_20
def c50_22 := cl_ c50_21
def c50_23 := cl_ c50_22
def c50_24 := cl_ c50_23
def r50_24 := co_ c50_24
def c50_26 := cr_ c50_23
def c50_27 := cl_ c50_26
def c50_28 := cr_ c50_26
def c50_29 := cr_ c50_22
def c50_30 := cl_ c50_29
def c50_31 := cl_ c50_30
def r50_31 := co_ c50_31
def c50_33 := cr_ c50_29
def r50_33 := co_ c50_33
def c50_35 := cr_ c50_12
def r50_35 := co_ c50_35
def o_towpathlaw01_Book_fillByte_31 : List Nat := [0, 1, 2, 3, 4, 5, 6, 7]

theorem S_towpathlaw01_Book_fillByte {b_ : Option Addr} {w : World} {R : World → Prop} (h : F_towpathlaw01_Book_fillByte b_ R w) : C_towpathlaw01_Book_fillByte b_ w R := by
 unfold F_towpathlaw01_Book_fillByte at h
 unfold C_towpathlaw01_Book_fillByte
 refine Calls.mono (calls_of_wpE (args := [Value.pointer b_]) (R := fun v w' => v = Value.tuple #[] ∧ R w') Tryz.func50 (c := c50_0) (by kernel_rfl) 35 (by kernel_rfl) (by kernel_rfl) [(0, Value.pointer b_)] (by kernel_rfl) ?_) ?_
 · refine Zp c50_3 P1 [(0, .pointer b_), (2, .int .i64 0)] ?_
   refine Zb 0 c50_4 ?_
   obtain ⟨I, μ, h0, hr⟩ := h
   refine wpE_loop (x := c50_5) (by kernel_rfl) (fun m l w => ∃ (i : Int), l = [(0, Value.pointer b_), (2, Value.int .i64 i)] ∧ I i w ∧ μ i w = m) (l' := [(0, Value.pointer b_), (2, Value.int .i64 0)]) (Sub.mk (by kernel_rfl)) ⟨0, rfl, h0, rfl⟩ ?_
   rintro _ _ w1 ⟨i, rfl, hI, rfl⟩
   obtain ⟨again_, again__h, h⟩ : ∃ again_ : Int → World → Prop, (∀ i' w', again_ i' w' → I i' w' ∧ μ i' w' < μ i w1) ∧ F_towpathlaw01_Book_fillByte_L0 b_ R again_ i w1 := ⟨_, fun _ _ h => h, hr i w1 hI⟩
   clear h0 hI
   unfold F_towpathlaw01_Book_fillByte_L0 at h
   refine Zs c50_6 c50_12 ?_
   refine Zt r50_7 c50_9 ?_
   refine Zn P2 2 [(0, [], .pointer b_), (2, [], .int .i64 i), (5, [], .int .i64 i), (6, [], .pointer b_)] ?_
   obtain ⟨hp_3, h⟩ := h
   refine Zv (fun pp => [(0, [], .pointer b_), (2, [], .int .i64 i), (5, [], .int .i64 i), (6, [], .pointer pp)]) hp_3 ?_
   refine Zn P1 3 [(0, [], .pointer b_), (2, [], .int .i64 i), (5, [], .int .i64 i), (6, [], .pointer (some ⟨(pblk b_), (poff b_), none⟩)), (7, [], .pointer (some ⟨(pblk b_), (poff b_), none⟩))] ?_
   refine Zn P1 4 [(0, [], .pointer b_), (2, [], .int .i64 i), (5, [], .int .i64 i), (8, [], .pointer (some ⟨(pblk b_), (poff b_) + 1, none⟩))] ?_
   obtain ⟨v9, hc, h⟩ := h
   refine Zl 35 8 (pblk b_) ((poff b_) + 1) 35 9 hc ?_
   refine Zf P2 [(0, .pointer b_), (2, .int .i64 i), (11, .bool (decide (i < ((v9.len : Nat) : Int))))] ?_
   change WpE _ _ c50_9 _ _ _
   refine Zc 11 (decide (i < ((v9.len : Nat) : Int))) c50_10 c50_11 (fun hb => ?_) (fun hb => ?_)
   · replace h := h.1 hb
     refine wpE_skip (by kernel_rfl) ?_
     change WpE _ _ c50_12 _ _ _
     refine Zs c50_13 c50_35 ?_
     refine Zb 1 c50_14 ?_
     refine Zt r50_15 c50_17 ?_
     refine Zn P1 1 [(0, [], .pointer b_), (2, [], .int .i64 i), (14, [], .pointer b_)] ?_
     obtain ⟨hp_12, h⟩ := h
     refine Zv (fun pp => [(0, [], .pointer b_), (2, [], .int .i64 i), (14, [], .pointer pp)]) hp_12 ?_
     refine Zn P1 2 [(0, [], .pointer b_), (2, [], .int .i64 i), (14, [], .pointer (some ⟨(pblk b_), (poff b_), none⟩)), (15, [], .pointer (some ⟨(pblk b_), (poff b_), none⟩))] ?_
     refine Zn P1 3 [(0, [], .pointer b_), (2, [], .int .i64 i), (16, [], .pointer (some ⟨(pblk b_), (poff b_) + 1, none⟩))] ?_
     obtain ⟨v17, hc, h⟩ := h
     refine Zl 35 16 (pblk b_) ((poff b_) + 1) 35 17 hc ?_
     refine Zn P1 5 [(0, [], .pointer b_), (2, [], .int .i64 i), (17, [], sv_ v17), (18, [], .int .i64 i)] ?_
     obtain ⟨hp_13, h⟩ := h
     refine Zv (fun pp => [(0, [], .pointer b_), (2, [], .int .i64 i), (17, [], .slice pp v17.len v17.cap), (18, [], .int .i64 i)]) hp_13 ?_
     obtain ⟨h0, h1, h⟩ := h
     refine Zj 35 143 17 18 (pblk v17.ptr) (poff v17.ptr) v17.len v17.cap i 3 19 0 h0 h1 ?_
     refine Zn [] 6 [(0, [], .pointer b_), (2, [], .int .i64 i), (19, [], .pointer (some ⟨(pblk v17.ptr), (poff v17.ptr) + i.toNat * 3, none⟩))] ?_
     obtain ⟨v20, hc, h⟩ := h
     refine reg_loadN (t := 143) (a := (Operand.tmp 19)) (b := (pblk v17.ptr)) (o := ((poff v17.ptr) + i.toNat * 3)) (ty := 143) (dst := some 20) [sv_ v20.l, sv_ v20.long, Value.int .i64 v20.n] (by kernel_rfl) (by kernel_rfl) (by kernel_rfl) (k := 3) (by kernel_rfl) (by kernel_rfl) hc ?_
     refine Zn [] 7 [(0, [], .pointer b_), (2, [], .int .i64 i), (20, [], .agg #[sv_ v20.l, sv_ v20.long, .int .i64 v20.n])] ?_
     refine Zw (some 3) (fun bb => pv_ bb) (Obj.cells ([.slice none 0 0, .slice none 0 0, .int .i64 0]).toArray ty_towpathlaw01_heldByte (0, 0)) (fun b_1 w2 hb hw => ?_)
     replace h := h b_1 w2 hb hw
     clear hb hw
     refine Zn [] 8 [(0, [], .pointer b_), (2, [], .int .i64 i), (3, [], pv_ b_1), (20, [], .agg #[sv_ v20.l, sv_ v20.long, .int .i64 v20.n])] ?_
     obtain ⟨hc, h⟩ := h
     refine Zo 143 3 20 b_1 0 3 [sv_ v20.l, sv_ v20.long, .int .i64 v20.n] hc (fun w3 hw => ?_)
     replace h := h w3 hw
     clear hw
     refine Ze [(0, .pointer b_), (2, .int .i64 i), (3, pv_ b_1)] ?_
     change WpE _ _ c50_17 _ _ _
     refine Zp c50_20 P1 [(0, .pointer b_), (2, .int .i64 i), (3, pv_ b_1), (4, .int .i64 0)] ?_
     refine Zb 2 c50_21 ?_
     obtain ⟨I, μ, h0, hr⟩ := h
     refine wpE_loop (x := c50_22) (by kernel_rfl) (fun m l w => ∃ (k : Int), l = [(0, Value.pointer b_), (2, Value.int .i64 i), (3, pv_ b_1), (4, Value.int .i64 k)] ∧ I k w ∧ μ k w = m) (l' := [(0, Value.pointer b_), (2, Value.int .i64 i), (3, pv_ b_1), (4, Value.int .i64 0)]) (Sub.mk (by kernel_rfl)) ⟨0, rfl, h0, rfl⟩ ?_
     rintro _ _ w4 ⟨k, rfl, hI, rfl⟩
     obtain ⟨again_1, again_1_h, h⟩ : ∃ again_1 : Int → World → Prop, (∀ k' w', again_1 k' w' → I k' w' ∧ μ k' w' < μ k w4) ∧ F_towpathlaw01_Book_fillByte_L1 i again_ b_1 again_1 k w4 := ⟨_, fun _ _ h => h, hr k w4 hI⟩
     clear h0 hI
     unfold F_towpathlaw01_Book_fillByte_L1 at h
     refine Zs c50_23 c50_29 ?_
     refine Zt r50_24 c50_26 ?_
     refine Zn P2 2 [(0, [], .pointer b_), (2, [], .int .i64 i), (3, [], pv_ b_1), (4, [], .int .i64 k), (21, [], .int .i64 k), (22, [], pv_ b_1)] ?_
     obtain ⟨v23, hc, h⟩ := h
     refine Zl 79 22 b_1 0 79 23 hc ?_
     refine Zf P2 [(0, .pointer b_), (2, .int .i64 i), (3, pv_ b_1), (4, .int .i64 k), (25, .bool (decide (k < ((v23.len : Nat) : Int))))] ?_
     change WpE _ _ c50_26 _ _ _
     refine Zc 25 (decide (k < ((v23.len : Nat) : Int))) c50_27 c50_28 (fun hb => ?_) (fun hb => ?_)
     · replace h := h.1 hb
       refine wpE_skip (by kernel_rfl) ?_
       change WpE _ _ c50_29 _ _ _
       refine Zs c50_30 c50_33 ?_
       refine Zb 3 c50_31 ?_
       refine wpE_mixregion (id := 7) (ops := r50_31) o_towpathlaw01_Book_fillByte_31 (by kernel_rfl) (by kernel_rfl) (by kernel_rfl) (by kernel_rfl) (fun w5 hw => ?_)
       replace h := h w5 hw
       clear hw
       refine mreg_run P1 1 [(0, [], Value.pointer b_), (2, [], Value.int .i64 i), (3, [], pv_ b_1), (4, [], Value.int .i64 k), (28, [], pv_ b_1)] (by kernel_rfl) (by kernel_rfl) ?_
       obtain ⟨v29, hc, h⟩ := h
       refine mreg_load1 (i := 1) (by kernel_rfl) (t := 79) (a := (Operand.tmp 28)) (b := b_1) (o := 0) (ty := 79) (dst := some 29) (by kernel_rfl) (by kernel_rfl) (by kernel_rfl) hc ?_
       refine mreg_run P2 4 [(0, [], Value.pointer b_), (2, [], Value.int .i64 i), (3, [], pv_ b_1), (4, [], Value.int .i64 k), (29, [], sv_ v29), (30, [], Value.int .i64 k), (31, [], Value.pointer (some ⟨b_1, 2, none⟩))] (by kernel_rfl) (by kernel_rfl) ?_
       obtain ⟨v32, hc, h⟩ := h
       refine mreg_load1 (i := 4) (by kernel_rfl) (t := 3) (a := (Operand.tmp 31)) (b := b_1) (o := 2) (ty := 3) (dst := some 32) (by kernel_rfl) (by kernel_rfl) (by kernel_rfl) hc ?_
       refine mreg_run [] 5 [(0, [], Value.pointer b_), (2, [], Value.int .i64 i), (3, [], pv_ b_1), (4, [], Value.int .i64 k), (29, [], sv_ v29), (30, [], Value.int .i64 k), (32, [], Value.int .i64 v32)] (by kernel_rfl) (by kernel_rfl) ?_
       refine mreg_enter (op := (Op.call (Call.mk (Callee.value (Operand.func 125)) #[(Operand.tmp 32)] #[3]))) (ty := 5) (dst := some 33) 5 [4, 3] [(1, fun w' => w'.cell? ⟨b_1, 0, none⟩ = some (sv_ v29))] 125 #[Value.int .i64 v32] (by kernel_rfl) (by kernel_rfl) (by kernel_rfl) (by kernel_rfl) (by kernel_rfl) (fun ww => by kernel_rfl) (Calls.mono h ?_)
       rintro _ w6 ⟨v33, rfl, h⟩
       obtain ⟨hk0, h⟩ := h
       refine ⟨_, rfl, ⟨hk0, trivial⟩, ?_⟩
       refine mreg_run [] 6 [(0, [], Value.pointer b_), (2, [], Value.int .i64 i), (3, [], pv_ b_1), (4, [], Value.int .i64 k), (29, [], sv_ v29), (30, [], Value.int .i64 k), (33, [], Value.int .u8 v33)] (by kernel_rfl) (by kernel_rfl) ?_
       obtain ⟨hp_15, h⟩ := h
       refine mreg_conv [(0, [], Value.pointer b_), (2, [], Value.int .i64 i), (3, [], pv_ b_1), (4, [], Value.int .i64 k), (29, [], Value.slice (some ⟨(pblk v29.ptr), (poff v29.ptr), none⟩) v29.len v29.cap), (30, [], Value.int .i64 k), (33, [], Value.int .u8 v33)] (congrArg (fun pp => ([(0, [], Value.pointer b_), (2, [], Value.int .i64 i), (3, [], pv_ b_1), (4, [], Value.int .i64 k), (29, [], Value.slice pp v29.len v29.cap), (30, [], Value.int .i64 k), (33, [], Value.int .u8 v33)] : GEnv)) hp_15) ?_
       obtain ⟨h0, h1, h⟩ := h
       refine mreg_indexS1 (i := 6) (by kernel_rfl) (t := 79) (e := 5) (x := (Operand.tmp 29)) (ix := (Operand.tmp 30)) (b := (pblk v29.ptr)) (o := (poff v29.ptr)) (l := v29.len) (c := v29.cap) (k := .i64) (j := k) (ty := 0) (dst := some 34) (by kernel_rfl) (by kernel_rfl) (by kernel_rfl) (by kernel_rfl) (by kernel_rfl) h0 h1 ?_
       refine mreg_run [] 7 [(0, [], Value.pointer b_), (2, [], Value.int .i64 i), (3, [], pv_ b_1), (4, [], Value.int .i64 k), (33, [], Value.int .u8 v33), (34, [], Value.pointer (some ⟨(pblk v29.ptr), (poff v29.ptr) + k.toNat, none⟩))] (by kernel_rfl) (by kernel_rfl) ?_
       obtain ⟨hc, h⟩ := h
       refine mreg_store (t := 5) (a := (Operand.tmp 34)) (x := (Operand.tmp 33)) (b := (pblk v29.ptr)) (o := ((poff v29.ptr) + k.toNat)) (k := 1) (ty := 0) (dst := none) 7 [0, 1, 2, 3, 4, 5, 6] [] [Value.int .u8 v33] (by kernel_rfl) (by kernel_rfl) (by kernel_rfl) (by kernel_rfl) (by kernel_rfl) (by kernel_rfl) (by kernel_rfl) (by kernel_rfl) (by kernel_rfl) (by kernel_rfl) hc (fun w7 hw => ?_)
       replace h := h w7 hw
       clear hw
       refine ⟨trivial, ?_⟩
       refine mreg_end [(0, Value.pointer b_), (2, Value.int .i64 i), (3, pv_ b_1), (4, Value.int .i64 k)] (by kernel_rfl) (by kernel_rfl) (by kernel_rfl) ?_
       change WpE _ _ c50_33 _ _ _
       refine Zr r50_33 ?_
       refine Zf P3 [(0, .pointer b_), (2, .int .i64 i), (3, pv_ b_1), (4, .int .i64 (IntKind.i64.wrap (k + 1)))] ?_
       have hb_ := again_1_h _ _ h
       exact ⟨_, hb_.2, [(0, Value.pointer b_), (2, Value.int .i64 i), (3, pv_ b_1), (4, Value.int .i64 (IntKind.i64.wrap (k + 1)))], Sub.mk (by kernel_rfl), (IntKind.i64.wrap (k + 1)), rfl, hb_.1, rfl⟩
     · replace h := h.2 hb
       refine wpE_exit (id := 2) (by kernel_rfl) ?_
       change WpE _ _ c50_35 _ _ _
       refine Zr r50_35 ?_
       refine Zf P3 [(0, .pointer b_), (2, .int .i64 (IntKind.i64.wrap (i + 1)))] ?_
       have hb_ := again__h _ _ h
       exact ⟨_, hb_.2, [(0, Value.pointer b_), (2, Value.int .i64 (IntKind.i64.wrap (i + 1)))], Sub.mk (by kernel_rfl), (IntKind.i64.wrap (i + 1)), rfl, hb_.1, rfl⟩
   · replace h := h.2 hb
     refine wpE_exit (id := 0) (by kernel_rfl) ?_
     repeat (first | refine seqQ_exit ?_ | refine loopQ_exit ?_ | refine cutQ_exit ?_ | refine blockQ_hit ?_ | refine blockQ_miss (by kernel_rfl) ?_)
     refine retQ_normal ?_
     repeat (first | refine seqQ_ret ?_ | refine blockQ_ret ?_ | refine loopQ_ret ?_ | refine cutQ_ret ?_)
     exact retT (rs := []) (vs := []) (by kernel_rfl) (trivial) (by kernel_rfl) ⟨rfl, h⟩
 · rintro e w' ⟨v, rfl, rfl, h⟩; exact ⟨rfl, h⟩

/-! ### (*towpath/towpathlaw01.Book).fillInt (function 51) -/
def c51_0 := cb_ Tryz.f51
def c51_3 := cr_ c51_0
def c51_4 := cl_ c51_3
def c51_5 := cl_ c51_4
def c51_6 := cl_ c51_5
def c51_7 := cl_ c51_6
def r51_7 := co_ c51_7
def c51_9 := cr_ c51_6
def c51_10 := cl_ c51_9
def c51_11 := cr_ c51_9
def c51_12 := cr_ c51_5

theorem S_towpathlaw01_Book_fillInt {b_ : Option Addr} {w : World} {R : World → Prop} (h : F_towpathlaw01_Book_fillInt b_ R w) : C_towpathlaw01_Book_fillInt b_ w R := by
 unfold F_towpathlaw01_Book_fillInt at h
 unfold C_towpathlaw01_Book_fillInt
 refine Calls.mono (calls_of_wpE (args := [Value.pointer b_]) (R := fun v w' => v = Value.tuple #[] ∧ R w') Tryz.func51 (c := c51_0) (by kernel_rfl) 35 (by kernel_rfl) (by kernel_rfl) [(0, Value.pointer b_)] (by kernel_rfl) ?_) ?_
 · refine Zp c51_3 P1 [(0, .pointer b_), (2, .int .i64 0)] ?_
   refine Zb 0 c51_4 ?_
   obtain ⟨I, μ, h0, hr⟩ := h
   refine wpE_loop (x := c51_5) (by kernel_rfl) (fun m l w => ∃ (i : Int), l = [(0, Value.pointer b_), (2, Value.int .i64 i)] ∧ I i w ∧ μ i w = m) (l' := [(0, Value.pointer b_), (2, Value.int .i64 0)]) (Sub.mk (by kernel_rfl)) ⟨0, rfl, h0, rfl⟩ ?_
   rintro _ _ w1 ⟨i, rfl, hI, rfl⟩
   obtain ⟨again_, again__h, h⟩ : ∃ again_ : Int → World → Prop, (∀ i' w', again_ i' w' → I i' w' ∧ μ i' w' < μ i w1) ∧ F_towpathlaw01_Book_fillInt_L0 b_ R again_ i w1 := ⟨_, fun _ _ h => h, hr i w1 hI⟩
   clear h0 hI
   unfold F_towpathlaw01_Book_fillInt_L0 at h
   refine Zs c51_6 c51_12 ?_
   refine Zt r51_7 c51_9 ?_
   refine Zn P2 2 [(0, [], .pointer b_), (2, [], .int .i64 i), (5, [], .int .i64 i), (6, [], .pointer b_)] ?_
   obtain ⟨hp_3, h⟩ := h
   refine Zv (fun pp => [(0, [], .pointer b_), (2, [], .int .i64 i), (5, [], .int .i64 i), (6, [], .pointer pp)]) hp_3 ?_
   refine Zn P1 3 [(0, [], .pointer b_), (2, [], .int .i64 i), (5, [], .int .i64 i), (6, [], .pointer (some ⟨(pblk b_), (poff b_), none⟩)), (7, [], .pointer (some ⟨(pblk b_), (poff b_), none⟩))] ?_
   refine Zn P1 4 [(0, [], .pointer b_), (2, [], .int .i64 i), (5, [], .int .i64 i), (8, [], .pointer (some ⟨(pblk b_), (poff b_) + 2, none⟩))] ?_
   obtain ⟨v9, hc, h⟩ := h
   refine Zl 36 8 (pblk b_) ((poff b_) + 2) 36 9 hc ?_
   refine Zf P2 [(0, .pointer b_), (2, .int .i64 i), (11, .bool (decide (i < ((v9.len : Nat) : Int))))] ?_
   change WpE _ _ c51_9 _ _ _
   refine Zc 11 (decide (i < ((v9.len : Nat) : Int))) c51_10 c51_11 (fun hb => ?_) (fun hb => ?_)
   · replace h := h.1 hb
     exact h.elim
   · replace h := h.2 hb
     refine wpE_exit (id := 0) (by kernel_rfl) ?_
     repeat (first | refine seqQ_exit ?_ | refine loopQ_exit ?_ | refine cutQ_exit ?_ | refine blockQ_hit ?_ | refine blockQ_miss (by kernel_rfl) ?_)
     refine retQ_normal ?_
     repeat (first | refine seqQ_ret ?_ | refine blockQ_ret ?_ | refine loopQ_ret ?_ | refine cutQ_ret ?_)
     exact retT (rs := []) (vs := []) (by kernel_rfl) (trivial) (by kernel_rfl) ⟨rfl, h⟩
 · rintro e w' ⟨v, rfl, rfl, h⟩; exact ⟨rfl, h⟩

/-! ### (*towpath/towpathlaw01.Book).fillText (function 52) -/
def c52_0 := cb_ Tryz.f52
def c52_3 := cr_ c52_0
def c52_4 := cl_ c52_3
def c52_5 := cl_ c52_4
def c52_6 := cl_ c52_5
def c52_7 := cl_ c52_6
def r52_7 := co_ c52_7
def c52_9 := cr_ c52_6
def c52_10 := cl_ c52_9
def c52_11 := cr_ c52_9
def c52_12 := cr_ c52_5

theorem S_towpathlaw01_Book_fillText {b_ : Option Addr} {w : World} {R : World → Prop} (h : F_towpathlaw01_Book_fillText b_ R w) : C_towpathlaw01_Book_fillText b_ w R := by
 unfold F_towpathlaw01_Book_fillText at h
 unfold C_towpathlaw01_Book_fillText
 refine Calls.mono (calls_of_wpE (args := [Value.pointer b_]) (R := fun v w' => v = Value.tuple #[] ∧ R w') Tryz.func52 (c := c52_0) (by kernel_rfl) 35 (by kernel_rfl) (by kernel_rfl) [(0, Value.pointer b_)] (by kernel_rfl) ?_) ?_
 · refine Zp c52_3 P1 [(0, .pointer b_), (2, .int .i64 0)] ?_
   refine Zb 0 c52_4 ?_
   obtain ⟨I, μ, h0, hr⟩ := h
   refine wpE_loop (x := c52_5) (by kernel_rfl) (fun m l w => ∃ (i : Int), l = [(0, Value.pointer b_), (2, Value.int .i64 i)] ∧ I i w ∧ μ i w = m) (l' := [(0, Value.pointer b_), (2, Value.int .i64 0)]) (Sub.mk (by kernel_rfl)) ⟨0, rfl, h0, rfl⟩ ?_
   rintro _ _ w1 ⟨i, rfl, hI, rfl⟩
   obtain ⟨again_, again__h, h⟩ : ∃ again_ : Int → World → Prop, (∀ i' w', again_ i' w' → I i' w' ∧ μ i' w' < μ i w1) ∧ F_towpathlaw01_Book_fillText_L0 b_ R again_ i w1 := ⟨_, fun _ _ h => h, hr i w1 hI⟩
   clear h0 hI
   unfold F_towpathlaw01_Book_fillText_L0 at h
   refine Zs c52_6 c52_12 ?_
   refine Zt r52_7 c52_9 ?_
   refine Zn P2 2 [(0, [], .pointer b_), (2, [], .int .i64 i), (5, [], .int .i64 i), (6, [], .pointer b_)] ?_
   obtain ⟨hp_3, h⟩ := h
   refine Zv (fun pp => [(0, [], .pointer b_), (2, [], .int .i64 i), (5, [], .int .i64 i), (6, [], .pointer pp)]) hp_3 ?_
   refine Zn P1 3 [(0, [], .pointer b_), (2, [], .int .i64 i), (5, [], .int .i64 i), (6, [], .pointer (some ⟨(pblk b_), (poff b_), none⟩)), (7, [], .pointer (some ⟨(pblk b_), (poff b_), none⟩))] ?_
   refine Zn P1 4 [(0, [], .pointer b_), (2, [], .int .i64 i), (5, [], .int .i64 i), (8, [], .pointer (some ⟨(pblk b_), (poff b_) + 3, none⟩))] ?_
   obtain ⟨v9, hc, h⟩ := h
   refine Zl 37 8 (pblk b_) ((poff b_) + 3) 37 9 hc ?_
   refine Zf P2 [(0, .pointer b_), (2, .int .i64 i), (11, .bool (decide (i < ((v9.len : Nat) : Int))))] ?_
   change WpE _ _ c52_9 _ _ _
   refine Zc 11 (decide (i < ((v9.len : Nat) : Int))) c52_10 c52_11 (fun hb => ?_) (fun hb => ?_)
   · replace h := h.1 hb
     exact h.elim
   · replace h := h.2 hb
     refine wpE_exit (id := 0) (by kernel_rfl) ?_
     repeat (first | refine seqQ_exit ?_ | refine loopQ_exit ?_ | refine cutQ_exit ?_ | refine blockQ_hit ?_ | refine blockQ_miss (by kernel_rfl) ?_)
     refine retQ_normal ?_
     repeat (first | refine seqQ_ret ?_ | refine blockQ_ret ?_ | refine loopQ_ret ?_ | refine cutQ_ret ?_)
     exact retT (rs := []) (vs := []) (by kernel_rfl) (trivial) (by kernel_rfl) ⟨rfl, h⟩
 · rintro e w' ⟨v, rfl, rfl, h⟩; exact ⟨rfl, h⟩

/-! ### (*towpath/towpathlaw01.Book).fillWrite (function 53) -/
def c53_0 := cb_ Tryz.f53
def c53_3 := cr_ c53_0
def c53_4 := cl_ c53_3
def c53_5 := cl_ c53_4
def c53_6 := cl_ c53_5
def c53_7 := cl_ c53_6
def r53_7 := co_ c53_7
def c53_9 := cr_ c53_6
def c53_10 := cl_ c53_9
def c53_11 := cr_ c53_9
def c53_12 := cr_ c53_5
def c53_13 := cl_ c53_12
def c53_14 := cl_ c53_13
def c53_15 := cl_ c53_14
def r53_15 := co_ c53_15
def c53_17 := cr_ c53_14
def c53_20 := cr_ c53_17
def c53_21 := cl_ c53_20
def c53_22 := cl_ c53_21
def c53_23 := cl_ c53_22
def c53_24 := cl_ c53_23
def r53_24 := co_ c53_24
def c53_26 := cr_ c53_23
def c53_27 := cl_ c53_26
def c53_28 := cr_ c53_26
def c53_29 := cr_ c53_22
def c53_30 := cl_ c53_29
def c53_31 := cl_ c53_30
def r53_31 := co_ c53_31
def c53_33 := cr_ c53_29
def r53_33 := co_ c53_33
def c53_35 := cr_ c53_12
def r53_35 := co_ c53_35
def o_towpathlaw01_Book_fillWrite_31 : List Nat := [0, 1, 2, 3, 4, 5, 6, 7]

theorem S_towpathlaw01_Book_fillWrite {b_ : Option Addr} {w : World} {R : World → Prop} (h : F_towpathlaw01_Book_fillWrite b_ R w) : C_towpathlaw01_Book_fillWrite b_ w R := by
 unfold F_towpathlaw01_Book_fillWrite at h
 unfold C_towpathlaw01_Book_fillWrite
 refine Calls.mono (calls_of_wpE (args := [Value.pointer b_]) (R := fun v w' => v = Value.tuple #[] ∧ R w') Tryz.func53 (c := c53_0) (by kernel_rfl) 35 (by kernel_rfl) (by kernel_rfl) [(0, Value.pointer b_)] (by kernel_rfl) ?_) ?_
 · refine Zp c53_3 P1 [(0, .pointer b_), (2, .int .i64 0)] ?_
   refine Zb 0 c53_4 ?_
   obtain ⟨I, μ, h0, hr⟩ := h
   refine wpE_loop (x := c53_5) (by kernel_rfl) (fun m l w => ∃ (i : Int), l = [(0, Value.pointer b_), (2, Value.int .i64 i)] ∧ I i w ∧ μ i w = m) (l' := [(0, Value.pointer b_), (2, Value.int .i64 0)]) (Sub.mk (by kernel_rfl)) ⟨0, rfl, h0, rfl⟩ ?_
   rintro _ _ w1 ⟨i, rfl, hI, rfl⟩
   obtain ⟨again_, again__h, h⟩ : ∃ again_ : Int → World → Prop, (∀ i' w', again_ i' w' → I i' w' ∧ μ i' w' < μ i w1) ∧ F_towpathlaw01_Book_fillWrite_L0 b_ R again_ i w1 := ⟨_, fun _ _ h => h, hr i w1 hI⟩
   clear h0 hI
   unfold F_towpathlaw01_Book_fillWrite_L0 at h
   refine Zs c53_6 c53_12 ?_
   refine Zt r53_7 c53_9 ?_
   refine Zn P2 2 [(0, [], .pointer b_), (2, [], .int .i64 i), (5, [], .int .i64 i), (6, [], .pointer b_)] ?_
   obtain ⟨hp_3, h⟩ := h
   refine Zv (fun pp => [(0, [], .pointer b_), (2, [], .int .i64 i), (5, [], .int .i64 i), (6, [], .pointer pp)]) hp_3 ?_
   refine Zn P1 3 [(0, [], .pointer b_), (2, [], .int .i64 i), (5, [], .int .i64 i), (6, [], .pointer (some ⟨(pblk b_), (poff b_), none⟩)), (7, [], .pointer (some ⟨(pblk b_), (poff b_), none⟩))] ?_
   refine Zn P1 4 [(0, [], .pointer b_), (2, [], .int .i64 i), (5, [], .int .i64 i), (8, [], .pointer (some ⟨(pblk b_), (poff b_) + 4, none⟩))] ?_
   obtain ⟨v9, hc, h⟩ := h
   refine Zl 38 8 (pblk b_) ((poff b_) + 4) 38 9 hc ?_
   refine Zf P2 [(0, .pointer b_), (2, .int .i64 i), (11, .bool (decide (i < ((v9.len : Nat) : Int))))] ?_
   change WpE _ _ c53_9 _ _ _
   refine Zc 11 (decide (i < ((v9.len : Nat) : Int))) c53_10 c53_11 (fun hb => ?_) (fun hb => ?_)
   · replace h := h.1 hb
     refine wpE_skip (by kernel_rfl) ?_
     change WpE _ _ c53_12 _ _ _
     refine Zs c53_13 c53_35 ?_
     refine Zb 1 c53_14 ?_
     refine Zt r53_15 c53_17 ?_
     refine Zn P1 1 [(0, [], .pointer b_), (2, [], .int .i64 i), (14, [], .pointer b_)] ?_
     obtain ⟨hp_12, h⟩ := h
     refine Zv (fun pp => [(0, [], .pointer b_), (2, [], .int .i64 i), (14, [], .pointer pp)]) hp_12 ?_
     refine Zn P1 2 [(0, [], .pointer b_), (2, [], .int .i64 i), (14, [], .pointer (some ⟨(pblk b_), (poff b_), none⟩)), (15, [], .pointer (some ⟨(pblk b_), (poff b_), none⟩))] ?_
     refine Zn P1 3 [(0, [], .pointer b_), (2, [], .int .i64 i), (16, [], .pointer (some ⟨(pblk b_), (poff b_) + 4, none⟩))] ?_
     obtain ⟨v17, hc, h⟩ := h
     refine Zl 38 16 (pblk b_) ((poff b_) + 4) 38 17 hc ?_
     refine Zn P1 5 [(0, [], .pointer b_), (2, [], .int .i64 i), (17, [], sv_ v17), (18, [], .int .i64 i)] ?_
     obtain ⟨hp_13, h⟩ := h
     refine Zv (fun pp => [(0, [], .pointer b_), (2, [], .int .i64 i), (17, [], .slice pp v17.len v17.cap), (18, [], .int .i64 i)]) hp_13 ?_
     obtain ⟨h0, h1, h⟩ := h
     refine Zj 38 153 17 18 (pblk v17.ptr) (poff v17.ptr) v17.len v17.cap i 3 19 0 h0 h1 ?_
     refine Zn [] 6 [(0, [], .pointer b_), (2, [], .int .i64 i), (19, [], .pointer (some ⟨(pblk v17.ptr), (poff v17.ptr) + i.toNat * 3, none⟩))] ?_
     obtain ⟨v20, hc, h⟩ := h
     refine reg_loadN (t := 153) (a := (Operand.tmp 19)) (b := (pblk v17.ptr)) (o := ((poff v17.ptr) + i.toNat * 3)) (ty := 153) (dst := some 20) [sv_ v20.l, sv_ v20.long, Value.int .i64 v20.n] (by kernel_rfl) (by kernel_rfl) (by kernel_rfl) (k := 3) (by kernel_rfl) (by kernel_rfl) hc ?_
     refine Zn [] 7 [(0, [], .pointer b_), (2, [], .int .i64 i), (20, [], .agg #[sv_ v20.l, sv_ v20.long, .int .i64 v20.n])] ?_
     refine Zw (some 3) (fun bb => pv_ bb) (Obj.cells ([.slice none 0 0, .slice none 0 0, .int .i64 0]).toArray ty_towpathlaw01_heldWrite (0, 0)) (fun b_1 w2 hb hw => ?_)
     replace h := h b_1 w2 hb hw
     clear hb hw
     refine Zn [] 8 [(0, [], .pointer b_), (2, [], .int .i64 i), (3, [], pv_ b_1), (20, [], .agg #[sv_ v20.l, sv_ v20.long, .int .i64 v20.n])] ?_
     obtain ⟨hc, h⟩ := h
     refine Zo 153 3 20 b_1 0 3 [sv_ v20.l, sv_ v20.long, .int .i64 v20.n] hc (fun w3 hw => ?_)
     replace h := h w3 hw
     clear hw
     refine Ze [(0, .pointer b_), (2, .int .i64 i), (3, pv_ b_1)] ?_
     change WpE _ _ c53_17 _ _ _
     refine Zp c53_20 P1 [(0, .pointer b_), (2, .int .i64 i), (3, pv_ b_1), (4, .int .i64 0)] ?_
     refine Zb 2 c53_21 ?_
     obtain ⟨I, μ, h0, hr⟩ := h
     refine wpE_loop (x := c53_22) (by kernel_rfl) (fun m l w => ∃ (k : Int), l = [(0, Value.pointer b_), (2, Value.int .i64 i), (3, pv_ b_1), (4, Value.int .i64 k)] ∧ I k w ∧ μ k w = m) (l' := [(0, Value.pointer b_), (2, Value.int .i64 i), (3, pv_ b_1), (4, Value.int .i64 0)]) (Sub.mk (by kernel_rfl)) ⟨0, rfl, h0, rfl⟩ ?_
     rintro _ _ w4 ⟨k, rfl, hI, rfl⟩
     obtain ⟨again_1, again_1_h, h⟩ : ∃ again_1 : Int → World → Prop, (∀ k' w', again_1 k' w' → I k' w' ∧ μ k' w' < μ k w4) ∧ F_towpathlaw01_Book_fillWrite_L1 i again_ b_1 again_1 k w4 := ⟨_, fun _ _ h => h, hr k w4 hI⟩
     clear h0 hI
     unfold F_towpathlaw01_Book_fillWrite_L1 at h
     refine Zs c53_23 c53_29 ?_
     refine Zt r53_24 c53_26 ?_
     refine Zn P2 2 [(0, [], .pointer b_), (2, [], .int .i64 i), (3, [], pv_ b_1), (4, [], .int .i64 k), (21, [], .int .i64 k), (22, [], pv_ b_1)] ?_
     obtain ⟨v23, hc, h⟩ := h
     refine Zl 50 22 b_1 0 50 23 hc ?_
     refine Zf P2 [(0, .pointer b_), (2, .int .i64 i), (3, pv_ b_1), (4, .int .i64 k), (25, .bool (decide (k < ((v23.len : Nat) : Int))))] ?_
     change WpE _ _ c53_26 _ _ _
     refine Zc 25 (decide (k < ((v23.len : Nat) : Int))) c53_27 c53_28 (fun hb => ?_) (fun hb => ?_)
     · replace h := h.1 hb
       refine wpE_skip (by kernel_rfl) ?_
       change WpE _ _ c53_29 _ _ _
       refine Zs c53_30 c53_33 ?_
       refine Zb 3 c53_31 ?_
       refine wpE_mixregion (id := 7) (ops := r53_31) o_towpathlaw01_Book_fillWrite_31 (by kernel_rfl) (by kernel_rfl) (by kernel_rfl) (by kernel_rfl) (fun w5 hw => ?_)
       replace h := h w5 hw
       clear hw
       refine mreg_run P1 1 [(0, [], Value.pointer b_), (2, [], Value.int .i64 i), (3, [], pv_ b_1), (4, [], Value.int .i64 k), (28, [], pv_ b_1)] (by kernel_rfl) (by kernel_rfl) ?_
       obtain ⟨v29, hc, h⟩ := h
       refine mreg_load1 (i := 1) (by kernel_rfl) (t := 50) (a := (Operand.tmp 28)) (b := b_1) (o := 0) (ty := 50) (dst := some 29) (by kernel_rfl) (by kernel_rfl) (by kernel_rfl) hc ?_
       refine mreg_run P2 4 [(0, [], Value.pointer b_), (2, [], Value.int .i64 i), (3, [], pv_ b_1), (4, [], Value.int .i64 k), (29, [], sv_ v29), (30, [], Value.int .i64 k), (31, [], Value.pointer (some ⟨b_1, 2, none⟩))] (by kernel_rfl) (by kernel_rfl) ?_
       obtain ⟨v32, hc, h⟩ := h
       refine mreg_load1 (i := 4) (by kernel_rfl) (t := 3) (a := (Operand.tmp 31)) (b := b_1) (o := 2) (ty := 3) (dst := some 32) (by kernel_rfl) (by kernel_rfl) (by kernel_rfl) hc ?_
       refine mreg_run [] 5 [(0, [], Value.pointer b_), (2, [], Value.int .i64 i), (3, [], pv_ b_1), (4, [], Value.int .i64 k), (29, [], sv_ v29), (30, [], Value.int .i64 k), (32, [], Value.int .i64 v32)] (by kernel_rfl) (by kernel_rfl) ?_
       refine mreg_enter (op := (Op.call (Call.mk (Callee.value (Operand.func 128)) #[(Operand.tmp 32)] #[3]))) (ty := 139) (dst := some 33) 5 [4, 3] [(1, fun w' => w'.cell? ⟨b_1, 0, none⟩ = some (sv_ v29))] 128 #[Value.int .i64 v32] (by kernel_rfl) (by kernel_rfl) (by kernel_rfl) (by kernel_rfl) (by kernel_rfl) (fun ww => by kernel_rfl) (Calls.mono h ?_)
       rintro _ w6 ⟨v33, rfl, h⟩
       obtain ⟨hk0, h⟩ := h
       refine ⟨_, rfl, ⟨hk0, trivial⟩, ?_⟩
       refine mreg_run [] 6 [(0, [], Value.pointer b_), (2, [], Value.int .i64 i), (3, [], pv_ b_1), (4, [], Value.int .i64 k), (29, [], sv_ v29), (30, [], Value.int .i64 k), (33, [], Value.agg #[Value.string v33.Key, Value.string v33.Val, Value.bool v33.Drop])] (by kernel_rfl) (by kernel_rfl) ?_
       obtain ⟨hp_15, h⟩ := h
       refine mreg_conv [(0, [], Value.pointer b_), (2, [], Value.int .i64 i), (3, [], pv_ b_1), (4, [], Value.int .i64 k), (29, [], Value.slice (some ⟨(pblk v29.ptr), (poff v29.ptr), none⟩) v29.len v29.cap), (30, [], Value.int .i64 k), (33, [], Value.agg #[Value.string v33.Key, Value.string v33.Val, Value.bool v33.Drop])] (congrArg (fun pp => ([(0, [], Value.pointer b_), (2, [], Value.int .i64 i), (3, [], pv_ b_1), (4, [], Value.int .i64 k), (29, [], Value.slice pp v29.len v29.cap), (30, [], Value.int .i64 k), (33, [], Value.agg #[Value.string v33.Key, Value.string v33.Val, Value.bool v33.Drop])] : GEnv)) hp_15) ?_
       obtain ⟨h0, h1, h⟩ := h
       refine mreg_indexS (i := 6) (by kernel_rfl) (t := 50) (e := 139) (x := (Operand.tmp 29)) (ix := (Operand.tmp 30)) (b := (pblk v29.ptr)) (o := (poff v29.ptr)) (l := v29.len) (c := v29.cap) (k := .i64) (j := k) (ty := 0) (dst := some 34) (sz := 3) (by kernel_rfl) (by kernel_rfl) (by kernel_rfl) (by kernel_rfl) (by kernel_rfl) h0 h1 ?_
       refine mreg_run [] 7 [(0, [], Value.pointer b_), (2, [], Value.int .i64 i), (3, [], pv_ b_1), (4, [], Value.int .i64 k), (33, [], Value.agg #[Value.string v33.Key, Value.string v33.Val, Value.bool v33.Drop]), (34, [], Value.pointer (some ⟨(pblk v29.ptr), (poff v29.ptr) + k.toNat * 3, none⟩))] (by kernel_rfl) (by kernel_rfl) ?_
       obtain ⟨hc, h⟩ := h
       refine mreg_store (t := 139) (a := (Operand.tmp 34)) (x := (Operand.tmp 33)) (b := (pblk v29.ptr)) (o := ((poff v29.ptr) + k.toNat * 3)) (k := 3) (ty := 0) (dst := none) 7 [0, 1, 2, 3, 4, 5, 6] [] [Value.string v33.Key, Value.string v33.Val, Value.bool v33.Drop] (by kernel_rfl) (by kernel_rfl) (by kernel_rfl) (by kernel_rfl) (by kernel_rfl) (by kernel_rfl) (by kernel_rfl) (by kernel_rfl) (by kernel_rfl) (by kernel_rfl) hc (fun w7 hw => ?_)
       replace h := h w7 hw
       clear hw
       refine ⟨trivial, ?_⟩
       refine mreg_end [(0, Value.pointer b_), (2, Value.int .i64 i), (3, pv_ b_1), (4, Value.int .i64 k)] (by kernel_rfl) (by kernel_rfl) (by kernel_rfl) ?_
       change WpE _ _ c53_33 _ _ _
       refine Zr r53_33 ?_
       refine Zf P3 [(0, .pointer b_), (2, .int .i64 i), (3, pv_ b_1), (4, .int .i64 (IntKind.i64.wrap (k + 1)))] ?_
       have hb_ := again_1_h _ _ h
       exact ⟨_, hb_.2, [(0, Value.pointer b_), (2, Value.int .i64 i), (3, pv_ b_1), (4, Value.int .i64 (IntKind.i64.wrap (k + 1)))], Sub.mk (by kernel_rfl), (IntKind.i64.wrap (k + 1)), rfl, hb_.1, rfl⟩
     · replace h := h.2 hb
       refine wpE_exit (id := 2) (by kernel_rfl) ?_
       change WpE _ _ c53_35 _ _ _
       refine Zr r53_35 ?_
       refine Zf P3 [(0, .pointer b_), (2, .int .i64 (IntKind.i64.wrap (i + 1)))] ?_
       have hb_ := again__h _ _ h
       exact ⟨_, hb_.2, [(0, Value.pointer b_), (2, Value.int .i64 (IntKind.i64.wrap (i + 1)))], Sub.mk (by kernel_rfl), (IntKind.i64.wrap (i + 1)), rfl, hb_.1, rfl⟩
   · replace h := h.2 hb
     refine wpE_exit (id := 0) (by kernel_rfl) ?_
     repeat (first | refine seqQ_exit ?_ | refine loopQ_exit ?_ | refine cutQ_exit ?_ | refine blockQ_hit ?_ | refine blockQ_miss (by kernel_rfl) ?_)
     refine retQ_normal ?_
     repeat (first | refine seqQ_ret ?_ | refine blockQ_ret ?_ | refine loopQ_ret ?_ | refine cutQ_ret ?_)
     exact retT (rs := []) (vs := []) (by kernel_rfl) (trivial) (by kernel_rfl) ⟨rfl, h⟩
 · rintro e w' ⟨v, rfl, rfl, h⟩; exact ⟨rfl, h⟩

/-! ### (*towpath/towpathlaw01.Book).fillEntry (function 54) -/
def c54_0 := cb_ Tryz.f54
def c54_3 := cr_ c54_0
def c54_4 := cl_ c54_3
def c54_5 := cl_ c54_4
def c54_6 := cl_ c54_5
def c54_7 := cl_ c54_6
def r54_7 := co_ c54_7
def c54_9 := cr_ c54_6
def c54_10 := cl_ c54_9
def c54_11 := cr_ c54_9
def c54_12 := cr_ c54_5

theorem S_towpathlaw01_Book_fillEntry {b_ : Option Addr} {w : World} {R : World → Prop} (h : F_towpathlaw01_Book_fillEntry b_ R w) : C_towpathlaw01_Book_fillEntry b_ w R := by
 unfold F_towpathlaw01_Book_fillEntry at h
 unfold C_towpathlaw01_Book_fillEntry
 refine Calls.mono (calls_of_wpE (args := [Value.pointer b_]) (R := fun v w' => v = Value.tuple #[] ∧ R w') Tryz.func54 (c := c54_0) (by kernel_rfl) 35 (by kernel_rfl) (by kernel_rfl) [(0, Value.pointer b_)] (by kernel_rfl) ?_) ?_
 · refine Zp c54_3 P1 [(0, .pointer b_), (2, .int .i64 0)] ?_
   refine Zb 0 c54_4 ?_
   obtain ⟨I, μ, h0, hr⟩ := h
   refine wpE_loop (x := c54_5) (by kernel_rfl) (fun m l w => ∃ (i : Int), l = [(0, Value.pointer b_), (2, Value.int .i64 i)] ∧ I i w ∧ μ i w = m) (l' := [(0, Value.pointer b_), (2, Value.int .i64 0)]) (Sub.mk (by kernel_rfl)) ⟨0, rfl, h0, rfl⟩ ?_
   rintro _ _ w1 ⟨i, rfl, hI, rfl⟩
   obtain ⟨again_, again__h, h⟩ : ∃ again_ : Int → World → Prop, (∀ i' w', again_ i' w' → I i' w' ∧ μ i' w' < μ i w1) ∧ F_towpathlaw01_Book_fillEntry_L0 b_ R again_ i w1 := ⟨_, fun _ _ h => h, hr i w1 hI⟩
   clear h0 hI
   unfold F_towpathlaw01_Book_fillEntry_L0 at h
   refine Zs c54_6 c54_12 ?_
   refine Zt r54_7 c54_9 ?_
   refine Zn P2 2 [(0, [], .pointer b_), (2, [], .int .i64 i), (5, [], .int .i64 i), (6, [], .pointer b_)] ?_
   obtain ⟨hp_3, h⟩ := h
   refine Zv (fun pp => [(0, [], .pointer b_), (2, [], .int .i64 i), (5, [], .int .i64 i), (6, [], .pointer pp)]) hp_3 ?_
   refine Zn P1 3 [(0, [], .pointer b_), (2, [], .int .i64 i), (5, [], .int .i64 i), (6, [], .pointer (some ⟨(pblk b_), (poff b_), none⟩)), (7, [], .pointer (some ⟨(pblk b_), (poff b_), none⟩))] ?_
   refine Zn P1 4 [(0, [], .pointer b_), (2, [], .int .i64 i), (5, [], .int .i64 i), (8, [], .pointer (some ⟨(pblk b_), (poff b_) + 5, none⟩))] ?_
   obtain ⟨v9, hc, h⟩ := h
   refine Zl 39 8 (pblk b_) ((poff b_) + 5) 39 9 hc ?_
   refine Zf P2 [(0, .pointer b_), (2, .int .i64 i), (11, .bool (decide (i < ((v9.len : Nat) : Int))))] ?_
   change WpE _ _ c54_9 _ _ _
   refine Zc 11 (decide (i < ((v9.len : Nat) : Int))) c54_10 c54_11 (fun hb => ?_) (fun hb => ?_)
   · replace h := h.1 hb
     exact h.elim
   · replace h := h.2 hb
     refine wpE_exit (id := 0) (by kernel_rfl) ?_
     repeat (first | refine seqQ_exit ?_ | refine loopQ_exit ?_ | refine cutQ_exit ?_ | refine blockQ_hit ?_ | refine blockQ_miss (by kernel_rfl) ?_)
     refine retQ_normal ?_
     repeat (first | refine seqQ_ret ?_ | refine blockQ_ret ?_ | refine loopQ_ret ?_ | refine cutQ_ret ?_)
     exact retT (rs := []) (vs := []) (by kernel_rfl) (trivial) (by kernel_rfl) ⟨rfl, h⟩
 · rintro e w' ⟨v, rfl, rfl, h⟩; exact ⟨rfl, h⟩

/-! ### (*towpath/towpathlaw01.Book).fillVersion (function 55) -/
def c55_0 := cb_ Tryz.f55
def c55_3 := cr_ c55_0
def c55_4 := cl_ c55_3
def c55_5 := cl_ c55_4
def c55_6 := cl_ c55_5
def c55_7 := cl_ c55_6
def r55_7 := co_ c55_7
def c55_9 := cr_ c55_6
def c55_10 := cl_ c55_9
def c55_11 := cr_ c55_9
def c55_12 := cr_ c55_5

theorem S_towpathlaw01_Book_fillVersion {b_ : Option Addr} {w : World} {R : World → Prop} (h : F_towpathlaw01_Book_fillVersion b_ R w) : C_towpathlaw01_Book_fillVersion b_ w R := by
 unfold F_towpathlaw01_Book_fillVersion at h
 unfold C_towpathlaw01_Book_fillVersion
 refine Calls.mono (calls_of_wpE (args := [Value.pointer b_]) (R := fun v w' => v = Value.tuple #[] ∧ R w') Tryz.func55 (c := c55_0) (by kernel_rfl) 35 (by kernel_rfl) (by kernel_rfl) [(0, Value.pointer b_)] (by kernel_rfl) ?_) ?_
 · refine Zp c55_3 P1 [(0, .pointer b_), (2, .int .i64 0)] ?_
   refine Zb 0 c55_4 ?_
   obtain ⟨I, μ, h0, hr⟩ := h
   refine wpE_loop (x := c55_5) (by kernel_rfl) (fun m l w => ∃ (i : Int), l = [(0, Value.pointer b_), (2, Value.int .i64 i)] ∧ I i w ∧ μ i w = m) (l' := [(0, Value.pointer b_), (2, Value.int .i64 0)]) (Sub.mk (by kernel_rfl)) ⟨0, rfl, h0, rfl⟩ ?_
   rintro _ _ w1 ⟨i, rfl, hI, rfl⟩
   obtain ⟨again_, again__h, h⟩ : ∃ again_ : Int → World → Prop, (∀ i' w', again_ i' w' → I i' w' ∧ μ i' w' < μ i w1) ∧ F_towpathlaw01_Book_fillVersion_L0 b_ R again_ i w1 := ⟨_, fun _ _ h => h, hr i w1 hI⟩
   clear h0 hI
   unfold F_towpathlaw01_Book_fillVersion_L0 at h
   refine Zs c55_6 c55_12 ?_
   refine Zt r55_7 c55_9 ?_
   refine Zn P2 2 [(0, [], .pointer b_), (2, [], .int .i64 i), (5, [], .int .i64 i), (6, [], .pointer b_)] ?_
   obtain ⟨hp_3, h⟩ := h
   refine Zv (fun pp => [(0, [], .pointer b_), (2, [], .int .i64 i), (5, [], .int .i64 i), (6, [], .pointer pp)]) hp_3 ?_
   refine Zn P1 3 [(0, [], .pointer b_), (2, [], .int .i64 i), (5, [], .int .i64 i), (6, [], .pointer (some ⟨(pblk b_), (poff b_), none⟩)), (7, [], .pointer (some ⟨(pblk b_), (poff b_), none⟩))] ?_
   refine Zn P1 4 [(0, [], .pointer b_), (2, [], .int .i64 i), (5, [], .int .i64 i), (8, [], .pointer (some ⟨(pblk b_), (poff b_) + 6, none⟩))] ?_
   obtain ⟨v9, hc, h⟩ := h
   refine Zl 40 8 (pblk b_) ((poff b_) + 6) 40 9 hc ?_
   refine Zf P2 [(0, .pointer b_), (2, .int .i64 i), (11, .bool (decide (i < ((v9.len : Nat) : Int))))] ?_
   change WpE _ _ c55_9 _ _ _
   refine Zc 11 (decide (i < ((v9.len : Nat) : Int))) c55_10 c55_11 (fun hb => ?_) (fun hb => ?_)
   · replace h := h.1 hb
     exact h.elim
   · replace h := h.2 hb
     refine wpE_exit (id := 0) (by kernel_rfl) ?_
     repeat (first | refine seqQ_exit ?_ | refine loopQ_exit ?_ | refine cutQ_exit ?_ | refine blockQ_hit ?_ | refine blockQ_miss (by kernel_rfl) ?_)
     refine retQ_normal ?_
     repeat (first | refine seqQ_ret ?_ | refine blockQ_ret ?_ | refine loopQ_ret ?_ | refine cutQ_ret ?_)
     exact retT (rs := []) (vs := []) (by kernel_rfl) (trivial) (by kernel_rfl) ⟨rfl, h⟩
 · rintro e w' ⟨v, rfl, rfl, h⟩; exact ⟨rfl, h⟩

/-! ### (*towpath/towpathlaw01.Book).fillTxn (function 56) -/
def c56_0 := cb_ Tryz.f56
def c56_3 := cr_ c56_0
def c56_4 := cl_ c56_3
def c56_5 := cl_ c56_4
def c56_6 := cl_ c56_5
def c56_7 := cl_ c56_6
def r56_7 := co_ c56_7
def c56_9 := cr_ c56_6
def c56_10 := cl_ c56_9
def c56_11 := cr_ c56_9
def c56_12 := cr_ c56_5
def c56_13 := cl_ c56_12
def c56_14 := cl_ c56_13
def c56_15 := cl_ c56_14
def r56_15 := co_ c56_15
def c56_17 := cr_ c56_14
def c56_20 := cr_ c56_17
def c56_21 := cl_ c56_20
def c56_22 := cl_ c56_21
def c56_23 := cl_ c56_22
def c56_24 := cl_ c56_23
def r56_24 := co_ c56_24
def c56_26 := cr_ c56_23
def c56_27 := cl_ c56_26
def c56_28 := cr_ c56_26
def c56_29 := cr_ c56_22
def c56_30 := cl_ c56_29
def c56_31 := cl_ c56_30
def r56_31 := co_ c56_31
def c56_33 := cr_ c56_29
def r56_33 := co_ c56_33
def c56_35 := cr_ c56_12
def r56_35 := co_ c56_35
def o_towpathlaw01_Book_fillTxn_31 : List Nat := [0, 1, 2, 3, 4, 5, 6, 7]

theorem S_towpathlaw01_Book_fillTxn {b_ : Option Addr} {w : World} {R : World → Prop} (h : F_towpathlaw01_Book_fillTxn b_ R w) : C_towpathlaw01_Book_fillTxn b_ w R := by
 unfold F_towpathlaw01_Book_fillTxn at h
 unfold C_towpathlaw01_Book_fillTxn
 refine Calls.mono (calls_of_wpE (args := [Value.pointer b_]) (R := fun v w' => v = Value.tuple #[] ∧ R w') Tryz.func56 (c := c56_0) (by kernel_rfl) 35 (by kernel_rfl) (by kernel_rfl) [(0, Value.pointer b_)] (by kernel_rfl) ?_) ?_
 · refine Zp c56_3 P1 [(0, .pointer b_), (2, .int .i64 0)] ?_
   refine Zb 0 c56_4 ?_
   obtain ⟨I, μ, h0, hr⟩ := h
   refine wpE_loop (x := c56_5) (by kernel_rfl) (fun m l w => ∃ (i : Int), l = [(0, Value.pointer b_), (2, Value.int .i64 i)] ∧ I i w ∧ μ i w = m) (l' := [(0, Value.pointer b_), (2, Value.int .i64 0)]) (Sub.mk (by kernel_rfl)) ⟨0, rfl, h0, rfl⟩ ?_
   rintro _ _ w1 ⟨i, rfl, hI, rfl⟩
   obtain ⟨again_, again__h, h⟩ : ∃ again_ : Int → World → Prop, (∀ i' w', again_ i' w' → I i' w' ∧ μ i' w' < μ i w1) ∧ F_towpathlaw01_Book_fillTxn_L0 b_ R again_ i w1 := ⟨_, fun _ _ h => h, hr i w1 hI⟩
   clear h0 hI
   unfold F_towpathlaw01_Book_fillTxn_L0 at h
   refine Zs c56_6 c56_12 ?_
   refine Zt r56_7 c56_9 ?_
   refine Zn P2 2 [(0, [], .pointer b_), (2, [], .int .i64 i), (5, [], .int .i64 i), (6, [], .pointer b_)] ?_
   obtain ⟨hp_3, h⟩ := h
   refine Zv (fun pp => [(0, [], .pointer b_), (2, [], .int .i64 i), (5, [], .int .i64 i), (6, [], .pointer pp)]) hp_3 ?_
   refine Zn P1 3 [(0, [], .pointer b_), (2, [], .int .i64 i), (5, [], .int .i64 i), (6, [], .pointer (some ⟨(pblk b_), (poff b_), none⟩)), (7, [], .pointer (some ⟨(pblk b_), (poff b_), none⟩))] ?_
   refine Zn P1 4 [(0, [], .pointer b_), (2, [], .int .i64 i), (5, [], .int .i64 i), (8, [], .pointer (some ⟨(pblk b_), (poff b_) + 7, none⟩))] ?_
   obtain ⟨v9, hc, h⟩ := h
   refine Zl 41 8 (pblk b_) ((poff b_) + 7) 41 9 hc ?_
   refine Zf P2 [(0, .pointer b_), (2, .int .i64 i), (11, .bool (decide (i < ((v9.len : Nat) : Int))))] ?_
   change WpE _ _ c56_9 _ _ _
   refine Zc 11 (decide (i < ((v9.len : Nat) : Int))) c56_10 c56_11 (fun hb => ?_) (fun hb => ?_)
   · replace h := h.1 hb
     refine wpE_skip (by kernel_rfl) ?_
     change WpE _ _ c56_12 _ _ _
     refine Zs c56_13 c56_35 ?_
     refine Zb 1 c56_14 ?_
     refine Zt r56_15 c56_17 ?_
     refine Zn P1 1 [(0, [], .pointer b_), (2, [], .int .i64 i), (14, [], .pointer b_)] ?_
     obtain ⟨hp_12, h⟩ := h
     refine Zv (fun pp => [(0, [], .pointer b_), (2, [], .int .i64 i), (14, [], .pointer pp)]) hp_12 ?_
     refine Zn P1 2 [(0, [], .pointer b_), (2, [], .int .i64 i), (14, [], .pointer (some ⟨(pblk b_), (poff b_), none⟩)), (15, [], .pointer (some ⟨(pblk b_), (poff b_), none⟩))] ?_
     refine Zn P1 3 [(0, [], .pointer b_), (2, [], .int .i64 i), (16, [], .pointer (some ⟨(pblk b_), (poff b_) + 7, none⟩))] ?_
     obtain ⟨v17, hc, h⟩ := h
     refine Zl 41 16 (pblk b_) ((poff b_) + 7) 41 17 hc ?_
     refine Zn P1 5 [(0, [], .pointer b_), (2, [], .int .i64 i), (17, [], sv_ v17), (18, [], .int .i64 i)] ?_
     obtain ⟨hp_13, h⟩ := h
     refine Zv (fun pp => [(0, [], .pointer b_), (2, [], .int .i64 i), (17, [], .slice pp v17.len v17.cap), (18, [], .int .i64 i)]) hp_13 ?_
     obtain ⟨h0, h1, h⟩ := h
     refine Zj 41 141 17 18 (pblk v17.ptr) (poff v17.ptr) v17.len v17.cap i 3 19 0 h0 h1 ?_
     refine Zn [] 6 [(0, [], .pointer b_), (2, [], .int .i64 i), (19, [], .pointer (some ⟨(pblk v17.ptr), (poff v17.ptr) + i.toNat * 3, none⟩))] ?_
     obtain ⟨v20, hc, h⟩ := h
     refine reg_loadN (t := 141) (a := (Operand.tmp 19)) (b := (pblk v17.ptr)) (o := ((poff v17.ptr) + i.toNat * 3)) (ty := 141) (dst := some 20) [sv_ v20.l, sv_ v20.long, Value.int .i64 v20.n] (by kernel_rfl) (by kernel_rfl) (by kernel_rfl) (k := 3) (by kernel_rfl) (by kernel_rfl) hc ?_
     refine Zn [] 7 [(0, [], .pointer b_), (2, [], .int .i64 i), (20, [], .agg #[sv_ v20.l, sv_ v20.long, .int .i64 v20.n])] ?_
     refine Zw (some 3) (fun bb => pv_ bb) (Obj.cells ([.slice none 0 0, .slice none 0 0, .int .i64 0]).toArray ty_towpathlaw01_heldTxn (0, 0)) (fun b_1 w2 hb hw => ?_)
     replace h := h b_1 w2 hb hw
     clear hb hw
     refine Zn [] 8 [(0, [], .pointer b_), (2, [], .int .i64 i), (3, [], pv_ b_1), (20, [], .agg #[sv_ v20.l, sv_ v20.long, .int .i64 v20.n])] ?_
     obtain ⟨hc, h⟩ := h
     refine Zo 141 3 20 b_1 0 3 [sv_ v20.l, sv_ v20.long, .int .i64 v20.n] hc (fun w3 hw => ?_)
     replace h := h w3 hw
     clear hw
     refine Ze [(0, .pointer b_), (2, .int .i64 i), (3, pv_ b_1)] ?_
     change WpE _ _ c56_17 _ _ _
     refine Zp c56_20 P1 [(0, .pointer b_), (2, .int .i64 i), (3, pv_ b_1), (4, .int .i64 0)] ?_
     refine Zb 2 c56_21 ?_
     obtain ⟨I, μ, h0, hr⟩ := h
     refine wpE_loop (x := c56_22) (by kernel_rfl) (fun m l w => ∃ (k : Int), l = [(0, Value.pointer b_), (2, Value.int .i64 i), (3, pv_ b_1), (4, Value.int .i64 k)] ∧ I k w ∧ μ k w = m) (l' := [(0, Value.pointer b_), (2, Value.int .i64 i), (3, pv_ b_1), (4, Value.int .i64 0)]) (Sub.mk (by kernel_rfl)) ⟨0, rfl, h0, rfl⟩ ?_
     rintro _ _ w4 ⟨k, rfl, hI, rfl⟩
     obtain ⟨again_1, again_1_h, h⟩ : ∃ again_1 : Int → World → Prop, (∀ k' w', again_1 k' w' → I k' w' ∧ μ k' w' < μ k w4) ∧ F_towpathlaw01_Book_fillTxn_L1 i again_ b_1 again_1 k w4 := ⟨_, fun _ _ h => h, hr k w4 hI⟩
     clear h0 hI
     unfold F_towpathlaw01_Book_fillTxn_L1 at h
     refine Zs c56_23 c56_29 ?_
     refine Zt r56_24 c56_26 ?_
     refine Zn P2 2 [(0, [], .pointer b_), (2, [], .int .i64 i), (3, [], pv_ b_1), (4, [], .int .i64 k), (21, [], .int .i64 k), (22, [], pv_ b_1)] ?_
     obtain ⟨v23, hc, h⟩ := h
     refine Zl 22 22 b_1 0 22 23 hc ?_
     refine Zf P2 [(0, .pointer b_), (2, .int .i64 i), (3, pv_ b_1), (4, .int .i64 k), (25, .bool (decide (k < ((v23.len : Nat) : Int))))] ?_
     change WpE _ _ c56_26 _ _ _
     refine Zc 25 (decide (k < ((v23.len : Nat) : Int))) c56_27 c56_28 (fun hb => ?_) (fun hb => ?_)
     · replace h := h.1 hb
       refine wpE_skip (by kernel_rfl) ?_
       change WpE _ _ c56_29 _ _ _
       refine Zs c56_30 c56_33 ?_
       refine Zb 3 c56_31 ?_
       refine wpE_mixregion (id := 7) (ops := r56_31) o_towpathlaw01_Book_fillTxn_31 (by kernel_rfl) (by kernel_rfl) (by kernel_rfl) (by kernel_rfl) (fun w5 hw => ?_)
       replace h := h w5 hw
       clear hw
       refine mreg_run P1 1 [(0, [], Value.pointer b_), (2, [], Value.int .i64 i), (3, [], pv_ b_1), (4, [], Value.int .i64 k), (28, [], pv_ b_1)] (by kernel_rfl) (by kernel_rfl) ?_
       obtain ⟨v29, hc, h⟩ := h
       refine mreg_load1 (i := 1) (by kernel_rfl) (t := 22) (a := (Operand.tmp 28)) (b := b_1) (o := 0) (ty := 22) (dst := some 29) (by kernel_rfl) (by kernel_rfl) (by kernel_rfl) hc ?_
       refine mreg_run P2 4 [(0, [], Value.pointer b_), (2, [], Value.int .i64 i), (3, [], pv_ b_1), (4, [], Value.int .i64 k), (29, [], sv_ v29), (30, [], Value.int .i64 k), (31, [], Value.pointer (some ⟨b_1, 2, none⟩))] (by kernel_rfl) (by kernel_rfl) ?_
       obtain ⟨v32, hc, h⟩ := h
       refine mreg_load1 (i := 4) (by kernel_rfl) (t := 3) (a := (Operand.tmp 31)) (b := b_1) (o := 2) (ty := 3) (dst := some 32) (by kernel_rfl) (by kernel_rfl) (by kernel_rfl) hc ?_
       refine mreg_run [] 5 [(0, [], Value.pointer b_), (2, [], Value.int .i64 i), (3, [], pv_ b_1), (4, [], Value.int .i64 k), (29, [], sv_ v29), (30, [], Value.int .i64 k), (32, [], Value.int .i64 v32)] (by kernel_rfl) (by kernel_rfl) ?_
       refine mreg_enter (op := (Op.call (Call.mk (Callee.value (Operand.func 131)) #[(Operand.tmp 32)] #[3]))) (ty := 52) (dst := some 33) 5 [4, 3] [(1, fun w' => w'.cell? ⟨b_1, 0, none⟩ = some (sv_ v29))] 131 #[Value.int .i64 v32] (by kernel_rfl) (by kernel_rfl) (by kernel_rfl) (by kernel_rfl) (by kernel_rfl) (fun ww => by kernel_rfl) (Calls.mono h ?_)
       rintro _ w6 ⟨v33, rfl, h⟩
       obtain ⟨hk0, h⟩ := h
       refine ⟨_, rfl, ⟨hk0, trivial⟩, ?_⟩
       refine mreg_run [] 6 [(0, [], Value.pointer b_), (2, [], Value.int .i64 i), (3, [], pv_ b_1), (4, [], Value.int .i64 k), (29, [], sv_ v29), (30, [], Value.int .i64 k), (33, [], Value.agg #[Value.int .i64 v33.Number, sv_ v33.Writes])] (by kernel_rfl) (by kernel_rfl) ?_
       obtain ⟨hp_15, h⟩ := h
       refine mreg_conv [(0, [], Value.pointer b_), (2, [], Value.int .i64 i), (3, [], pv_ b_1), (4, [], Value.int .i64 k), (29, [], Value.slice (some ⟨(pblk v29.ptr), (poff v29.ptr), none⟩) v29.len v29.cap), (30, [], Value.int .i64 k), (33, [], Value.agg #[Value.int .i64 v33.Number, sv_ v33.Writes])] (congrArg (fun pp => ([(0, [], Value.pointer b_), (2, [], Value.int .i64 i), (3, [], pv_ b_1), (4, [], Value.int .i64 k), (29, [], Value.slice pp v29.len v29.cap), (30, [], Value.int .i64 k), (33, [], Value.agg #[Value.int .i64 v33.Number, sv_ v33.Writes])] : GEnv)) hp_15) ?_
       obtain ⟨h0, h1, h⟩ := h
       refine mreg_indexS (i := 6) (by kernel_rfl) (t := 22) (e := 52) (x := (Operand.tmp 29)) (ix := (Operand.tmp 30)) (b := (pblk v29.ptr)) (o := (poff v29.ptr)) (l := v29.len) (c := v29.cap) (k := .i64) (j := k) (ty := 0) (dst := some 34) (sz := 2) (by kernel_rfl) (by kernel_rfl) (by kernel_rfl) (by kernel_rfl) (by kernel_rfl) h0 h1 ?_
       refine mreg_run [] 7 [(0, [], Value.pointer b_), (2, [], Value.int .i64 i), (3, [], pv_ b_1), (4, [], Value.int .i64 k), (33, [], Value.agg #[Value.int .i64 v33.Number, sv_ v33.Writes]), (34, [], Value.pointer (some ⟨(pblk v29.ptr), (poff v29.ptr) + k.toNat * 2, none⟩))] (by kernel_rfl) (by kernel_rfl) ?_
       obtain ⟨hc, h⟩ := h
       refine mreg_store (t := 52) (a := (Operand.tmp 34)) (x := (Operand.tmp 33)) (b := (pblk v29.ptr)) (o := ((poff v29.ptr) + k.toNat * 2)) (k := 2) (ty := 0) (dst := none) 7 [0, 1, 2, 3, 4, 5, 6] [] [Value.int .i64 v33.Number, sv_ v33.Writes] (by kernel_rfl) (by kernel_rfl) (by kernel_rfl) (by kernel_rfl) (by kernel_rfl) (by kernel_rfl) (by kernel_rfl) (by kernel_rfl) (by kernel_rfl) (by kernel_rfl) hc (fun w7 hw => ?_)
       replace h := h w7 hw
       clear hw
       refine ⟨trivial, ?_⟩
       refine mreg_end [(0, Value.pointer b_), (2, Value.int .i64 i), (3, pv_ b_1), (4, Value.int .i64 k)] (by kernel_rfl) (by kernel_rfl) (by kernel_rfl) ?_
       change WpE _ _ c56_33 _ _ _
       refine Zr r56_33 ?_
       refine Zf P3 [(0, .pointer b_), (2, .int .i64 i), (3, pv_ b_1), (4, .int .i64 (IntKind.i64.wrap (k + 1)))] ?_
       have hb_ := again_1_h _ _ h
       exact ⟨_, hb_.2, [(0, Value.pointer b_), (2, Value.int .i64 i), (3, pv_ b_1), (4, Value.int .i64 (IntKind.i64.wrap (k + 1)))], Sub.mk (by kernel_rfl), (IntKind.i64.wrap (k + 1)), rfl, hb_.1, rfl⟩
     · replace h := h.2 hb
       refine wpE_exit (id := 2) (by kernel_rfl) ?_
       change WpE _ _ c56_35 _ _ _
       refine Zr r56_35 ?_
       refine Zf P3 [(0, .pointer b_), (2, .int .i64 (IntKind.i64.wrap (i + 1)))] ?_
       have hb_ := again__h _ _ h
       exact ⟨_, hb_.2, [(0, Value.pointer b_), (2, Value.int .i64 (IntKind.i64.wrap (i + 1)))], Sub.mk (by kernel_rfl), (IntKind.i64.wrap (i + 1)), rfl, hb_.1, rfl⟩
   · replace h := h.2 hb
     refine wpE_exit (id := 0) (by kernel_rfl) ?_
     repeat (first | refine seqQ_exit ?_ | refine loopQ_exit ?_ | refine cutQ_exit ?_ | refine blockQ_hit ?_ | refine blockQ_miss (by kernel_rfl) ?_)
     refine retQ_normal ?_
     repeat (first | refine seqQ_ret ?_ | refine blockQ_ret ?_ | refine loopQ_ret ?_ | refine cutQ_ret ?_)
     exact retT (rs := []) (vs := []) (by kernel_rfl) (trivial) (by kernel_rfl) ⟨rfl, h⟩
 · rintro e w' ⟨v, rfl, rfl, h⟩; exact ⟨rfl, h⟩

/-! ### (*towpath/towpathlaw01.Book).fillHeld (function 57) -/
def c57_0 := cb_ Tryz.f57
def c57_3 := cr_ c57_0
def c57_4 := cl_ c57_3
def c57_5 := cl_ c57_4
def c57_6 := cl_ c57_5
def c57_7 := cl_ c57_6
def r57_7 := co_ c57_7
def c57_9 := cr_ c57_6
def c57_10 := cl_ c57_9
def c57_11 := cr_ c57_9
def c57_12 := cr_ c57_5

theorem S_towpathlaw01_Book_fillHeld {b_ : Option Addr} {w : World} {R : World → Prop} (h : F_towpathlaw01_Book_fillHeld b_ R w) : C_towpathlaw01_Book_fillHeld b_ w R := by
 unfold F_towpathlaw01_Book_fillHeld at h
 unfold C_towpathlaw01_Book_fillHeld
 refine Calls.mono (calls_of_wpE (args := [Value.pointer b_]) (R := fun v w' => v = Value.tuple #[] ∧ R w') Tryz.func57 (c := c57_0) (by kernel_rfl) 35 (by kernel_rfl) (by kernel_rfl) [(0, Value.pointer b_)] (by kernel_rfl) ?_) ?_
 · refine Zp c57_3 P1 [(0, .pointer b_), (2, .int .i64 0)] ?_
   refine Zb 0 c57_4 ?_
   obtain ⟨I, μ, h0, hr⟩ := h
   refine wpE_loop (x := c57_5) (by kernel_rfl) (fun m l w => ∃ (i : Int), l = [(0, Value.pointer b_), (2, Value.int .i64 i)] ∧ I i w ∧ μ i w = m) (l' := [(0, Value.pointer b_), (2, Value.int .i64 0)]) (Sub.mk (by kernel_rfl)) ⟨0, rfl, h0, rfl⟩ ?_
   rintro _ _ w1 ⟨i, rfl, hI, rfl⟩
   obtain ⟨again_, again__h, h⟩ : ∃ again_ : Int → World → Prop, (∀ i' w', again_ i' w' → I i' w' ∧ μ i' w' < μ i w1) ∧ F_towpathlaw01_Book_fillHeld_L0 b_ R again_ i w1 := ⟨_, fun _ _ h => h, hr i w1 hI⟩
   clear h0 hI
   unfold F_towpathlaw01_Book_fillHeld_L0 at h
   refine Zs c57_6 c57_12 ?_
   refine Zt r57_7 c57_9 ?_
   refine Zn P2 2 [(0, [], .pointer b_), (2, [], .int .i64 i), (5, [], .int .i64 i), (6, [], .pointer b_)] ?_
   obtain ⟨hp_3, h⟩ := h
   refine Zv (fun pp => [(0, [], .pointer b_), (2, [], .int .i64 i), (5, [], .int .i64 i), (6, [], .pointer pp)]) hp_3 ?_
   refine Zn P1 3 [(0, [], .pointer b_), (2, [], .int .i64 i), (5, [], .int .i64 i), (6, [], .pointer (some ⟨(pblk b_), (poff b_), none⟩)), (7, [], .pointer (some ⟨(pblk b_), (poff b_), none⟩))] ?_
   refine Zn P1 4 [(0, [], .pointer b_), (2, [], .int .i64 i), (5, [], .int .i64 i), (8, [], .pointer (some ⟨(pblk b_), (poff b_) + 8, none⟩))] ?_
   obtain ⟨v9, hc, h⟩ := h
   refine Zl 42 8 (pblk b_) ((poff b_) + 8) 42 9 hc ?_
   refine Zf P2 [(0, .pointer b_), (2, .int .i64 i), (11, .bool (decide (i < ((v9.len : Nat) : Int))))] ?_
   change WpE _ _ c57_9 _ _ _
   refine Zc 11 (decide (i < ((v9.len : Nat) : Int))) c57_10 c57_11 (fun hb => ?_) (fun hb => ?_)
   · replace h := h.1 hb
     exact h.elim
   · replace h := h.2 hb
     refine wpE_exit (id := 0) (by kernel_rfl) ?_
     repeat (first | refine seqQ_exit ?_ | refine loopQ_exit ?_ | refine cutQ_exit ?_ | refine blockQ_hit ?_ | refine blockQ_miss (by kernel_rfl) ?_)
     refine retQ_normal ?_
     repeat (first | refine seqQ_ret ?_ | refine blockQ_ret ?_ | refine loopQ_ret ?_ | refine cutQ_ret ?_)
     exact retT (rs := []) (vs := []) (by kernel_rfl) (trivial) (by kernel_rfl) ⟨rfl, h⟩
 · rintro e w' ⟨v, rfl, rfl, h⟩; exact ⟨rfl, h⟩

/-! ### (*towpath/towpathlaw01.Book).fillHeldList (function 58) -/
def c58_0 := cb_ Tryz.f58
def c58_3 := cr_ c58_0
def c58_4 := cl_ c58_3
def c58_5 := cl_ c58_4
def c58_6 := cl_ c58_5
def c58_7 := cl_ c58_6
def r58_7 := co_ c58_7
def c58_9 := cr_ c58_6
def c58_10 := cl_ c58_9
def c58_11 := cr_ c58_9
def c58_12 := cr_ c58_5

theorem S_towpathlaw01_Book_fillHeldList {b_ : Option Addr} {w : World} {R : World → Prop} (h : F_towpathlaw01_Book_fillHeldList b_ R w) : C_towpathlaw01_Book_fillHeldList b_ w R := by
 unfold F_towpathlaw01_Book_fillHeldList at h
 unfold C_towpathlaw01_Book_fillHeldList
 refine Calls.mono (calls_of_wpE (args := [Value.pointer b_]) (R := fun v w' => v = Value.tuple #[] ∧ R w') Tryz.func58 (c := c58_0) (by kernel_rfl) 35 (by kernel_rfl) (by kernel_rfl) [(0, Value.pointer b_)] (by kernel_rfl) ?_) ?_
 · refine Zp c58_3 P1 [(0, .pointer b_), (2, .int .i64 0)] ?_
   refine Zb 0 c58_4 ?_
   obtain ⟨I, μ, h0, hr⟩ := h
   refine wpE_loop (x := c58_5) (by kernel_rfl) (fun m l w => ∃ (i : Int), l = [(0, Value.pointer b_), (2, Value.int .i64 i)] ∧ I i w ∧ μ i w = m) (l' := [(0, Value.pointer b_), (2, Value.int .i64 0)]) (Sub.mk (by kernel_rfl)) ⟨0, rfl, h0, rfl⟩ ?_
   rintro _ _ w1 ⟨i, rfl, hI, rfl⟩
   obtain ⟨again_, again__h, h⟩ : ∃ again_ : Int → World → Prop, (∀ i' w', again_ i' w' → I i' w' ∧ μ i' w' < μ i w1) ∧ F_towpathlaw01_Book_fillHeldList_L0 b_ R again_ i w1 := ⟨_, fun _ _ h => h, hr i w1 hI⟩
   clear h0 hI
   unfold F_towpathlaw01_Book_fillHeldList_L0 at h
   refine Zs c58_6 c58_12 ?_
   refine Zt r58_7 c58_9 ?_
   refine Zn P2 2 [(0, [], .pointer b_), (2, [], .int .i64 i), (5, [], .int .i64 i), (6, [], .pointer b_)] ?_
   obtain ⟨hp_3, h⟩ := h
   refine Zv (fun pp => [(0, [], .pointer b_), (2, [], .int .i64 i), (5, [], .int .i64 i), (6, [], .pointer pp)]) hp_3 ?_
   refine Zn P1 3 [(0, [], .pointer b_), (2, [], .int .i64 i), (5, [], .int .i64 i), (6, [], .pointer (some ⟨(pblk b_), (poff b_), none⟩)), (7, [], .pointer (some ⟨(pblk b_), (poff b_), none⟩))] ?_
   refine Zn P1 4 [(0, [], .pointer b_), (2, [], .int .i64 i), (5, [], .int .i64 i), (8, [], .pointer (some ⟨(pblk b_), (poff b_) + 9, none⟩))] ?_
   obtain ⟨v9, hc, h⟩ := h
   refine Zl 43 8 (pblk b_) ((poff b_) + 9) 43 9 hc ?_
   refine Zf P2 [(0, .pointer b_), (2, .int .i64 i), (11, .bool (decide (i < ((v9.len : Nat) : Int))))] ?_
   change WpE _ _ c58_9 _ _ _
   refine Zc 11 (decide (i < ((v9.len : Nat) : Int))) c58_10 c58_11 (fun hb => ?_) (fun hb => ?_)
   · replace h := h.1 hb
     exact h.elim
   · replace h := h.2 hb
     refine wpE_exit (id := 0) (by kernel_rfl) ?_
     repeat (first | refine seqQ_exit ?_ | refine loopQ_exit ?_ | refine cutQ_exit ?_ | refine blockQ_hit ?_ | refine blockQ_miss (by kernel_rfl) ?_)
     refine retQ_normal ?_
     repeat (first | refine seqQ_ret ?_ | refine blockQ_ret ?_ | refine loopQ_ret ?_ | refine cutQ_ret ?_)
     exact retT (rs := []) (vs := []) (by kernel_rfl) (trivial) (by kernel_rfl) ⟨rfl, h⟩
 · rintro e w' ⟨v, rfl, rfl, h⟩; exact ⟨rfl, h⟩

/-! ### (*towpath/towpathlaw01.Book).fillEvent (function 59) -/
def c59_0 := cb_ Tryz.f59
def c59_3 := cr_ c59_0
def c59_4 := cl_ c59_3
def c59_5 := cl_ c59_4
def c59_6 := cl_ c59_5
def c59_7 := cl_ c59_6
def r59_7 := co_ c59_7
def c59_9 := cr_ c59_6
def c59_10 := cl_ c59_9
def c59_11 := cr_ c59_9
def c59_12 := cr_ c59_5

theorem S_towpathlaw01_Book_fillEvent {b_ : Option Addr} {w : World} {R : World → Prop} (h : F_towpathlaw01_Book_fillEvent b_ R w) : C_towpathlaw01_Book_fillEvent b_ w R := by
 unfold F_towpathlaw01_Book_fillEvent at h
 unfold C_towpathlaw01_Book_fillEvent
 refine Calls.mono (calls_of_wpE (args := [Value.pointer b_]) (R := fun v w' => v = Value.tuple #[] ∧ R w') Tryz.func59 (c := c59_0) (by kernel_rfl) 35 (by kernel_rfl) (by kernel_rfl) [(0, Value.pointer b_)] (by kernel_rfl) ?_) ?_
 · refine Zp c59_3 P1 [(0, .pointer b_), (2, .int .i64 0)] ?_
   refine Zb 0 c59_4 ?_
   obtain ⟨I, μ, h0, hr⟩ := h
   refine wpE_loop (x := c59_5) (by kernel_rfl) (fun m l w => ∃ (i : Int), l = [(0, Value.pointer b_), (2, Value.int .i64 i)] ∧ I i w ∧ μ i w = m) (l' := [(0, Value.pointer b_), (2, Value.int .i64 0)]) (Sub.mk (by kernel_rfl)) ⟨0, rfl, h0, rfl⟩ ?_
   rintro _ _ w1 ⟨i, rfl, hI, rfl⟩
   obtain ⟨again_, again__h, h⟩ : ∃ again_ : Int → World → Prop, (∀ i' w', again_ i' w' → I i' w' ∧ μ i' w' < μ i w1) ∧ F_towpathlaw01_Book_fillEvent_L0 b_ R again_ i w1 := ⟨_, fun _ _ h => h, hr i w1 hI⟩
   clear h0 hI
   unfold F_towpathlaw01_Book_fillEvent_L0 at h
   refine Zs c59_6 c59_12 ?_
   refine Zt r59_7 c59_9 ?_
   refine Zn P2 2 [(0, [], .pointer b_), (2, [], .int .i64 i), (5, [], .int .i64 i), (6, [], .pointer b_)] ?_
   obtain ⟨hp_3, h⟩ := h
   refine Zv (fun pp => [(0, [], .pointer b_), (2, [], .int .i64 i), (5, [], .int .i64 i), (6, [], .pointer pp)]) hp_3 ?_
   refine Zn P1 3 [(0, [], .pointer b_), (2, [], .int .i64 i), (5, [], .int .i64 i), (6, [], .pointer (some ⟨(pblk b_), (poff b_), none⟩)), (7, [], .pointer (some ⟨(pblk b_), (poff b_), none⟩))] ?_
   refine Zn P1 4 [(0, [], .pointer b_), (2, [], .int .i64 i), (5, [], .int .i64 i), (8, [], .pointer (some ⟨(pblk b_), (poff b_) + 10, none⟩))] ?_
   obtain ⟨v9, hc, h⟩ := h
   refine Zl 44 8 (pblk b_) ((poff b_) + 10) 44 9 hc ?_
   refine Zf P2 [(0, .pointer b_), (2, .int .i64 i), (11, .bool (decide (i < ((v9.len : Nat) : Int))))] ?_
   change WpE _ _ c59_9 _ _ _
   refine Zc 11 (decide (i < ((v9.len : Nat) : Int))) c59_10 c59_11 (fun hb => ?_) (fun hb => ?_)
   · replace h := h.1 hb
     exact h.elim
   · replace h := h.2 hb
     refine wpE_exit (id := 0) (by kernel_rfl) ?_
     repeat (first | refine seqQ_exit ?_ | refine loopQ_exit ?_ | refine cutQ_exit ?_ | refine blockQ_hit ?_ | refine blockQ_miss (by kernel_rfl) ?_)
     refine retQ_normal ?_
     repeat (first | refine seqQ_ret ?_ | refine blockQ_ret ?_ | refine loopQ_ret ?_ | refine cutQ_ret ?_)
     exact retT (rs := []) (vs := []) (by kernel_rfl) (trivial) (by kernel_rfl) ⟨rfl, h⟩
 · rintro e w' ⟨v, rfl, rfl, h⟩; exact ⟨rfl, h⟩

/-! ### (*towpath/towpathlaw01.Book).fillAnswer (function 60) -/
def c60_0 := cb_ Tryz.f60
def c60_3 := cr_ c60_0
def c60_4 := cl_ c60_3
def c60_5 := cl_ c60_4
def c60_6 := cl_ c60_5
def c60_7 := cl_ c60_6
def r60_7 := co_ c60_7
def c60_9 := cr_ c60_6
def c60_10 := cl_ c60_9
def c60_11 := cr_ c60_9
def c60_12 := cr_ c60_5

theorem S_towpathlaw01_Book_fillAnswer {b_ : Option Addr} {w : World} {R : World → Prop} (h : F_towpathlaw01_Book_fillAnswer b_ R w) : C_towpathlaw01_Book_fillAnswer b_ w R := by
 unfold F_towpathlaw01_Book_fillAnswer at h
 unfold C_towpathlaw01_Book_fillAnswer
 refine Calls.mono (calls_of_wpE (args := [Value.pointer b_]) (R := fun v w' => v = Value.tuple #[] ∧ R w') Tryz.func60 (c := c60_0) (by kernel_rfl) 35 (by kernel_rfl) (by kernel_rfl) [(0, Value.pointer b_)] (by kernel_rfl) ?_) ?_
 · refine Zp c60_3 P1 [(0, .pointer b_), (2, .int .i64 0)] ?_
   refine Zb 0 c60_4 ?_
   obtain ⟨I, μ, h0, hr⟩ := h
   refine wpE_loop (x := c60_5) (by kernel_rfl) (fun m l w => ∃ (i : Int), l = [(0, Value.pointer b_), (2, Value.int .i64 i)] ∧ I i w ∧ μ i w = m) (l' := [(0, Value.pointer b_), (2, Value.int .i64 0)]) (Sub.mk (by kernel_rfl)) ⟨0, rfl, h0, rfl⟩ ?_
   rintro _ _ w1 ⟨i, rfl, hI, rfl⟩
   obtain ⟨again_, again__h, h⟩ : ∃ again_ : Int → World → Prop, (∀ i' w', again_ i' w' → I i' w' ∧ μ i' w' < μ i w1) ∧ F_towpathlaw01_Book_fillAnswer_L0 b_ R again_ i w1 := ⟨_, fun _ _ h => h, hr i w1 hI⟩
   clear h0 hI
   unfold F_towpathlaw01_Book_fillAnswer_L0 at h
   refine Zs c60_6 c60_12 ?_
   refine Zt r60_7 c60_9 ?_
   refine Zn P2 2 [(0, [], .pointer b_), (2, [], .int .i64 i), (5, [], .int .i64 i), (6, [], .pointer b_)] ?_
   obtain ⟨hp_3, h⟩ := h
   refine Zv (fun pp => [(0, [], .pointer b_), (2, [], .int .i64 i), (5, [], .int .i64 i), (6, [], .pointer pp)]) hp_3 ?_
   refine Zn P1 3 [(0, [], .pointer b_), (2, [], .int .i64 i), (5, [], .int .i64 i), (6, [], .pointer (some ⟨(pblk b_), (poff b_), none⟩)), (7, [], .pointer (some ⟨(pblk b_), (poff b_), none⟩))] ?_
   refine Zn P1 4 [(0, [], .pointer b_), (2, [], .int .i64 i), (5, [], .int .i64 i), (8, [], .pointer (some ⟨(pblk b_), (poff b_) + 11, none⟩))] ?_
   obtain ⟨v9, hc, h⟩ := h
   refine Zl 45 8 (pblk b_) ((poff b_) + 11) 45 9 hc ?_
   refine Zf P2 [(0, .pointer b_), (2, .int .i64 i), (11, .bool (decide (i < ((v9.len : Nat) : Int))))] ?_
   change WpE _ _ c60_9 _ _ _
   refine Zc 11 (decide (i < ((v9.len : Nat) : Int))) c60_10 c60_11 (fun hb => ?_) (fun hb => ?_)
   · replace h := h.1 hb
     exact h.elim
   · replace h := h.2 hb
     refine wpE_exit (id := 0) (by kernel_rfl) ?_
     repeat (first | refine seqQ_exit ?_ | refine loopQ_exit ?_ | refine cutQ_exit ?_ | refine blockQ_hit ?_ | refine blockQ_miss (by kernel_rfl) ?_)
     refine retQ_normal ?_
     repeat (first | refine seqQ_ret ?_ | refine blockQ_ret ?_ | refine loopQ_ret ?_ | refine cutQ_ret ?_)
     exact retT (rs := []) (vs := []) (by kernel_rfl) (trivial) (by kernel_rfl) ⟨rfl, h⟩
 · rintro e w' ⟨v, rfl, rfl, h⟩; exact ⟨rfl, h⟩
end
end Go.Proofs.YtpdegdnigcnjiaaGreatDoor
