/- WRITTEN BY PROGRAM (dec.py): for each Go function the clean formula F, the call's contract C, and the proof S that F gives C. -/
import Derived.Test.YtfmkemmgakdddaaGreatDoorRows
import Derived.Test.YtfmkemmgakdddaaGreatDoorGF
namespace Go.Proofs.YtfmkemmgakdddaaGreatDoor
open Go
set_option linter.unusedVariables false
set_option maxRecDepth 100000
set_option maxHeartbeats 4000000

/-! ### (*towpath/towpathlaw01.Book).fillAnswer (function 43) -/
noncomputable def c43_0 := (Tryz.f43.body).getD Code.skip
noncomputable def c43_3 := Code.r c43_0
noncomputable def c43_4 := Code.l c43_3
noncomputable def c43_5 := Code.l c43_4
noncomputable def c43_6 := Code.l c43_5
noncomputable def c43_7 := Code.l c43_6
noncomputable def r43_7 := Code.ops c43_7
noncomputable def c43_9 := Code.r c43_6
noncomputable def c43_10 := Code.l c43_9
noncomputable def c43_11 := Code.r c43_9
noncomputable def c43_12 := Code.r c43_5

theorem S_towpathlaw01_Book_fillAnswer {b_ : Option Addr} {w : World} {R : World → Prop} (h : F_towpathlaw01_Book_fillAnswer b_ R w) : C_towpathlaw01_Book_fillAnswer b_ w R := by
  unfold F_towpathlaw01_Book_fillAnswer at h
  unfold C_towpathlaw01_Book_fillAnswer
  refine Calls.mono (calls_of_wpE (args := [Value.pointer b_]) (R := fun v w' => v = Value.tuple #[] ∧ R w') Tryz.func43 (c := c43_0) (by kernel_rfl) 35 (by kernel_rfl) (by kernel_rfl) [(0, Value.pointer b_)] (by kernel_rfl) ?_) ?_
  · refine Zp c43_3 P1 [(0, .pointer b_), (2, .int .i64 0)] ?_
    refine Zb 0 c43_4 ?_
    obtain ⟨I, μ, h0, hr⟩ := h
    refine wpE_loop (x := c43_5) (by kernel_rfl) (fun m l w => ∃ (i : Int), l = [(0, Value.pointer b_), (2, Value.int .i64 i)] ∧ I i w ∧ μ i w = m) (l' := [(0, Value.pointer b_), (2, Value.int .i64 0)]) (Sub.mk (by kernel_rfl)) ⟨0, rfl, h0, rfl⟩ ?_
    rintro _ _ w1 ⟨i, rfl, hI, rfl⟩
    obtain ⟨again_, again__h, h⟩ : ∃ again_ : Int → World → Prop, (∀ i' w', again_ i' w' → I i' w' ∧ μ i' w' < μ i w1) ∧ F_towpathlaw01_Book_fillAnswer_L0 b_ R again_ i w1 := ⟨_, fun _ _ h => h, hr i w1 hI⟩
    clear h0 hI
    unfold F_towpathlaw01_Book_fillAnswer_L0 at h
    refine Zs c43_6 c43_12 ?_
    refine Zt r43_7 c43_9 ?_
    refine Zn P2 2 [(0, [], .pointer b_), (2, [], .int .i64 i), (5, [], .int .i64 i), (6, [], .pointer b_)] ?_
    obtain ⟨hp_3, h⟩ := h
    refine Zv (fun pp => [(0, [], .pointer b_), (2, [], .int .i64 i), (5, [], .int .i64 i), (6, [], .pointer pp)]) hp_3 ?_
    refine Zn P1 3 [(0, [], .pointer b_), (2, [], .int .i64 i), (5, [], .int .i64 i), (6, [], .pointer (some ⟨(pblk b_), (poff b_), none⟩)), (7, [], .pointer (some ⟨(pblk b_), (poff b_), none⟩))] ?_
    refine Zn P1 4 [(0, [], .pointer b_), (2, [], .int .i64 i), (5, [], .int .i64 i), (8, [], .pointer (some ⟨(pblk b_), (poff b_) + 11, none⟩))] ?_
    obtain ⟨v9, hc, h⟩ := h
    refine Zl 47 8 (pblk b_) ((poff b_) + 11) 47 9 hc ?_
    refine Zf P2 [(0, .pointer b_), (2, .int .i64 i), (11, .bool (decide (i < ((v9.len : Nat) : Int))))] ?_
    change WpE _ _ c43_9 _ _ _
    refine Zc 11 (decide (i < ((v9.len : Nat) : Int))) c43_10 c43_11 (fun hb => ?_) (fun hb => ?_)
    · replace h := h.1 hb
      exact h.elim
    · replace h := h.2 hb
      refine wpE_exit (id := 0) (by kernel_rfl) ?_
      repeat (first | refine seqQ_exit ?_ | refine loopQ_exit ?_ | refine cutQ_exit ?_ | refine blockQ_hit ?_ | refine blockQ_miss (by kernel_rfl) ?_)
      refine retQ_normal ?_
      repeat (first | refine seqQ_ret ?_ | refine blockQ_ret ?_ | refine loopQ_ret ?_ | refine cutQ_ret ?_)
      exact retT (rs := []) (vs := []) (by kernel_rfl) (trivial) (by kernel_rfl) ⟨rfl, h⟩
  · rintro e w' ⟨v, rfl, rfl, h⟩; exact ⟨rfl, h⟩

/-! ### (*towpath/towpathlaw01.Book).growByte (function 44) -/
noncomputable def c44_0 := (Tryz.f44.body).getD Code.skip
noncomputable def c44_3 := Code.r c44_0
noncomputable def c44_4 := Code.l c44_3
noncomputable def c44_5 := Code.l c44_4
noncomputable def c44_6 := Code.l c44_5
noncomputable def c44_7 := Code.l c44_6
noncomputable def r44_7 := Code.ops c44_7
noncomputable def c44_9 := Code.r c44_6
noncomputable def c44_10 := Code.l c44_9
noncomputable def c44_11 := Code.r c44_9
noncomputable def c44_12 := Code.r c44_5
noncomputable def c44_13 := Code.l c44_12
noncomputable def c44_14 := Code.l c44_13
noncomputable def c44_15 := Code.l c44_14
noncomputable def r44_15 := Code.ops c44_15
noncomputable def c44_17 := Code.r c44_14
noncomputable def c44_18 := Code.l c44_17
noncomputable def r44_18 := Code.ops c44_18
noncomputable def c44_20 := Code.r c44_17
noncomputable def c44_21 := Code.l c44_20
noncomputable def c44_24 := Code.r c44_21
noncomputable def c44_25 := Code.l c44_24
noncomputable def c44_26 := Code.l c44_25
noncomputable def c44_27 := Code.l c44_26
noncomputable def c44_30 := Code.r c44_27
noncomputable def c44_31 := Code.l c44_30
noncomputable def c44_32 := Code.r c44_30
noncomputable def c44_33 := Code.r c44_26
noncomputable def c44_34 := Code.l c44_33
noncomputable def c44_35 := Code.l c44_34
noncomputable def r44_35 := Code.ops c44_35
noncomputable def c44_37 := Code.r c44_33
noncomputable def r44_37 := Code.ops c44_37
noncomputable def c44_39 := Code.r c44_20
noncomputable def r44_39 := Code.ops c44_39
noncomputable def c44_41 := Code.r c44_12
noncomputable def r44_41 := Code.ops c44_41

theorem S_towpathlaw01_Book_growByte {b_ : Option Addr} {w : World} {R : World → Prop} (h : F_towpathlaw01_Book_growByte b_ R w) : C_towpathlaw01_Book_growByte b_ w R := by
  unfold F_towpathlaw01_Book_growByte at h
  unfold C_towpathlaw01_Book_growByte
  refine Calls.mono (calls_of_wpE (args := [Value.pointer b_]) (R := fun v w' => v = Value.tuple #[] ∧ R w') Tryz.func44 (c := c44_0) (by kernel_rfl) 42 (by kernel_rfl) (by kernel_rfl) [(0, Value.pointer b_)] (by kernel_rfl) ?_) ?_
  · refine Zp c44_3 P1 [(0, .pointer b_), (2, .int .i64 0)] ?_
    refine Zb 0 c44_4 ?_
    obtain ⟨I, μ, h0, hr⟩ := h
    refine wpE_loop (x := c44_5) (by kernel_rfl) (fun m l w => ∃ (i : Int), l = [(0, Value.pointer b_), (2, Value.int .i64 i)] ∧ I i w ∧ μ i w = m) (l' := [(0, Value.pointer b_), (2, Value.int .i64 0)]) (Sub.mk (by kernel_rfl)) ⟨0, rfl, h0, rfl⟩ ?_
    rintro _ _ w1 ⟨i, rfl, hI, rfl⟩
    obtain ⟨again_, again__h, h⟩ : ∃ again_ : Int → World → Prop, (∀ i' w', again_ i' w' → I i' w' ∧ μ i' w' < μ i w1) ∧ F_towpathlaw01_Book_growByte_L0 b_ R again_ i w1 := ⟨_, fun _ _ h => h, hr i w1 hI⟩
    clear h0 hI
    unfold F_towpathlaw01_Book_growByte_L0 at h
    refine Zs c44_6 c44_12 ?_
    refine Zt r44_7 c44_9 ?_
    refine Zn P2 2 [(0, [], .pointer b_), (2, [], .int .i64 i), (6, [], .int .i64 i), (7, [], .pointer b_)] ?_
    obtain ⟨hp_3, h⟩ := h
    refine Zv (fun pp => [(0, [], .pointer b_), (2, [], .int .i64 i), (6, [], .int .i64 i), (7, [], .pointer pp)]) hp_3 ?_
    refine Zn P1 3 [(0, [], .pointer b_), (2, [], .int .i64 i), (6, [], .int .i64 i), (7, [], .pointer (some ⟨(pblk b_), (poff b_), none⟩)), (8, [], .pointer (some ⟨(pblk b_), (poff b_), none⟩))] ?_
    refine Zn P1 4 [(0, [], .pointer b_), (2, [], .int .i64 i), (6, [], .int .i64 i), (9, [], .pointer (some ⟨(pblk b_), (poff b_) + 1, none⟩))] ?_
    obtain ⟨v10, hc, h⟩ := h
    refine Zl 37 9 (pblk b_) ((poff b_) + 1) 37 10 hc ?_
    refine Zf P2 [(0, .pointer b_), (2, .int .i64 i), (12, .bool (decide (i < ((v10.len : Nat) : Int))))] ?_
    change WpE _ _ c44_9 _ _ _
    refine Zc 12 (decide (i < ((v10.len : Nat) : Int))) c44_10 c44_11 (fun hb => ?_) (fun hb => ?_)
    · replace h := h.1 hb
      refine wpE_skip (by kernel_rfl) ?_
      change WpE _ _ c44_12 _ _ _
      refine Zs c44_13 c44_41 ?_
      refine Zb 1 c44_14 ?_
      refine Zt r44_15 c44_17 ?_
      refine Zn P1 1 [(0, [], .pointer b_), (2, [], .int .i64 i), (15, [], .pointer b_)] ?_
      obtain ⟨hp_12, h⟩ := h
      refine Zv (fun pp => [(0, [], .pointer b_), (2, [], .int .i64 i), (15, [], .pointer pp)]) hp_12 ?_
      refine Zn P1 2 [(0, [], .pointer b_), (2, [], .int .i64 i), (15, [], .pointer (some ⟨(pblk b_), (poff b_), none⟩)), (16, [], .pointer (some ⟨(pblk b_), (poff b_), none⟩))] ?_
      refine Zn P1 3 [(0, [], .pointer b_), (2, [], .int .i64 i), (17, [], .pointer (some ⟨(pblk b_), (poff b_) + 1, none⟩))] ?_
      obtain ⟨v18, hc, h⟩ := h
      refine Zl 37 17 (pblk b_) ((poff b_) + 1) 37 18 hc ?_
      refine Zn P1 5 [(0, [], .pointer b_), (2, [], .int .i64 i), (18, [], .slice v18.ptr v18.len v18.cap), (19, [], .int .i64 i)] ?_
      obtain ⟨hp_13, h⟩ := h
      refine Zv (fun pp => [(0, [], .pointer b_), (2, [], .int .i64 i), (18, [], .slice pp v18.len v18.cap), (19, [], .int .i64 i)]) hp_13 ?_
      obtain ⟨h0, h1, h⟩ := h
      refine Zj 37 81 18 19 (pblk v18.ptr) (poff v18.ptr) v18.len v18.cap i 3 20 0 h0 h1 ?_
      refine Zn [] 6 [(0, [], .pointer b_), (2, [], .int .i64 i), (20, [], .pointer (some ⟨(pblk v18.ptr), (poff v18.ptr) + i.toNat * 3, none⟩))] ?_
      obtain ⟨v21, hc, h⟩ := h
      refine reg_loadN (t := 81) (a := (Operand.tmp 20)) (b := (pblk v18.ptr)) (o := ((poff v18.ptr) + i.toNat * 3)) (ty := 81) (dst := some 21) [Value.slice v21.l.ptr v21.l.len v21.l.cap, Value.slice v21.long.ptr v21.long.len v21.long.cap, Value.int .i64 v21.n] (by kernel_rfl) (by kernel_rfl) (by kernel_rfl) (k := 3) (by kernel_rfl) (by kernel_rfl) hc ?_
      refine Zn [] 7 [(0, [], .pointer b_), (2, [], .int .i64 i), (21, [], .agg #[.slice v21.l.ptr v21.l.len v21.l.cap, .slice v21.long.ptr v21.long.len v21.long.cap, .int .i64 v21.n])] ?_
      refine Zw (some 3) (fun bb => .pointer (some ⟨bb, 0, none⟩)) (Obj.cells ([.slice none 0 0, .slice none 0 0, .int .i64 0]).toArray ty_towpathlaw01_heldByte (0, 0)) (fun b_1 w2 hb hw => ?_)
      replace h := h b_1 w2 hb hw
      clear hb hw
      refine Zn [] 8 [(0, [], .pointer b_), (2, [], .int .i64 i), (3, [], .pointer (some ⟨b_1, 0, none⟩)), (21, [], .agg #[.slice v21.l.ptr v21.l.len v21.l.cap, .slice v21.long.ptr v21.long.len v21.long.cap, .int .i64 v21.n])] ?_
      obtain ⟨hc, h⟩ := h
      refine Zo 81 3 21 b_1 0 3 [.slice v21.l.ptr v21.l.len v21.l.cap, .slice v21.long.ptr v21.long.len v21.long.cap, .int .i64 v21.n] hc (fun w3 hw => ?_)
      replace h := h w3 hw
      clear hw
      refine Ze [(0, .pointer b_), (2, .int .i64 i), (3, .pointer (some ⟨b_1, 0, none⟩))] ?_
      change WpE _ _ c44_17 _ _ _
      refine Zt r44_18 c44_20 ?_
      refine Zn P1 1 [(0, [], .pointer b_), (2, [], .int .i64 i), (3, [], .pointer (some ⟨b_1, 0, none⟩)), (22, [], .pointer (some ⟨b_1, 0, none⟩))] ?_
      obtain ⟨long, hc, h⟩ := h
      refine Zl 28 22 b_1 0 28 23 hc ?_
      refine Zf P1 [(0, .pointer b_), (2, .int .i64 i), (3, .pointer (some ⟨b_1, 0, none⟩)), (4, .slice long.ptr long.len long.cap)] ?_
      change WpE _ _ c44_20 _ _ _
      refine Zs c44_21 c44_39 ?_
      refine Zp c44_24 P1 [(0, .pointer b_), (2, .int .i64 i), (3, .pointer (some ⟨b_1, 0, none⟩)), (4, .slice long.ptr long.len long.cap), (5, .int .i64 0)] ?_
      refine Zb 2 c44_25 ?_
      obtain ⟨I, μ, h0, hr⟩ := h
      refine wpE_loop (x := c44_26) (by kernel_rfl) (fun m l w => ∃ (long1 : Slc) (k : Int), l = [(0, Value.pointer b_), (2, Value.int .i64 i), (3, Value.pointer (some ⟨b_1, 0, none⟩)), (4, Value.slice long1.ptr long1.len long1.cap), (5, Value.int .i64 k)] ∧ I long1 k w ∧ μ long1 k w = m) (l' := [(0, Value.pointer b_), (2, Value.int .i64 i), (3, Value.pointer (some ⟨b_1, 0, none⟩)), (4, Value.slice long.ptr long.len long.cap), (5, Value.int .i64 0)]) (Sub.mk (by kernel_rfl)) ⟨long, 0, rfl, h0, rfl⟩ ?_
      rintro _ _ w4 ⟨long1, k, rfl, hI, rfl⟩
      obtain ⟨again_1, again_1_h, h⟩ : ∃ again_1 : Slc → Int → World → Prop, (∀ long1' k' w', again_1 long1' k' w' → I long1' k' w' ∧ μ long1' k' w' < μ long1 k w4) ∧ F_towpathlaw01_Book_growByte_L1 b_ i again_ b_1 again_1 long1 k w4 := ⟨_, fun _ _ _ h => h, hr long1 k w4 hI⟩
      clear h0 hI
      unfold F_towpathlaw01_Book_growByte_L1 at h
      refine Zs c44_27 c44_33 ?_
      refine Zp c44_30 P2 [(0, .pointer b_), (2, .int .i64 i), (3, .pointer (some ⟨b_1, 0, none⟩)), (4, .slice long1.ptr long1.len long1.cap), (5, .int .i64 k), (25, .bool (decide (k < 70)))] ?_
      refine Zc 25 (decide (k < 70)) c44_31 c44_32 (fun hb => ?_) (fun hb => ?_)
      · replace h := h.1 hb
        refine wpE_skip (by kernel_rfl) ?_
        change WpE _ _ c44_33 _ _ _
        refine Zs c44_34 c44_37 ?_
        refine Zb 3 c44_35 ?_
        refine Zr r44_35 ?_
        refine Zn P2 2 [(0, [], .pointer b_), (2, [], .int .i64 i), (3, [], .pointer (some ⟨b_1, 0, none⟩)), (4, [], .slice long1.ptr long1.len long1.cap), (5, [], .int .i64 k), (28, [], .slice long1.ptr long1.len long1.cap), (29, [], .pointer (some ⟨b_1, 2, none⟩))] ?_
        obtain ⟨v30, hc, h⟩ := h
        refine Zl 3 29 b_1 2 3 30 hc ?_
        refine Zn [] 3 [(0, [], .pointer b_), (2, [], .int .i64 i), (3, [], .pointer (some ⟨b_1, 0, none⟩)), (4, [], .slice long1.ptr long1.len long1.cap), (5, [], .int .i64 k), (28, [], .slice long1.ptr long1.len long1.cap), (30, [], .int .i64 v30)] ?_
        refine Zm 72 #[.int .i64 v30] (some 31) (Calls.mono h ?_)
        rintro _ w5 ⟨v31, rfl, h⟩
        refine ⟨_, rfl, ?_⟩
        refine Zn [] 4 [(0, [], .pointer b_), (2, [], .int .i64 i), (3, [], .pointer (some ⟨b_1, 0, none⟩)), (4, [], .slice long1.ptr long1.len long1.cap), (5, [], .int .i64 k), (28, [], .slice long1.ptr long1.len long1.cap), (31, [], .int .u8 v31)] ?_
        refine Zw (some 32) (fun bb => .slice (some ⟨bb, 0, none⟩) 1 1) (Obj.cells ([.int .u8 v31]).toArray ty_uint8 (0, 0)) (fun b_2 w6 hb hw => ?_)
        replace h := h b_2 w6 hb hw
        clear hb hw
        refine Zn [] 5 [(0, [], .pointer b_), (2, [], .int .i64 i), (3, [], .pointer (some ⟨b_1, 0, none⟩)), (4, [], .slice long1.ptr long1.len long1.cap), (5, [], .int .i64 k), (28, [], .slice long1.ptr long1.len long1.cap), (32, [], .slice (some ⟨b_2, 0, none⟩) 1 1)] ?_
        obtain ⟨src, hs, h⟩ := h
        refine reg_append (t := 28) (tx := 28) (e := 5) (a := (Operand.tmp 28)) (xo := (Operand.tmp 32)) (s := long1) (x := (Slc.mk (some ⟨b_2, 0, none⟩) 1 1)) (sz := 1) (by_ := 1) (zs := [Value.int .u8 0]) (ty := 28) (dst := some 33)  src (by kernel_rfl) (by kernel_rfl) (by kernel_rfl) (by kernel_rfl) (by kernel_rfl) (by kernel_rfl) (by kernel_rfl) (by kernel_rfl) (by kernel_rfl) hs (AppendW.mono h (fun long2 w7 h => ?_))
        refine Zf P1 [(0, .pointer b_), (2, .int .i64 i), (3, .pointer (some ⟨b_1, 0, none⟩)), (4, .slice long2.ptr long2.len long2.cap), (5, .int .i64 k)] ?_
        change WpE _ _ c44_37 _ _ _
        refine Zr r44_37 ?_
        refine Zf P3 [(0, .pointer b_), (2, .int .i64 i), (3, .pointer (some ⟨b_1, 0, none⟩)), (4, .slice long2.ptr long2.len long2.cap), (5, .int .i64 (IntKind.i64.wrap (k + 1)))] ?_
        have hb_ := again_1_h _ _ _ h
        exact ⟨_, hb_.2, [(0, Value.pointer b_), (2, Value.int .i64 i), (3, Value.pointer (some ⟨b_1, 0, none⟩)), (4, Value.slice long2.ptr long2.len long2.cap), (5, Value.int .i64 (IntKind.i64.wrap (k + 1)))], Sub.mk (by kernel_rfl), long2, (IntKind.i64.wrap (k + 1)), rfl, hb_.1, rfl⟩
      · replace h := h.2 hb
        refine wpE_exit (id := 2) (by kernel_rfl) ?_
        change WpE _ _ c44_39 _ _ _
        refine Zr r44_39 ?_
        refine Zn P1 1 [(0, [], .pointer b_), (2, [], .int .i64 i), (4, [], .slice long1.ptr long1.len long1.cap), (34, [], .pointer b_)] ?_
        obtain ⟨hp_14, h⟩ := h
        refine Zv (fun pp => [(0, [], .pointer b_), (2, [], .int .i64 i), (4, [], .slice long1.ptr long1.len long1.cap), (34, [], .pointer pp)]) hp_14 ?_
        refine Zn P1 2 [(0, [], .pointer b_), (2, [], .int .i64 i), (4, [], .slice long1.ptr long1.len long1.cap), (34, [], .pointer (some ⟨(pblk b_), (poff b_), none⟩)), (35, [], .pointer (some ⟨(pblk b_), (poff b_), none⟩))] ?_
        refine Zn P1 3 [(0, [], .pointer b_), (2, [], .int .i64 i), (4, [], .slice long1.ptr long1.len long1.cap), (36, [], .pointer (some ⟨(pblk b_), (poff b_) + 1, none⟩))] ?_
        obtain ⟨v37, hc, h⟩ := h
        refine Zl 37 36 (pblk b_) ((poff b_) + 1) 37 37 hc ?_
        refine Zn P2 6 [(0, [], .pointer b_), (2, [], .int .i64 i), (37, [], .slice v37.ptr v37.len v37.cap), (38, [], .int .i64 i), (39, [], .slice long1.ptr long1.len long1.cap)] ?_
        obtain ⟨hp_15, h⟩ := h
        refine Zv (fun pp => [(0, [], .pointer b_), (2, [], .int .i64 i), (37, [], .slice pp v37.len v37.cap), (38, [], .int .i64 i), (39, [], .slice long1.ptr long1.len long1.cap)]) hp_15 ?_
        obtain ⟨h0, h1, h⟩ := h
        refine Zj 37 81 37 38 (pblk v37.ptr) (poff v37.ptr) v37.len v37.cap i 3 40 0 h0 h1 ?_
        refine Zn P1 8 [(0, [], .pointer b_), (2, [], .int .i64 i), (39, [], .slice long1.ptr long1.len long1.cap), (41, [], .pointer (some ⟨(pblk v37.ptr), ((poff v37.ptr) + i.toNat * 3) + 1, none⟩))] ?_
        obtain ⟨hc, h⟩ := h
        refine Zo 28 41 39 (pblk v37.ptr) (((poff v37.ptr) + i.toNat * 3) + 1) 1 [.slice long1.ptr long1.len long1.cap] hc (fun w8 hw => ?_)
        replace h := h w8 hw
        clear hw
        refine Ze [(0, .pointer b_), (2, .int .i64 i)] ?_
        change WpE _ _ c44_41 _ _ _
        refine Zr r44_41 ?_
        refine Zf P3 [(0, .pointer b_), (2, .int .i64 (IntKind.i64.wrap (i + 1)))] ?_
        have hb_ := again__h _ _ h
        exact ⟨_, hb_.2, [(0, Value.pointer b_), (2, Value.int .i64 (IntKind.i64.wrap (i + 1)))], Sub.mk (by kernel_rfl), (IntKind.i64.wrap (i + 1)), rfl, hb_.1, rfl⟩
    · replace h := h.2 hb
      refine wpE_exit (id := 0) (by kernel_rfl) ?_
      repeat (first | refine seqQ_exit ?_ | refine loopQ_exit ?_ | refine cutQ_exit ?_ | refine blockQ_hit ?_ | refine blockQ_miss (by kernel_rfl) ?_)
      refine retQ_normal ?_
      repeat (first | refine seqQ_ret ?_ | refine blockQ_ret ?_ | refine loopQ_ret ?_ | refine cutQ_ret ?_)
      exact retT (rs := []) (vs := []) (by kernel_rfl) (trivial) (by kernel_rfl) ⟨rfl, h⟩
  · rintro e w' ⟨v, rfl, rfl, h⟩; exact ⟨rfl, h⟩

/-! ### (*towpath/towpathlaw01.Book).growInt (function 45) -/
noncomputable def c45_0 := (Tryz.f45.body).getD Code.skip
noncomputable def c45_3 := Code.r c45_0
noncomputable def c45_4 := Code.l c45_3
noncomputable def c45_5 := Code.l c45_4
noncomputable def c45_6 := Code.l c45_5
noncomputable def c45_7 := Code.l c45_6
noncomputable def r45_7 := Code.ops c45_7
noncomputable def c45_9 := Code.r c45_6
noncomputable def c45_10 := Code.l c45_9
noncomputable def c45_11 := Code.r c45_9
noncomputable def c45_12 := Code.r c45_5

theorem S_towpathlaw01_Book_growInt {b_ : Option Addr} {w : World} {R : World → Prop} (h : F_towpathlaw01_Book_growInt b_ R w) : C_towpathlaw01_Book_growInt b_ w R := by
  unfold F_towpathlaw01_Book_growInt at h
  unfold C_towpathlaw01_Book_growInt
  refine Calls.mono (calls_of_wpE (args := [Value.pointer b_]) (R := fun v w' => v = Value.tuple #[] ∧ R w') Tryz.func45 (c := c45_0) (by kernel_rfl) 42 (by kernel_rfl) (by kernel_rfl) [(0, Value.pointer b_)] (by kernel_rfl) ?_) ?_
  · refine Zp c45_3 P1 [(0, .pointer b_), (2, .int .i64 0)] ?_
    refine Zb 0 c45_4 ?_
    obtain ⟨I, μ, h0, hr⟩ := h
    refine wpE_loop (x := c45_5) (by kernel_rfl) (fun m l w => ∃ (i : Int), l = [(0, Value.pointer b_), (2, Value.int .i64 i)] ∧ I i w ∧ μ i w = m) (l' := [(0, Value.pointer b_), (2, Value.int .i64 0)]) (Sub.mk (by kernel_rfl)) ⟨0, rfl, h0, rfl⟩ ?_
    rintro _ _ w1 ⟨i, rfl, hI, rfl⟩
    obtain ⟨again_, again__h, h⟩ : ∃ again_ : Int → World → Prop, (∀ i' w', again_ i' w' → I i' w' ∧ μ i' w' < μ i w1) ∧ F_towpathlaw01_Book_growInt_L0 b_ R again_ i w1 := ⟨_, fun _ _ h => h, hr i w1 hI⟩
    clear h0 hI
    unfold F_towpathlaw01_Book_growInt_L0 at h
    refine Zs c45_6 c45_12 ?_
    refine Zt r45_7 c45_9 ?_
    refine Zn P2 2 [(0, [], .pointer b_), (2, [], .int .i64 i), (6, [], .int .i64 i), (7, [], .pointer b_)] ?_
    obtain ⟨hp_3, h⟩ := h
    refine Zv (fun pp => [(0, [], .pointer b_), (2, [], .int .i64 i), (6, [], .int .i64 i), (7, [], .pointer pp)]) hp_3 ?_
    refine Zn P1 3 [(0, [], .pointer b_), (2, [], .int .i64 i), (6, [], .int .i64 i), (7, [], .pointer (some ⟨(pblk b_), (poff b_), none⟩)), (8, [], .pointer (some ⟨(pblk b_), (poff b_), none⟩))] ?_
    refine Zn P1 4 [(0, [], .pointer b_), (2, [], .int .i64 i), (6, [], .int .i64 i), (9, [], .pointer (some ⟨(pblk b_), (poff b_) + 2, none⟩))] ?_
    obtain ⟨v10, hc, h⟩ := h
    refine Zl 38 9 (pblk b_) ((poff b_) + 2) 38 10 hc ?_
    refine Zf P2 [(0, .pointer b_), (2, .int .i64 i), (12, .bool (decide (i < ((v10.len : Nat) : Int))))] ?_
    change WpE _ _ c45_9 _ _ _
    refine Zc 12 (decide (i < ((v10.len : Nat) : Int))) c45_10 c45_11 (fun hb => ?_) (fun hb => ?_)
    · replace h := h.1 hb
      exact h.elim
    · replace h := h.2 hb
      refine wpE_exit (id := 0) (by kernel_rfl) ?_
      repeat (first | refine seqQ_exit ?_ | refine loopQ_exit ?_ | refine cutQ_exit ?_ | refine blockQ_hit ?_ | refine blockQ_miss (by kernel_rfl) ?_)
      refine retQ_normal ?_
      repeat (first | refine seqQ_ret ?_ | refine blockQ_ret ?_ | refine loopQ_ret ?_ | refine cutQ_ret ?_)
      exact retT (rs := []) (vs := []) (by kernel_rfl) (trivial) (by kernel_rfl) ⟨rfl, h⟩
  · rintro e w' ⟨v, rfl, rfl, h⟩; exact ⟨rfl, h⟩

/-! ### (*towpath/towpathlaw01.Book).growText (function 46) -/
noncomputable def c46_0 := (Tryz.f46.body).getD Code.skip
noncomputable def c46_3 := Code.r c46_0
noncomputable def c46_4 := Code.l c46_3
noncomputable def c46_5 := Code.l c46_4
noncomputable def c46_6 := Code.l c46_5
noncomputable def c46_7 := Code.l c46_6
noncomputable def r46_7 := Code.ops c46_7
noncomputable def c46_9 := Code.r c46_6
noncomputable def c46_10 := Code.l c46_9
noncomputable def c46_11 := Code.r c46_9
noncomputable def c46_12 := Code.r c46_5

theorem S_towpathlaw01_Book_growText {b_ : Option Addr} {w : World} {R : World → Prop} (h : F_towpathlaw01_Book_growText b_ R w) : C_towpathlaw01_Book_growText b_ w R := by
  unfold F_towpathlaw01_Book_growText at h
  unfold C_towpathlaw01_Book_growText
  refine Calls.mono (calls_of_wpE (args := [Value.pointer b_]) (R := fun v w' => v = Value.tuple #[] ∧ R w') Tryz.func46 (c := c46_0) (by kernel_rfl) 42 (by kernel_rfl) (by kernel_rfl) [(0, Value.pointer b_)] (by kernel_rfl) ?_) ?_
  · refine Zp c46_3 P1 [(0, .pointer b_), (2, .int .i64 0)] ?_
    refine Zb 0 c46_4 ?_
    obtain ⟨I, μ, h0, hr⟩ := h
    refine wpE_loop (x := c46_5) (by kernel_rfl) (fun m l w => ∃ (i : Int), l = [(0, Value.pointer b_), (2, Value.int .i64 i)] ∧ I i w ∧ μ i w = m) (l' := [(0, Value.pointer b_), (2, Value.int .i64 0)]) (Sub.mk (by kernel_rfl)) ⟨0, rfl, h0, rfl⟩ ?_
    rintro _ _ w1 ⟨i, rfl, hI, rfl⟩
    obtain ⟨again_, again__h, h⟩ : ∃ again_ : Int → World → Prop, (∀ i' w', again_ i' w' → I i' w' ∧ μ i' w' < μ i w1) ∧ F_towpathlaw01_Book_growText_L0 b_ R again_ i w1 := ⟨_, fun _ _ h => h, hr i w1 hI⟩
    clear h0 hI
    unfold F_towpathlaw01_Book_growText_L0 at h
    refine Zs c46_6 c46_12 ?_
    refine Zt r46_7 c46_9 ?_
    refine Zn P2 2 [(0, [], .pointer b_), (2, [], .int .i64 i), (6, [], .int .i64 i), (7, [], .pointer b_)] ?_
    obtain ⟨hp_3, h⟩ := h
    refine Zv (fun pp => [(0, [], .pointer b_), (2, [], .int .i64 i), (6, [], .int .i64 i), (7, [], .pointer pp)]) hp_3 ?_
    refine Zn P1 3 [(0, [], .pointer b_), (2, [], .int .i64 i), (6, [], .int .i64 i), (7, [], .pointer (some ⟨(pblk b_), (poff b_), none⟩)), (8, [], .pointer (some ⟨(pblk b_), (poff b_), none⟩))] ?_
    refine Zn P1 4 [(0, [], .pointer b_), (2, [], .int .i64 i), (6, [], .int .i64 i), (9, [], .pointer (some ⟨(pblk b_), (poff b_) + 3, none⟩))] ?_
    obtain ⟨v10, hc, h⟩ := h
    refine Zl 39 9 (pblk b_) ((poff b_) + 3) 39 10 hc ?_
    refine Zf P2 [(0, .pointer b_), (2, .int .i64 i), (12, .bool (decide (i < ((v10.len : Nat) : Int))))] ?_
    change WpE _ _ c46_9 _ _ _
    refine Zc 12 (decide (i < ((v10.len : Nat) : Int))) c46_10 c46_11 (fun hb => ?_) (fun hb => ?_)
    · replace h := h.1 hb
      exact h.elim
    · replace h := h.2 hb
      refine wpE_exit (id := 0) (by kernel_rfl) ?_
      repeat (first | refine seqQ_exit ?_ | refine loopQ_exit ?_ | refine cutQ_exit ?_ | refine blockQ_hit ?_ | refine blockQ_miss (by kernel_rfl) ?_)
      refine retQ_normal ?_
      repeat (first | refine seqQ_ret ?_ | refine blockQ_ret ?_ | refine loopQ_ret ?_ | refine cutQ_ret ?_)
      exact retT (rs := []) (vs := []) (by kernel_rfl) (trivial) (by kernel_rfl) ⟨rfl, h⟩
  · rintro e w' ⟨v, rfl, rfl, h⟩; exact ⟨rfl, h⟩

/-! ### (*towpath/towpathlaw01.Book).growWrite (function 47) -/
noncomputable def c47_0 := (Tryz.f47.body).getD Code.skip
noncomputable def c47_3 := Code.r c47_0
noncomputable def c47_4 := Code.l c47_3
noncomputable def c47_5 := Code.l c47_4
noncomputable def c47_6 := Code.l c47_5
noncomputable def c47_7 := Code.l c47_6
noncomputable def r47_7 := Code.ops c47_7
noncomputable def c47_9 := Code.r c47_6
noncomputable def c47_10 := Code.l c47_9
noncomputable def c47_11 := Code.r c47_9
noncomputable def c47_12 := Code.r c47_5
noncomputable def c47_13 := Code.l c47_12
noncomputable def c47_14 := Code.l c47_13
noncomputable def c47_15 := Code.l c47_14
noncomputable def r47_15 := Code.ops c47_15
noncomputable def c47_17 := Code.r c47_14
noncomputable def c47_18 := Code.l c47_17
noncomputable def r47_18 := Code.ops c47_18
noncomputable def c47_20 := Code.r c47_17
noncomputable def c47_21 := Code.l c47_20
noncomputable def c47_24 := Code.r c47_21
noncomputable def c47_25 := Code.l c47_24
noncomputable def c47_26 := Code.l c47_25
noncomputable def c47_27 := Code.l c47_26
noncomputable def c47_30 := Code.r c47_27
noncomputable def c47_31 := Code.l c47_30
noncomputable def c47_32 := Code.r c47_30
noncomputable def c47_33 := Code.r c47_26
noncomputable def c47_34 := Code.l c47_33
noncomputable def c47_35 := Code.l c47_34
noncomputable def r47_35 := Code.ops c47_35
noncomputable def c47_37 := Code.r c47_33
noncomputable def r47_37 := Code.ops c47_37
noncomputable def c47_39 := Code.r c47_20
noncomputable def r47_39 := Code.ops c47_39
noncomputable def c47_41 := Code.r c47_12
noncomputable def r47_41 := Code.ops c47_41

theorem S_towpathlaw01_Book_growWrite {b_ : Option Addr} {w : World} {R : World → Prop} (h : F_towpathlaw01_Book_growWrite b_ R w) : C_towpathlaw01_Book_growWrite b_ w R := by
  unfold F_towpathlaw01_Book_growWrite at h
  unfold C_towpathlaw01_Book_growWrite
  refine Calls.mono (calls_of_wpE (args := [Value.pointer b_]) (R := fun v w' => v = Value.tuple #[] ∧ R w') Tryz.func47 (c := c47_0) (by kernel_rfl) 42 (by kernel_rfl) (by kernel_rfl) [(0, Value.pointer b_)] (by kernel_rfl) ?_) ?_
  · refine Zp c47_3 P1 [(0, .pointer b_), (2, .int .i64 0)] ?_
    refine Zb 0 c47_4 ?_
    obtain ⟨I, μ, h0, hr⟩ := h
    refine wpE_loop (x := c47_5) (by kernel_rfl) (fun m l w => ∃ (i : Int), l = [(0, Value.pointer b_), (2, Value.int .i64 i)] ∧ I i w ∧ μ i w = m) (l' := [(0, Value.pointer b_), (2, Value.int .i64 0)]) (Sub.mk (by kernel_rfl)) ⟨0, rfl, h0, rfl⟩ ?_
    rintro _ _ w1 ⟨i, rfl, hI, rfl⟩
    obtain ⟨again_, again__h, h⟩ : ∃ again_ : Int → World → Prop, (∀ i' w', again_ i' w' → I i' w' ∧ μ i' w' < μ i w1) ∧ F_towpathlaw01_Book_growWrite_L0 b_ R again_ i w1 := ⟨_, fun _ _ h => h, hr i w1 hI⟩
    clear h0 hI
    unfold F_towpathlaw01_Book_growWrite_L0 at h
    refine Zs c47_6 c47_12 ?_
    refine Zt r47_7 c47_9 ?_
    refine Zn P2 2 [(0, [], .pointer b_), (2, [], .int .i64 i), (6, [], .int .i64 i), (7, [], .pointer b_)] ?_
    obtain ⟨hp_3, h⟩ := h
    refine Zv (fun pp => [(0, [], .pointer b_), (2, [], .int .i64 i), (6, [], .int .i64 i), (7, [], .pointer pp)]) hp_3 ?_
    refine Zn P1 3 [(0, [], .pointer b_), (2, [], .int .i64 i), (6, [], .int .i64 i), (7, [], .pointer (some ⟨(pblk b_), (poff b_), none⟩)), (8, [], .pointer (some ⟨(pblk b_), (poff b_), none⟩))] ?_
    refine Zn P1 4 [(0, [], .pointer b_), (2, [], .int .i64 i), (6, [], .int .i64 i), (9, [], .pointer (some ⟨(pblk b_), (poff b_) + 4, none⟩))] ?_
    obtain ⟨v10, hc, h⟩ := h
    refine Zl 40 9 (pblk b_) ((poff b_) + 4) 40 10 hc ?_
    refine Zf P2 [(0, .pointer b_), (2, .int .i64 i), (12, .bool (decide (i < ((v10.len : Nat) : Int))))] ?_
    change WpE _ _ c47_9 _ _ _
    refine Zc 12 (decide (i < ((v10.len : Nat) : Int))) c47_10 c47_11 (fun hb => ?_) (fun hb => ?_)
    · replace h := h.1 hb
      refine wpE_skip (by kernel_rfl) ?_
      change WpE _ _ c47_12 _ _ _
      refine Zs c47_13 c47_41 ?_
      refine Zb 1 c47_14 ?_
      refine Zt r47_15 c47_17 ?_
      refine Zn P1 1 [(0, [], .pointer b_), (2, [], .int .i64 i), (15, [], .pointer b_)] ?_
      obtain ⟨hp_12, h⟩ := h
      refine Zv (fun pp => [(0, [], .pointer b_), (2, [], .int .i64 i), (15, [], .pointer pp)]) hp_12 ?_
      refine Zn P1 2 [(0, [], .pointer b_), (2, [], .int .i64 i), (15, [], .pointer (some ⟨(pblk b_), (poff b_), none⟩)), (16, [], .pointer (some ⟨(pblk b_), (poff b_), none⟩))] ?_
      refine Zn P1 3 [(0, [], .pointer b_), (2, [], .int .i64 i), (17, [], .pointer (some ⟨(pblk b_), (poff b_) + 4, none⟩))] ?_
      obtain ⟨v18, hc, h⟩ := h
      refine Zl 40 17 (pblk b_) ((poff b_) + 4) 40 18 hc ?_
      refine Zn P1 5 [(0, [], .pointer b_), (2, [], .int .i64 i), (18, [], .slice v18.ptr v18.len v18.cap), (19, [], .int .i64 i)] ?_
      obtain ⟨hp_13, h⟩ := h
      refine Zv (fun pp => [(0, [], .pointer b_), (2, [], .int .i64 i), (18, [], .slice pp v18.len v18.cap), (19, [], .int .i64 i)]) hp_13 ?_
      obtain ⟨h0, h1, h⟩ := h
      refine Zj 40 91 18 19 (pblk v18.ptr) (poff v18.ptr) v18.len v18.cap i 3 20 0 h0 h1 ?_
      refine Zn [] 6 [(0, [], .pointer b_), (2, [], .int .i64 i), (20, [], .pointer (some ⟨(pblk v18.ptr), (poff v18.ptr) + i.toNat * 3, none⟩))] ?_
      obtain ⟨v21, hc, h⟩ := h
      refine reg_loadN (t := 91) (a := (Operand.tmp 20)) (b := (pblk v18.ptr)) (o := ((poff v18.ptr) + i.toNat * 3)) (ty := 91) (dst := some 21) [Value.slice v21.l.ptr v21.l.len v21.l.cap, Value.slice v21.long.ptr v21.long.len v21.long.cap, Value.int .i64 v21.n] (by kernel_rfl) (by kernel_rfl) (by kernel_rfl) (k := 3) (by kernel_rfl) (by kernel_rfl) hc ?_
      refine Zn [] 7 [(0, [], .pointer b_), (2, [], .int .i64 i), (21, [], .agg #[.slice v21.l.ptr v21.l.len v21.l.cap, .slice v21.long.ptr v21.long.len v21.long.cap, .int .i64 v21.n])] ?_
      refine Zw (some 3) (fun bb => .pointer (some ⟨bb, 0, none⟩)) (Obj.cells ([.slice none 0 0, .slice none 0 0, .int .i64 0]).toArray ty_towpathlaw01_heldWrite (0, 0)) (fun b_1 w2 hb hw => ?_)
      replace h := h b_1 w2 hb hw
      clear hb hw
      refine Zn [] 8 [(0, [], .pointer b_), (2, [], .int .i64 i), (3, [], .pointer (some ⟨b_1, 0, none⟩)), (21, [], .agg #[.slice v21.l.ptr v21.l.len v21.l.cap, .slice v21.long.ptr v21.long.len v21.long.cap, .int .i64 v21.n])] ?_
      obtain ⟨hc, h⟩ := h
      refine Zo 91 3 21 b_1 0 3 [.slice v21.l.ptr v21.l.len v21.l.cap, .slice v21.long.ptr v21.long.len v21.long.cap, .int .i64 v21.n] hc (fun w3 hw => ?_)
      replace h := h w3 hw
      clear hw
      refine Ze [(0, .pointer b_), (2, .int .i64 i), (3, .pointer (some ⟨b_1, 0, none⟩))] ?_
      change WpE _ _ c47_17 _ _ _
      refine Zt r47_18 c47_20 ?_
      refine Zn P1 1 [(0, [], .pointer b_), (2, [], .int .i64 i), (3, [], .pointer (some ⟨b_1, 0, none⟩)), (22, [], .pointer (some ⟨b_1, 0, none⟩))] ?_
      obtain ⟨long, hc, h⟩ := h
      refine Zl 22 22 b_1 0 22 23 hc ?_
      refine Zf P1 [(0, .pointer b_), (2, .int .i64 i), (3, .pointer (some ⟨b_1, 0, none⟩)), (4, .slice long.ptr long.len long.cap)] ?_
      change WpE _ _ c47_20 _ _ _
      refine Zs c47_21 c47_39 ?_
      refine Zp c47_24 P1 [(0, .pointer b_), (2, .int .i64 i), (3, .pointer (some ⟨b_1, 0, none⟩)), (4, .slice long.ptr long.len long.cap), (5, .int .i64 0)] ?_
      refine Zb 2 c47_25 ?_
      obtain ⟨I, μ, h0, hr⟩ := h
      refine wpE_loop (x := c47_26) (by kernel_rfl) (fun m l w => ∃ (long1 : Slc) (k : Int), l = [(0, Value.pointer b_), (2, Value.int .i64 i), (3, Value.pointer (some ⟨b_1, 0, none⟩)), (4, Value.slice long1.ptr long1.len long1.cap), (5, Value.int .i64 k)] ∧ I long1 k w ∧ μ long1 k w = m) (l' := [(0, Value.pointer b_), (2, Value.int .i64 i), (3, Value.pointer (some ⟨b_1, 0, none⟩)), (4, Value.slice long.ptr long.len long.cap), (5, Value.int .i64 0)]) (Sub.mk (by kernel_rfl)) ⟨long, 0, rfl, h0, rfl⟩ ?_
      rintro _ _ w4 ⟨long1, k, rfl, hI, rfl⟩
      obtain ⟨again_1, again_1_h, h⟩ : ∃ again_1 : Slc → Int → World → Prop, (∀ long1' k' w', again_1 long1' k' w' → I long1' k' w' ∧ μ long1' k' w' < μ long1 k w4) ∧ F_towpathlaw01_Book_growWrite_L1 b_ i again_ b_1 again_1 long1 k w4 := ⟨_, fun _ _ _ h => h, hr long1 k w4 hI⟩
      clear h0 hI
      unfold F_towpathlaw01_Book_growWrite_L1 at h
      refine Zs c47_27 c47_33 ?_
      refine Zp c47_30 P2 [(0, .pointer b_), (2, .int .i64 i), (3, .pointer (some ⟨b_1, 0, none⟩)), (4, .slice long1.ptr long1.len long1.cap), (5, .int .i64 k), (25, .bool (decide (k < 70)))] ?_
      refine Zc 25 (decide (k < 70)) c47_31 c47_32 (fun hb => ?_) (fun hb => ?_)
      · replace h := h.1 hb
        refine wpE_skip (by kernel_rfl) ?_
        change WpE _ _ c47_33 _ _ _
        refine Zs c47_34 c47_37 ?_
        refine Zb 3 c47_35 ?_
        refine Zr r47_35 ?_
        refine Zn P2 2 [(0, [], .pointer b_), (2, [], .int .i64 i), (3, [], .pointer (some ⟨b_1, 0, none⟩)), (4, [], .slice long1.ptr long1.len long1.cap), (5, [], .int .i64 k), (28, [], .slice long1.ptr long1.len long1.cap), (29, [], .pointer (some ⟨b_1, 2, none⟩))] ?_
        obtain ⟨v30, hc, h⟩ := h
        refine Zl 3 29 b_1 2 3 30 hc ?_
        refine Zn [] 3 [(0, [], .pointer b_), (2, [], .int .i64 i), (3, [], .pointer (some ⟨b_1, 0, none⟩)), (4, [], .slice long1.ptr long1.len long1.cap), (5, [], .int .i64 k), (28, [], .slice long1.ptr long1.len long1.cap), (30, [], .int .i64 v30)] ?_
        refine Zm 75 #[.int .i64 v30] (some 31) (Calls.mono h ?_)
        rintro _ w5 ⟨v31, rfl, h⟩
        refine ⟨_, rfl, ?_⟩
        refine Zn [] 4 [(0, [], .pointer b_), (2, [], .int .i64 i), (3, [], .pointer (some ⟨b_1, 0, none⟩)), (4, [], .slice long1.ptr long1.len long1.cap), (5, [], .int .i64 k), (28, [], .slice long1.ptr long1.len long1.cap), (31, [], .agg #[.string v31.Key, .string v31.Val, .bool v31.Drop])] ?_
        refine Zw (some 32) (fun bb => .slice (some ⟨bb, 0, none⟩) 1 1) (Obj.cells ([.string v31.Key, .string v31.Val, .bool v31.Drop]).toArray ty_api_Write (0, 0)) (fun b_2 w6 hb hw => ?_)
        replace h := h b_2 w6 hb hw
        clear hb hw
        refine Zn [] 5 [(0, [], .pointer b_), (2, [], .int .i64 i), (3, [], .pointer (some ⟨b_1, 0, none⟩)), (4, [], .slice long1.ptr long1.len long1.cap), (5, [], .int .i64 k), (28, [], .slice long1.ptr long1.len long1.cap), (32, [], .slice (some ⟨b_2, 0, none⟩) 1 1)] ?_
        obtain ⟨src, hs, h⟩ := h
        refine reg_append (t := 22) (tx := 22) (e := 62) (a := (Operand.tmp 28)) (xo := (Operand.tmp 32)) (s := long1) (x := (Slc.mk (some ⟨b_2, 0, none⟩) 1 1)) (sz := 3) (by_ := 40) (zs := [Value.string ByteArray.empty, Value.string ByteArray.empty, Value.bool false]) (ty := 22) (dst := some 33)  src (by kernel_rfl) (by kernel_rfl) (by kernel_rfl) (by kernel_rfl) (by kernel_rfl) (by kernel_rfl) (by kernel_rfl) (by kernel_rfl) (by kernel_rfl) hs (AppendW.mono h (fun long2 w7 h => ?_))
        refine Zf P1 [(0, .pointer b_), (2, .int .i64 i), (3, .pointer (some ⟨b_1, 0, none⟩)), (4, .slice long2.ptr long2.len long2.cap), (5, .int .i64 k)] ?_
        change WpE _ _ c47_37 _ _ _
        refine Zr r47_37 ?_
        refine Zf P3 [(0, .pointer b_), (2, .int .i64 i), (3, .pointer (some ⟨b_1, 0, none⟩)), (4, .slice long2.ptr long2.len long2.cap), (5, .int .i64 (IntKind.i64.wrap (k + 1)))] ?_
        have hb_ := again_1_h _ _ _ h
        exact ⟨_, hb_.2, [(0, Value.pointer b_), (2, Value.int .i64 i), (3, Value.pointer (some ⟨b_1, 0, none⟩)), (4, Value.slice long2.ptr long2.len long2.cap), (5, Value.int .i64 (IntKind.i64.wrap (k + 1)))], Sub.mk (by kernel_rfl), long2, (IntKind.i64.wrap (k + 1)), rfl, hb_.1, rfl⟩
      · replace h := h.2 hb
        refine wpE_exit (id := 2) (by kernel_rfl) ?_
        change WpE _ _ c47_39 _ _ _
        refine Zr r47_39 ?_
        refine Zn P1 1 [(0, [], .pointer b_), (2, [], .int .i64 i), (4, [], .slice long1.ptr long1.len long1.cap), (34, [], .pointer b_)] ?_
        obtain ⟨hp_14, h⟩ := h
        refine Zv (fun pp => [(0, [], .pointer b_), (2, [], .int .i64 i), (4, [], .slice long1.ptr long1.len long1.cap), (34, [], .pointer pp)]) hp_14 ?_
        refine Zn P1 2 [(0, [], .pointer b_), (2, [], .int .i64 i), (4, [], .slice long1.ptr long1.len long1.cap), (34, [], .pointer (some ⟨(pblk b_), (poff b_), none⟩)), (35, [], .pointer (some ⟨(pblk b_), (poff b_), none⟩))] ?_
        refine Zn P1 3 [(0, [], .pointer b_), (2, [], .int .i64 i), (4, [], .slice long1.ptr long1.len long1.cap), (36, [], .pointer (some ⟨(pblk b_), (poff b_) + 4, none⟩))] ?_
        obtain ⟨v37, hc, h⟩ := h
        refine Zl 40 36 (pblk b_) ((poff b_) + 4) 40 37 hc ?_
        refine Zn P2 6 [(0, [], .pointer b_), (2, [], .int .i64 i), (37, [], .slice v37.ptr v37.len v37.cap), (38, [], .int .i64 i), (39, [], .slice long1.ptr long1.len long1.cap)] ?_
        obtain ⟨hp_15, h⟩ := h
        refine Zv (fun pp => [(0, [], .pointer b_), (2, [], .int .i64 i), (37, [], .slice pp v37.len v37.cap), (38, [], .int .i64 i), (39, [], .slice long1.ptr long1.len long1.cap)]) hp_15 ?_
        obtain ⟨h0, h1, h⟩ := h
        refine Zj 40 91 37 38 (pblk v37.ptr) (poff v37.ptr) v37.len v37.cap i 3 40 0 h0 h1 ?_
        refine Zn P1 8 [(0, [], .pointer b_), (2, [], .int .i64 i), (39, [], .slice long1.ptr long1.len long1.cap), (41, [], .pointer (some ⟨(pblk v37.ptr), ((poff v37.ptr) + i.toNat * 3) + 1, none⟩))] ?_
        obtain ⟨hc, h⟩ := h
        refine Zo 22 41 39 (pblk v37.ptr) (((poff v37.ptr) + i.toNat * 3) + 1) 1 [.slice long1.ptr long1.len long1.cap] hc (fun w8 hw => ?_)
        replace h := h w8 hw
        clear hw
        refine Ze [(0, .pointer b_), (2, .int .i64 i)] ?_
        change WpE _ _ c47_41 _ _ _
        refine Zr r47_41 ?_
        refine Zf P3 [(0, .pointer b_), (2, .int .i64 (IntKind.i64.wrap (i + 1)))] ?_
        have hb_ := again__h _ _ h
        exact ⟨_, hb_.2, [(0, Value.pointer b_), (2, Value.int .i64 (IntKind.i64.wrap (i + 1)))], Sub.mk (by kernel_rfl), (IntKind.i64.wrap (i + 1)), rfl, hb_.1, rfl⟩
    · replace h := h.2 hb
      refine wpE_exit (id := 0) (by kernel_rfl) ?_
      repeat (first | refine seqQ_exit ?_ | refine loopQ_exit ?_ | refine cutQ_exit ?_ | refine blockQ_hit ?_ | refine blockQ_miss (by kernel_rfl) ?_)
      refine retQ_normal ?_
      repeat (first | refine seqQ_ret ?_ | refine blockQ_ret ?_ | refine loopQ_ret ?_ | refine cutQ_ret ?_)
      exact retT (rs := []) (vs := []) (by kernel_rfl) (trivial) (by kernel_rfl) ⟨rfl, h⟩
  · rintro e w' ⟨v, rfl, rfl, h⟩; exact ⟨rfl, h⟩

/-! ### (*towpath/towpathlaw01.Book).growEntry (function 48) -/
noncomputable def c48_0 := (Tryz.f48.body).getD Code.skip
noncomputable def c48_3 := Code.r c48_0
noncomputable def c48_4 := Code.l c48_3
noncomputable def c48_5 := Code.l c48_4
noncomputable def c48_6 := Code.l c48_5
noncomputable def c48_7 := Code.l c48_6
noncomputable def r48_7 := Code.ops c48_7
noncomputable def c48_9 := Code.r c48_6
noncomputable def c48_10 := Code.l c48_9
noncomputable def c48_11 := Code.r c48_9
noncomputable def c48_12 := Code.r c48_5

theorem S_towpathlaw01_Book_growEntry {b_ : Option Addr} {w : World} {R : World → Prop} (h : F_towpathlaw01_Book_growEntry b_ R w) : C_towpathlaw01_Book_growEntry b_ w R := by
  unfold F_towpathlaw01_Book_growEntry at h
  unfold C_towpathlaw01_Book_growEntry
  refine Calls.mono (calls_of_wpE (args := [Value.pointer b_]) (R := fun v w' => v = Value.tuple #[] ∧ R w') Tryz.func48 (c := c48_0) (by kernel_rfl) 42 (by kernel_rfl) (by kernel_rfl) [(0, Value.pointer b_)] (by kernel_rfl) ?_) ?_
  · refine Zp c48_3 P1 [(0, .pointer b_), (2, .int .i64 0)] ?_
    refine Zb 0 c48_4 ?_
    obtain ⟨I, μ, h0, hr⟩ := h
    refine wpE_loop (x := c48_5) (by kernel_rfl) (fun m l w => ∃ (i : Int), l = [(0, Value.pointer b_), (2, Value.int .i64 i)] ∧ I i w ∧ μ i w = m) (l' := [(0, Value.pointer b_), (2, Value.int .i64 0)]) (Sub.mk (by kernel_rfl)) ⟨0, rfl, h0, rfl⟩ ?_
    rintro _ _ w1 ⟨i, rfl, hI, rfl⟩
    obtain ⟨again_, again__h, h⟩ : ∃ again_ : Int → World → Prop, (∀ i' w', again_ i' w' → I i' w' ∧ μ i' w' < μ i w1) ∧ F_towpathlaw01_Book_growEntry_L0 b_ R again_ i w1 := ⟨_, fun _ _ h => h, hr i w1 hI⟩
    clear h0 hI
    unfold F_towpathlaw01_Book_growEntry_L0 at h
    refine Zs c48_6 c48_12 ?_
    refine Zt r48_7 c48_9 ?_
    refine Zn P2 2 [(0, [], .pointer b_), (2, [], .int .i64 i), (6, [], .int .i64 i), (7, [], .pointer b_)] ?_
    obtain ⟨hp_3, h⟩ := h
    refine Zv (fun pp => [(0, [], .pointer b_), (2, [], .int .i64 i), (6, [], .int .i64 i), (7, [], .pointer pp)]) hp_3 ?_
    refine Zn P1 3 [(0, [], .pointer b_), (2, [], .int .i64 i), (6, [], .int .i64 i), (7, [], .pointer (some ⟨(pblk b_), (poff b_), none⟩)), (8, [], .pointer (some ⟨(pblk b_), (poff b_), none⟩))] ?_
    refine Zn P1 4 [(0, [], .pointer b_), (2, [], .int .i64 i), (6, [], .int .i64 i), (9, [], .pointer (some ⟨(pblk b_), (poff b_) + 5, none⟩))] ?_
    obtain ⟨v10, hc, h⟩ := h
    refine Zl 41 9 (pblk b_) ((poff b_) + 5) 41 10 hc ?_
    refine Zf P2 [(0, .pointer b_), (2, .int .i64 i), (12, .bool (decide (i < ((v10.len : Nat) : Int))))] ?_
    change WpE _ _ c48_9 _ _ _
    refine Zc 12 (decide (i < ((v10.len : Nat) : Int))) c48_10 c48_11 (fun hb => ?_) (fun hb => ?_)
    · replace h := h.1 hb
      exact h.elim
    · replace h := h.2 hb
      refine wpE_exit (id := 0) (by kernel_rfl) ?_
      repeat (first | refine seqQ_exit ?_ | refine loopQ_exit ?_ | refine cutQ_exit ?_ | refine blockQ_hit ?_ | refine blockQ_miss (by kernel_rfl) ?_)
      refine retQ_normal ?_
      repeat (first | refine seqQ_ret ?_ | refine blockQ_ret ?_ | refine loopQ_ret ?_ | refine cutQ_ret ?_)
      exact retT (rs := []) (vs := []) (by kernel_rfl) (trivial) (by kernel_rfl) ⟨rfl, h⟩
  · rintro e w' ⟨v, rfl, rfl, h⟩; exact ⟨rfl, h⟩

/-! ### (*towpath/towpathlaw01.Book).growVersion (function 49) -/
noncomputable def c49_0 := (Tryz.f49.body).getD Code.skip
noncomputable def c49_3 := Code.r c49_0
noncomputable def c49_4 := Code.l c49_3
noncomputable def c49_5 := Code.l c49_4
noncomputable def c49_6 := Code.l c49_5
noncomputable def c49_7 := Code.l c49_6
noncomputable def r49_7 := Code.ops c49_7
noncomputable def c49_9 := Code.r c49_6
noncomputable def c49_10 := Code.l c49_9
noncomputable def c49_11 := Code.r c49_9
noncomputable def c49_12 := Code.r c49_5

theorem S_towpathlaw01_Book_growVersion {b_ : Option Addr} {w : World} {R : World → Prop} (h : F_towpathlaw01_Book_growVersion b_ R w) : C_towpathlaw01_Book_growVersion b_ w R := by
  unfold F_towpathlaw01_Book_growVersion at h
  unfold C_towpathlaw01_Book_growVersion
  refine Calls.mono (calls_of_wpE (args := [Value.pointer b_]) (R := fun v w' => v = Value.tuple #[] ∧ R w') Tryz.func49 (c := c49_0) (by kernel_rfl) 42 (by kernel_rfl) (by kernel_rfl) [(0, Value.pointer b_)] (by kernel_rfl) ?_) ?_
  · refine Zp c49_3 P1 [(0, .pointer b_), (2, .int .i64 0)] ?_
    refine Zb 0 c49_4 ?_
    obtain ⟨I, μ, h0, hr⟩ := h
    refine wpE_loop (x := c49_5) (by kernel_rfl) (fun m l w => ∃ (i : Int), l = [(0, Value.pointer b_), (2, Value.int .i64 i)] ∧ I i w ∧ μ i w = m) (l' := [(0, Value.pointer b_), (2, Value.int .i64 0)]) (Sub.mk (by kernel_rfl)) ⟨0, rfl, h0, rfl⟩ ?_
    rintro _ _ w1 ⟨i, rfl, hI, rfl⟩
    obtain ⟨again_, again__h, h⟩ : ∃ again_ : Int → World → Prop, (∀ i' w', again_ i' w' → I i' w' ∧ μ i' w' < μ i w1) ∧ F_towpathlaw01_Book_growVersion_L0 b_ R again_ i w1 := ⟨_, fun _ _ h => h, hr i w1 hI⟩
    clear h0 hI
    unfold F_towpathlaw01_Book_growVersion_L0 at h
    refine Zs c49_6 c49_12 ?_
    refine Zt r49_7 c49_9 ?_
    refine Zn P2 2 [(0, [], .pointer b_), (2, [], .int .i64 i), (6, [], .int .i64 i), (7, [], .pointer b_)] ?_
    obtain ⟨hp_3, h⟩ := h
    refine Zv (fun pp => [(0, [], .pointer b_), (2, [], .int .i64 i), (6, [], .int .i64 i), (7, [], .pointer pp)]) hp_3 ?_
    refine Zn P1 3 [(0, [], .pointer b_), (2, [], .int .i64 i), (6, [], .int .i64 i), (7, [], .pointer (some ⟨(pblk b_), (poff b_), none⟩)), (8, [], .pointer (some ⟨(pblk b_), (poff b_), none⟩))] ?_
    refine Zn P1 4 [(0, [], .pointer b_), (2, [], .int .i64 i), (6, [], .int .i64 i), (9, [], .pointer (some ⟨(pblk b_), (poff b_) + 6, none⟩))] ?_
    obtain ⟨v10, hc, h⟩ := h
    refine Zl 42 9 (pblk b_) ((poff b_) + 6) 42 10 hc ?_
    refine Zf P2 [(0, .pointer b_), (2, .int .i64 i), (12, .bool (decide (i < ((v10.len : Nat) : Int))))] ?_
    change WpE _ _ c49_9 _ _ _
    refine Zc 12 (decide (i < ((v10.len : Nat) : Int))) c49_10 c49_11 (fun hb => ?_) (fun hb => ?_)
    · replace h := h.1 hb
      exact h.elim
    · replace h := h.2 hb
      refine wpE_exit (id := 0) (by kernel_rfl) ?_
      repeat (first | refine seqQ_exit ?_ | refine loopQ_exit ?_ | refine cutQ_exit ?_ | refine blockQ_hit ?_ | refine blockQ_miss (by kernel_rfl) ?_)
      refine retQ_normal ?_
      repeat (first | refine seqQ_ret ?_ | refine blockQ_ret ?_ | refine loopQ_ret ?_ | refine cutQ_ret ?_)
      exact retT (rs := []) (vs := []) (by kernel_rfl) (trivial) (by kernel_rfl) ⟨rfl, h⟩
  · rintro e w' ⟨v, rfl, rfl, h⟩; exact ⟨rfl, h⟩

/-! ### (*towpath/towpathlaw01.Book).growTxn (function 50) -/
noncomputable def c50_0 := (Tryz.f50.body).getD Code.skip
noncomputable def c50_3 := Code.r c50_0
noncomputable def c50_4 := Code.l c50_3
noncomputable def c50_5 := Code.l c50_4
noncomputable def c50_6 := Code.l c50_5
noncomputable def c50_7 := Code.l c50_6
noncomputable def r50_7 := Code.ops c50_7
noncomputable def c50_9 := Code.r c50_6
noncomputable def c50_10 := Code.l c50_9
noncomputable def c50_11 := Code.r c50_9
noncomputable def c50_12 := Code.r c50_5

theorem S_towpathlaw01_Book_growTxn {b_ : Option Addr} {w : World} {R : World → Prop} (h : F_towpathlaw01_Book_growTxn b_ R w) : C_towpathlaw01_Book_growTxn b_ w R := by
  unfold F_towpathlaw01_Book_growTxn at h
  unfold C_towpathlaw01_Book_growTxn
  refine Calls.mono (calls_of_wpE (args := [Value.pointer b_]) (R := fun v w' => v = Value.tuple #[] ∧ R w') Tryz.func50 (c := c50_0) (by kernel_rfl) 42 (by kernel_rfl) (by kernel_rfl) [(0, Value.pointer b_)] (by kernel_rfl) ?_) ?_
  · refine Zp c50_3 P1 [(0, .pointer b_), (2, .int .i64 0)] ?_
    refine Zb 0 c50_4 ?_
    obtain ⟨I, μ, h0, hr⟩ := h
    refine wpE_loop (x := c50_5) (by kernel_rfl) (fun m l w => ∃ (i : Int), l = [(0, Value.pointer b_), (2, Value.int .i64 i)] ∧ I i w ∧ μ i w = m) (l' := [(0, Value.pointer b_), (2, Value.int .i64 0)]) (Sub.mk (by kernel_rfl)) ⟨0, rfl, h0, rfl⟩ ?_
    rintro _ _ w1 ⟨i, rfl, hI, rfl⟩
    obtain ⟨again_, again__h, h⟩ : ∃ again_ : Int → World → Prop, (∀ i' w', again_ i' w' → I i' w' ∧ μ i' w' < μ i w1) ∧ F_towpathlaw01_Book_growTxn_L0 b_ R again_ i w1 := ⟨_, fun _ _ h => h, hr i w1 hI⟩
    clear h0 hI
    unfold F_towpathlaw01_Book_growTxn_L0 at h
    refine Zs c50_6 c50_12 ?_
    refine Zt r50_7 c50_9 ?_
    refine Zn P2 2 [(0, [], .pointer b_), (2, [], .int .i64 i), (6, [], .int .i64 i), (7, [], .pointer b_)] ?_
    obtain ⟨hp_3, h⟩ := h
    refine Zv (fun pp => [(0, [], .pointer b_), (2, [], .int .i64 i), (6, [], .int .i64 i), (7, [], .pointer pp)]) hp_3 ?_
    refine Zn P1 3 [(0, [], .pointer b_), (2, [], .int .i64 i), (6, [], .int .i64 i), (7, [], .pointer (some ⟨(pblk b_), (poff b_), none⟩)), (8, [], .pointer (some ⟨(pblk b_), (poff b_), none⟩))] ?_
    refine Zn P1 4 [(0, [], .pointer b_), (2, [], .int .i64 i), (6, [], .int .i64 i), (9, [], .pointer (some ⟨(pblk b_), (poff b_) + 7, none⟩))] ?_
    obtain ⟨v10, hc, h⟩ := h
    refine Zl 43 9 (pblk b_) ((poff b_) + 7) 43 10 hc ?_
    refine Zf P2 [(0, .pointer b_), (2, .int .i64 i), (12, .bool (decide (i < ((v10.len : Nat) : Int))))] ?_
    change WpE _ _ c50_9 _ _ _
    refine Zc 12 (decide (i < ((v10.len : Nat) : Int))) c50_10 c50_11 (fun hb => ?_) (fun hb => ?_)
    · replace h := h.1 hb
      exact h.elim
    · replace h := h.2 hb
      refine wpE_exit (id := 0) (by kernel_rfl) ?_
      repeat (first | refine seqQ_exit ?_ | refine loopQ_exit ?_ | refine cutQ_exit ?_ | refine blockQ_hit ?_ | refine blockQ_miss (by kernel_rfl) ?_)
      refine retQ_normal ?_
      repeat (first | refine seqQ_ret ?_ | refine blockQ_ret ?_ | refine loopQ_ret ?_ | refine cutQ_ret ?_)
      exact retT (rs := []) (vs := []) (by kernel_rfl) (trivial) (by kernel_rfl) ⟨rfl, h⟩
  · rintro e w' ⟨v, rfl, rfl, h⟩; exact ⟨rfl, h⟩

/-! ### (*towpath/towpathlaw01.Book).growHeld (function 51) -/
noncomputable def c51_0 := (Tryz.f51.body).getD Code.skip
noncomputable def c51_3 := Code.r c51_0
noncomputable def c51_4 := Code.l c51_3
noncomputable def c51_5 := Code.l c51_4
noncomputable def c51_6 := Code.l c51_5
noncomputable def c51_7 := Code.l c51_6
noncomputable def r51_7 := Code.ops c51_7
noncomputable def c51_9 := Code.r c51_6
noncomputable def c51_10 := Code.l c51_9
noncomputable def c51_11 := Code.r c51_9
noncomputable def c51_12 := Code.r c51_5

theorem S_towpathlaw01_Book_growHeld {b_ : Option Addr} {w : World} {R : World → Prop} (h : F_towpathlaw01_Book_growHeld b_ R w) : C_towpathlaw01_Book_growHeld b_ w R := by
  unfold F_towpathlaw01_Book_growHeld at h
  unfold C_towpathlaw01_Book_growHeld
  refine Calls.mono (calls_of_wpE (args := [Value.pointer b_]) (R := fun v w' => v = Value.tuple #[] ∧ R w') Tryz.func51 (c := c51_0) (by kernel_rfl) 42 (by kernel_rfl) (by kernel_rfl) [(0, Value.pointer b_)] (by kernel_rfl) ?_) ?_
  · refine Zp c51_3 P1 [(0, .pointer b_), (2, .int .i64 0)] ?_
    refine Zb 0 c51_4 ?_
    obtain ⟨I, μ, h0, hr⟩ := h
    refine wpE_loop (x := c51_5) (by kernel_rfl) (fun m l w => ∃ (i : Int), l = [(0, Value.pointer b_), (2, Value.int .i64 i)] ∧ I i w ∧ μ i w = m) (l' := [(0, Value.pointer b_), (2, Value.int .i64 0)]) (Sub.mk (by kernel_rfl)) ⟨0, rfl, h0, rfl⟩ ?_
    rintro _ _ w1 ⟨i, rfl, hI, rfl⟩
    obtain ⟨again_, again__h, h⟩ : ∃ again_ : Int → World → Prop, (∀ i' w', again_ i' w' → I i' w' ∧ μ i' w' < μ i w1) ∧ F_towpathlaw01_Book_growHeld_L0 b_ R again_ i w1 := ⟨_, fun _ _ h => h, hr i w1 hI⟩
    clear h0 hI
    unfold F_towpathlaw01_Book_growHeld_L0 at h
    refine Zs c51_6 c51_12 ?_
    refine Zt r51_7 c51_9 ?_
    refine Zn P2 2 [(0, [], .pointer b_), (2, [], .int .i64 i), (6, [], .int .i64 i), (7, [], .pointer b_)] ?_
    obtain ⟨hp_3, h⟩ := h
    refine Zv (fun pp => [(0, [], .pointer b_), (2, [], .int .i64 i), (6, [], .int .i64 i), (7, [], .pointer pp)]) hp_3 ?_
    refine Zn P1 3 [(0, [], .pointer b_), (2, [], .int .i64 i), (6, [], .int .i64 i), (7, [], .pointer (some ⟨(pblk b_), (poff b_), none⟩)), (8, [], .pointer (some ⟨(pblk b_), (poff b_), none⟩))] ?_
    refine Zn P1 4 [(0, [], .pointer b_), (2, [], .int .i64 i), (6, [], .int .i64 i), (9, [], .pointer (some ⟨(pblk b_), (poff b_) + 8, none⟩))] ?_
    obtain ⟨v10, hc, h⟩ := h
    refine Zl 44 9 (pblk b_) ((poff b_) + 8) 44 10 hc ?_
    refine Zf P2 [(0, .pointer b_), (2, .int .i64 i), (12, .bool (decide (i < ((v10.len : Nat) : Int))))] ?_
    change WpE _ _ c51_9 _ _ _
    refine Zc 12 (decide (i < ((v10.len : Nat) : Int))) c51_10 c51_11 (fun hb => ?_) (fun hb => ?_)
    · replace h := h.1 hb
      exact h.elim
    · replace h := h.2 hb
      refine wpE_exit (id := 0) (by kernel_rfl) ?_
      repeat (first | refine seqQ_exit ?_ | refine loopQ_exit ?_ | refine cutQ_exit ?_ | refine blockQ_hit ?_ | refine blockQ_miss (by kernel_rfl) ?_)
      refine retQ_normal ?_
      repeat (first | refine seqQ_ret ?_ | refine blockQ_ret ?_ | refine loopQ_ret ?_ | refine cutQ_ret ?_)
      exact retT (rs := []) (vs := []) (by kernel_rfl) (trivial) (by kernel_rfl) ⟨rfl, h⟩
  · rintro e w' ⟨v, rfl, rfl, h⟩; exact ⟨rfl, h⟩

/-! ### (*towpath/towpathlaw01.Book).growHeldList (function 52) -/
noncomputable def c52_0 := (Tryz.f52.body).getD Code.skip
noncomputable def c52_3 := Code.r c52_0
noncomputable def c52_4 := Code.l c52_3
noncomputable def c52_5 := Code.l c52_4
noncomputable def c52_6 := Code.l c52_5
noncomputable def c52_7 := Code.l c52_6
noncomputable def r52_7 := Code.ops c52_7
noncomputable def c52_9 := Code.r c52_6
noncomputable def c52_10 := Code.l c52_9
noncomputable def c52_11 := Code.r c52_9
noncomputable def c52_12 := Code.r c52_5

theorem S_towpathlaw01_Book_growHeldList {b_ : Option Addr} {w : World} {R : World → Prop} (h : F_towpathlaw01_Book_growHeldList b_ R w) : C_towpathlaw01_Book_growHeldList b_ w R := by
  unfold F_towpathlaw01_Book_growHeldList at h
  unfold C_towpathlaw01_Book_growHeldList
  refine Calls.mono (calls_of_wpE (args := [Value.pointer b_]) (R := fun v w' => v = Value.tuple #[] ∧ R w') Tryz.func52 (c := c52_0) (by kernel_rfl) 42 (by kernel_rfl) (by kernel_rfl) [(0, Value.pointer b_)] (by kernel_rfl) ?_) ?_
  · refine Zp c52_3 P1 [(0, .pointer b_), (2, .int .i64 0)] ?_
    refine Zb 0 c52_4 ?_
    obtain ⟨I, μ, h0, hr⟩ := h
    refine wpE_loop (x := c52_5) (by kernel_rfl) (fun m l w => ∃ (i : Int), l = [(0, Value.pointer b_), (2, Value.int .i64 i)] ∧ I i w ∧ μ i w = m) (l' := [(0, Value.pointer b_), (2, Value.int .i64 0)]) (Sub.mk (by kernel_rfl)) ⟨0, rfl, h0, rfl⟩ ?_
    rintro _ _ w1 ⟨i, rfl, hI, rfl⟩
    obtain ⟨again_, again__h, h⟩ : ∃ again_ : Int → World → Prop, (∀ i' w', again_ i' w' → I i' w' ∧ μ i' w' < μ i w1) ∧ F_towpathlaw01_Book_growHeldList_L0 b_ R again_ i w1 := ⟨_, fun _ _ h => h, hr i w1 hI⟩
    clear h0 hI
    unfold F_towpathlaw01_Book_growHeldList_L0 at h
    refine Zs c52_6 c52_12 ?_
    refine Zt r52_7 c52_9 ?_
    refine Zn P2 2 [(0, [], .pointer b_), (2, [], .int .i64 i), (6, [], .int .i64 i), (7, [], .pointer b_)] ?_
    obtain ⟨hp_3, h⟩ := h
    refine Zv (fun pp => [(0, [], .pointer b_), (2, [], .int .i64 i), (6, [], .int .i64 i), (7, [], .pointer pp)]) hp_3 ?_
    refine Zn P1 3 [(0, [], .pointer b_), (2, [], .int .i64 i), (6, [], .int .i64 i), (7, [], .pointer (some ⟨(pblk b_), (poff b_), none⟩)), (8, [], .pointer (some ⟨(pblk b_), (poff b_), none⟩))] ?_
    refine Zn P1 4 [(0, [], .pointer b_), (2, [], .int .i64 i), (6, [], .int .i64 i), (9, [], .pointer (some ⟨(pblk b_), (poff b_) + 9, none⟩))] ?_
    obtain ⟨v10, hc, h⟩ := h
    refine Zl 45 9 (pblk b_) ((poff b_) + 9) 45 10 hc ?_
    refine Zf P2 [(0, .pointer b_), (2, .int .i64 i), (12, .bool (decide (i < ((v10.len : Nat) : Int))))] ?_
    change WpE _ _ c52_9 _ _ _
    refine Zc 12 (decide (i < ((v10.len : Nat) : Int))) c52_10 c52_11 (fun hb => ?_) (fun hb => ?_)
    · replace h := h.1 hb
      exact h.elim
    · replace h := h.2 hb
      refine wpE_exit (id := 0) (by kernel_rfl) ?_
      repeat (first | refine seqQ_exit ?_ | refine loopQ_exit ?_ | refine cutQ_exit ?_ | refine blockQ_hit ?_ | refine blockQ_miss (by kernel_rfl) ?_)
      refine retQ_normal ?_
      repeat (first | refine seqQ_ret ?_ | refine blockQ_ret ?_ | refine loopQ_ret ?_ | refine cutQ_ret ?_)
      exact retT (rs := []) (vs := []) (by kernel_rfl) (trivial) (by kernel_rfl) ⟨rfl, h⟩
  · rintro e w' ⟨v, rfl, rfl, h⟩; exact ⟨rfl, h⟩

/-! ### (*towpath/towpathlaw01.Book).growEvent (function 53) -/
noncomputable def c53_0 := (Tryz.f53.body).getD Code.skip
noncomputable def c53_3 := Code.r c53_0
noncomputable def c53_4 := Code.l c53_3
noncomputable def c53_5 := Code.l c53_4
noncomputable def c53_6 := Code.l c53_5
noncomputable def c53_7 := Code.l c53_6
noncomputable def r53_7 := Code.ops c53_7
noncomputable def c53_9 := Code.r c53_6
noncomputable def c53_10 := Code.l c53_9
noncomputable def c53_11 := Code.r c53_9
noncomputable def c53_12 := Code.r c53_5

theorem S_towpathlaw01_Book_growEvent {b_ : Option Addr} {w : World} {R : World → Prop} (h : F_towpathlaw01_Book_growEvent b_ R w) : C_towpathlaw01_Book_growEvent b_ w R := by
  unfold F_towpathlaw01_Book_growEvent at h
  unfold C_towpathlaw01_Book_growEvent
  refine Calls.mono (calls_of_wpE (args := [Value.pointer b_]) (R := fun v w' => v = Value.tuple #[] ∧ R w') Tryz.func53 (c := c53_0) (by kernel_rfl) 42 (by kernel_rfl) (by kernel_rfl) [(0, Value.pointer b_)] (by kernel_rfl) ?_) ?_
  · refine Zp c53_3 P1 [(0, .pointer b_), (2, .int .i64 0)] ?_
    refine Zb 0 c53_4 ?_
    obtain ⟨I, μ, h0, hr⟩ := h
    refine wpE_loop (x := c53_5) (by kernel_rfl) (fun m l w => ∃ (i : Int), l = [(0, Value.pointer b_), (2, Value.int .i64 i)] ∧ I i w ∧ μ i w = m) (l' := [(0, Value.pointer b_), (2, Value.int .i64 0)]) (Sub.mk (by kernel_rfl)) ⟨0, rfl, h0, rfl⟩ ?_
    rintro _ _ w1 ⟨i, rfl, hI, rfl⟩
    obtain ⟨again_, again__h, h⟩ : ∃ again_ : Int → World → Prop, (∀ i' w', again_ i' w' → I i' w' ∧ μ i' w' < μ i w1) ∧ F_towpathlaw01_Book_growEvent_L0 b_ R again_ i w1 := ⟨_, fun _ _ h => h, hr i w1 hI⟩
    clear h0 hI
    unfold F_towpathlaw01_Book_growEvent_L0 at h
    refine Zs c53_6 c53_12 ?_
    refine Zt r53_7 c53_9 ?_
    refine Zn P2 2 [(0, [], .pointer b_), (2, [], .int .i64 i), (6, [], .int .i64 i), (7, [], .pointer b_)] ?_
    obtain ⟨hp_3, h⟩ := h
    refine Zv (fun pp => [(0, [], .pointer b_), (2, [], .int .i64 i), (6, [], .int .i64 i), (7, [], .pointer pp)]) hp_3 ?_
    refine Zn P1 3 [(0, [], .pointer b_), (2, [], .int .i64 i), (6, [], .int .i64 i), (7, [], .pointer (some ⟨(pblk b_), (poff b_), none⟩)), (8, [], .pointer (some ⟨(pblk b_), (poff b_), none⟩))] ?_
    refine Zn P1 4 [(0, [], .pointer b_), (2, [], .int .i64 i), (6, [], .int .i64 i), (9, [], .pointer (some ⟨(pblk b_), (poff b_) + 10, none⟩))] ?_
    obtain ⟨v10, hc, h⟩ := h
    refine Zl 46 9 (pblk b_) ((poff b_) + 10) 46 10 hc ?_
    refine Zf P2 [(0, .pointer b_), (2, .int .i64 i), (12, .bool (decide (i < ((v10.len : Nat) : Int))))] ?_
    change WpE _ _ c53_9 _ _ _
    refine Zc 12 (decide (i < ((v10.len : Nat) : Int))) c53_10 c53_11 (fun hb => ?_) (fun hb => ?_)
    · replace h := h.1 hb
      exact h.elim
    · replace h := h.2 hb
      refine wpE_exit (id := 0) (by kernel_rfl) ?_
      repeat (first | refine seqQ_exit ?_ | refine loopQ_exit ?_ | refine cutQ_exit ?_ | refine blockQ_hit ?_ | refine blockQ_miss (by kernel_rfl) ?_)
      refine retQ_normal ?_
      repeat (first | refine seqQ_ret ?_ | refine blockQ_ret ?_ | refine loopQ_ret ?_ | refine cutQ_ret ?_)
      exact retT (rs := []) (vs := []) (by kernel_rfl) (trivial) (by kernel_rfl) ⟨rfl, h⟩
  · rintro e w' ⟨v, rfl, rfl, h⟩; exact ⟨rfl, h⟩

/-! ### (*towpath/towpathlaw01.Book).growAnswer (function 54) -/
noncomputable def c54_0 := (Tryz.f54.body).getD Code.skip
noncomputable def c54_3 := Code.r c54_0
noncomputable def c54_4 := Code.l c54_3
noncomputable def c54_5 := Code.l c54_4
noncomputable def c54_6 := Code.l c54_5
noncomputable def c54_7 := Code.l c54_6
noncomputable def r54_7 := Code.ops c54_7
noncomputable def c54_9 := Code.r c54_6
noncomputable def c54_10 := Code.l c54_9
noncomputable def c54_11 := Code.r c54_9
noncomputable def c54_12 := Code.r c54_5

theorem S_towpathlaw01_Book_growAnswer {b_ : Option Addr} {w : World} {R : World → Prop} (h : F_towpathlaw01_Book_growAnswer b_ R w) : C_towpathlaw01_Book_growAnswer b_ w R := by
  unfold F_towpathlaw01_Book_growAnswer at h
  unfold C_towpathlaw01_Book_growAnswer
  refine Calls.mono (calls_of_wpE (args := [Value.pointer b_]) (R := fun v w' => v = Value.tuple #[] ∧ R w') Tryz.func54 (c := c54_0) (by kernel_rfl) 42 (by kernel_rfl) (by kernel_rfl) [(0, Value.pointer b_)] (by kernel_rfl) ?_) ?_
  · refine Zp c54_3 P1 [(0, .pointer b_), (2, .int .i64 0)] ?_
    refine Zb 0 c54_4 ?_
    obtain ⟨I, μ, h0, hr⟩ := h
    refine wpE_loop (x := c54_5) (by kernel_rfl) (fun m l w => ∃ (i : Int), l = [(0, Value.pointer b_), (2, Value.int .i64 i)] ∧ I i w ∧ μ i w = m) (l' := [(0, Value.pointer b_), (2, Value.int .i64 0)]) (Sub.mk (by kernel_rfl)) ⟨0, rfl, h0, rfl⟩ ?_
    rintro _ _ w1 ⟨i, rfl, hI, rfl⟩
    obtain ⟨again_, again__h, h⟩ : ∃ again_ : Int → World → Prop, (∀ i' w', again_ i' w' → I i' w' ∧ μ i' w' < μ i w1) ∧ F_towpathlaw01_Book_growAnswer_L0 b_ R again_ i w1 := ⟨_, fun _ _ h => h, hr i w1 hI⟩
    clear h0 hI
    unfold F_towpathlaw01_Book_growAnswer_L0 at h
    refine Zs c54_6 c54_12 ?_
    refine Zt r54_7 c54_9 ?_
    refine Zn P2 2 [(0, [], .pointer b_), (2, [], .int .i64 i), (6, [], .int .i64 i), (7, [], .pointer b_)] ?_
    obtain ⟨hp_3, h⟩ := h
    refine Zv (fun pp => [(0, [], .pointer b_), (2, [], .int .i64 i), (6, [], .int .i64 i), (7, [], .pointer pp)]) hp_3 ?_
    refine Zn P1 3 [(0, [], .pointer b_), (2, [], .int .i64 i), (6, [], .int .i64 i), (7, [], .pointer (some ⟨(pblk b_), (poff b_), none⟩)), (8, [], .pointer (some ⟨(pblk b_), (poff b_), none⟩))] ?_
    refine Zn P1 4 [(0, [], .pointer b_), (2, [], .int .i64 i), (6, [], .int .i64 i), (9, [], .pointer (some ⟨(pblk b_), (poff b_) + 11, none⟩))] ?_
    obtain ⟨v10, hc, h⟩ := h
    refine Zl 47 9 (pblk b_) ((poff b_) + 11) 47 10 hc ?_
    refine Zf P2 [(0, .pointer b_), (2, .int .i64 i), (12, .bool (decide (i < ((v10.len : Nat) : Int))))] ?_
    change WpE _ _ c54_9 _ _ _
    refine Zc 12 (decide (i < ((v10.len : Nat) : Int))) c54_10 c54_11 (fun hb => ?_) (fun hb => ?_)
    · replace h := h.1 hb
      exact h.elim
    · replace h := h.2 hb
      refine wpE_exit (id := 0) (by kernel_rfl) ?_
      repeat (first | refine seqQ_exit ?_ | refine loopQ_exit ?_ | refine cutQ_exit ?_ | refine blockQ_hit ?_ | refine blockQ_miss (by kernel_rfl) ?_)
      refine retQ_normal ?_
      repeat (first | refine seqQ_ret ?_ | refine blockQ_ret ?_ | refine loopQ_ret ?_ | refine cutQ_ret ?_)
      exact retT (rs := []) (vs := []) (by kernel_rfl) (trivial) (by kernel_rfl) ⟨rfl, h⟩
  · rintro e w' ⟨v, rfl, rfl, h⟩; exact ⟨rfl, h⟩
end Go.Proofs.YtfmkemmgakdddaaGreatDoor
