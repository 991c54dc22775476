/- WRITTEN BY PROGRAM (dec.py): for each Go function the clean formula F, the call's contract C, and the proof S that F gives C. -/
import Derived.Test.YtpdegdnigcnjiaaGreatDoorRows
import Derived.Test.YtpdegdnigcnjiaaGreatDoorGF
namespace Go.Proofs.YtpdegdnigcnjiaaGreatDoor
open Go
set_option linter.unusedVariables false
set_option maxRecDepth 100000
set_option maxHeartbeats 4000000

/-! ### towpath/towpathref02.Text (function 110) -/
noncomputable def c110_0 := (Tryz.f110.body).getD Code.skip
noncomputable def c110_3 := Code.r c110_0
noncomputable def c110_4 := Code.l c110_3
noncomputable def r110_4 := Code.ops c110_4
noncomputable def c110_6 := Code.r c110_3
noncomputable def c110_7 := Code.l c110_6
noncomputable def c110_10 := Code.r c110_7
noncomputable def c110_11 := Code.l c110_10
noncomputable def c110_12 := Code.l c110_11
noncomputable def c110_13 := Code.l c110_12
noncomputable def c110_16 := Code.r c110_13
noncomputable def c110_17 := Code.l c110_16
noncomputable def c110_18 := Code.r c110_16
noncomputable def c110_19 := Code.r c110_12
noncomputable def c110_20 := Code.l c110_19
noncomputable def c110_21 := Code.l c110_20
noncomputable def r110_21 := Code.ops c110_21
noncomputable def c110_23 := Code.r c110_19
noncomputable def r110_23 := Code.ops c110_23
noncomputable def c110_25 := Code.r c110_6
noncomputable def c110_28 := Code.r c110_25

theorem S_towpathref02_Text {b_ : Slc} {s : ByteArray} {w : World} {R : Slc → World → Prop} (h : F_towpathref02_Text b_ s R w) : C_towpathref02_Text b_ s w R := by
  unfold F_towpathref02_Text at h
  unfold C_towpathref02_Text
  refine Calls.mono (calls_of_wpE (args := [Value.slice b_.ptr b_.len b_.cap, Value.string s]) (R := fun v w' => ∃ (r0 : Slc), v = Value.slice r0.ptr r0.len r0.cap ∧ R r0 w') Tryz.func110 (c := c110_0) (by kernel_rfl) 24 (by kernel_rfl) (by kernel_rfl) [(0, Value.slice b_.ptr b_.len b_.cap), (1, Value.string s)] (by kernel_rfl) ?_) ?_
  · refine Zp c110_3 P1 [(0, .slice b_.ptr b_.len b_.cap), (1, .string s)] ?_
    refine Zt r110_4 c110_6 ?_
    refine Zn P4 4 [(0, [], .slice b_.ptr b_.len b_.cap), (1, [], .string s), (6, [], .slice b_.ptr b_.len b_.cap), (9, [], .int .u64 (IntKind.u64.wrap ((s.size : Nat) : Int)))] ?_
    refine Zm 168 #[.slice b_.ptr b_.len b_.cap, .int .u64 (IntKind.u64.wrap ((s.size : Nat) : Int))] (some 10) (Calls.mono h ?_)
    rintro _ w1 ⟨v10, rfl, h⟩
    refine ⟨_, rfl, ?_⟩
    refine Zf P1 [(0, .slice v10.ptr v10.len v10.cap), (1, .string s)] ?_
    change WpE _ _ c110_6 _ _ _
    refine Zs c110_7 c110_25 ?_
    refine Zp c110_10 P1 [(0, .slice v10.ptr v10.len v10.cap), (1, .string s), (5, .int .i64 0)] ?_
    refine Zb 0 c110_11 ?_
    obtain ⟨I, μ, h0, hr⟩ := h
    refine wpE_loop (x := c110_12) (by kernel_rfl) (fun m l w => ∃ (b_1 : Slc) (i : Int), l = [(0, Value.slice b_1.ptr b_1.len b_1.cap), (1, Value.string s), (5, Value.int .i64 i)] ∧ I b_1 i w ∧ μ b_1 i w = m) (l' := [(0, Value.slice v10.ptr v10.len v10.cap), (1, Value.string s), (5, Value.int .i64 0)]) (Sub.mk (by kernel_rfl)) ⟨v10, 0, rfl, h0, rfl⟩ ?_
    rintro _ _ w2 ⟨b_1, i, rfl, hI, rfl⟩
    obtain ⟨again_, again__h, h⟩ : ∃ again_ : Slc → Int → World → Prop, (∀ b_1' i' w', again_ b_1' i' w' → I b_1' i' w' ∧ μ b_1' i' w' < μ b_1 i w2) ∧ F_towpathref02_Text_L0 s R again_ b_1 i w2 := ⟨_, fun _ _ _ h => h, hr b_1 i w2 hI⟩
    clear h0 hI
    unfold F_towpathref02_Text_L0 at h
    refine Zs c110_13 c110_19 ?_
    refine Zp c110_16 P4 [(0, .slice b_1.ptr b_1.len b_1.cap), (1, .string s), (5, .int .i64 i), (14, .bool (decide (i < ((s.size : Nat) : Int))))] ?_
    refine Zc 14 (decide (i < ((s.size : Nat) : Int))) c110_17 c110_18 (fun hb => ?_) (fun hb => ?_)
    · replace h := h.1 hb
      refine wpE_skip (by kernel_rfl) ?_
      change WpE _ _ c110_19 _ _ _
      refine Zs c110_20 c110_23 ?_
      refine Zb 1 c110_21 ?_
      refine Zr r110_21 ?_
      refine Zn P3 3 [(0, [], .slice b_1.ptr b_1.len b_1.cap), (1, [], .string s), (5, [], .int .i64 i), (17, [], .slice b_1.ptr b_1.len b_1.cap), (18, [], .string s), (19, [], .int .i64 i)] ?_
      obtain ⟨h0, h1, h⟩ := h
      refine reg_indexStr (t := 9) (x := (Operand.tmp 18)) (ix := (Operand.tmp 19)) (s := s) (k := .i64) (j := i) (ty := 5) (dst := some 20) (by kernel_rfl) (by kernel_rfl) (by kernel_rfl) (by kernel_rfl) h0 h1 ?_
      refine Zn [] 4 [(0, [], .slice b_1.ptr b_1.len b_1.cap), (1, [], .string s), (5, [], .int .i64 i), (17, [], .slice b_1.ptr b_1.len b_1.cap), (20, [], .int .u8 (byteAt s i))] ?_
      refine Zw (some 21) (fun bb => .slice (some ⟨bb, 0, none⟩) 1 1) (Obj.cells ([.int .u8 (byteAt s i)]).toArray ty_uint8 (0, 0)) (fun b_2 w3 hb hw => ?_)
      replace h := h b_2 w3 hb hw
      clear hb hw
      refine Zn [] 5 [(0, [], .slice b_1.ptr b_1.len b_1.cap), (1, [], .string s), (5, [], .int .i64 i), (17, [], .slice b_1.ptr b_1.len b_1.cap), (21, [], .slice (some ⟨b_2, 0, none⟩) 1 1)] ?_
      obtain ⟨src, hs, h⟩ := h
      refine reg_append (t := 79) (tx := 79) (e := 5) (a := (Operand.tmp 17)) (xo := (Operand.tmp 21)) (s := b_1) (x := (Slc.mk (some ⟨b_2, 0, none⟩) 1 1)) (sz := 1) (by_ := 1) (zs := [Value.int .u8 0]) (ty := 79) (dst := some 22)  src (by kernel_rfl) (by kernel_rfl) (by kernel_rfl) (by kernel_rfl) (by kernel_rfl) (by kernel_rfl) (by kernel_rfl) (by kernel_rfl) (by kernel_rfl) hs (AppendW.mono h (fun b_3 w4 h => ?_))
      refine Zf P1 [(0, .slice b_3.ptr b_3.len b_3.cap), (1, .string s), (5, .int .i64 i)] ?_
      change WpE _ _ c110_23 _ _ _
      refine Zr r110_23 ?_
      refine Zf P3 [(0, .slice b_3.ptr b_3.len b_3.cap), (1, .string s), (5, .int .i64 (IntKind.i64.wrap (i + 1)))] ?_
      have hb_ := again__h _ _ _ h
      exact ⟨_, hb_.2, [(0, Value.slice b_3.ptr b_3.len b_3.cap), (1, Value.string s), (5, Value.int .i64 (IntKind.i64.wrap (i + 1)))], Sub.mk (by kernel_rfl), b_3, (IntKind.i64.wrap (i + 1)), rfl, hb_.1, rfl⟩
    · replace h := h.2 hb
      refine wpE_exit (id := 0) (by kernel_rfl) ?_
      change WpE _ _ c110_25 _ _ _
      refine Zp c110_28 P2 [(4, .slice b_1.ptr b_1.len b_1.cap)] ?_
      refine wpE_ret (by kernel_rfl) ?_
      repeat (first | refine seqQ_ret ?_ | refine blockQ_ret ?_ | refine loopQ_ret ?_ | refine cutQ_ret ?_)
      exact retS (rs := [(ResultVar.tmp 4)]) (v := Value.slice b_1.ptr b_1.len b_1.cap) (by kernel_rfl) (⟨by kernel_rfl, trivial⟩) ⟨b_1, rfl, h⟩
  · rintro e w' ⟨v, rfl, r0, rfl, h⟩; exact ⟨r0, rfl, h⟩

/-! ### towpath/towpathref02.Fixed (function 111) -/
noncomputable def c111_0 := (Tryz.f111.body).getD Code.skip
noncomputable def c111_3 := Code.r c111_0
noncomputable def c111_4 := Code.l c111_3
noncomputable def c111_7 := Code.r c111_4
noncomputable def c111_8 := Code.l c111_7
noncomputable def c111_11 := Code.r c111_8
noncomputable def c111_12 := Code.r c111_7
noncomputable def c111_13 := Code.r c111_3
noncomputable def c111_14 := Code.l c111_13
noncomputable def c111_15 := Code.l c111_14
noncomputable def r111_15 := Code.ops c111_15
noncomputable def c111_17 := Code.r c111_14
noncomputable def c111_18 := Code.l c111_17
noncomputable def c111_21 := Code.r c111_18
noncomputable def c111_22 := Code.r c111_17
noncomputable def c111_23 := Code.r c111_13
noncomputable def c111_24 := Code.l c111_23
noncomputable def c111_27 := Code.r c111_24
noncomputable def c111_28 := Code.l c111_27
noncomputable def c111_29 := Code.l c111_28
noncomputable def c111_30 := Code.l c111_29
noncomputable def c111_33 := Code.r c111_30
noncomputable def c111_34 := Code.l c111_33
noncomputable def c111_35 := Code.r c111_33
noncomputable def c111_36 := Code.r c111_29
noncomputable def c111_37 := Code.l c111_36
noncomputable def c111_38 := Code.l c111_37
noncomputable def c111_39 := Code.l c111_38
noncomputable def r111_39 := Code.ops c111_39
noncomputable def c111_41 := Code.r c111_38
noncomputable def r111_41 := Code.ops c111_41
noncomputable def c111_43 := Code.r c111_36
noncomputable def r111_43 := Code.ops c111_43
noncomputable def c111_45 := Code.r c111_23
noncomputable def c111_48 := Code.r c111_45

theorem S_towpathref02_Fixed {b_ : Slc} {n_ : Int} {width : Int} {w : World} {R : Slc → Int → World → Prop} (h : F_towpathref02_Fixed b_ n_ width R w) : C_towpathref02_Fixed b_ n_ width w R := by
  unfold F_towpathref02_Fixed at h
  unfold C_towpathref02_Fixed
  refine Calls.mono (calls_of_wpE (args := [Value.slice b_.ptr b_.len b_.cap, Value.int .u64 n_, Value.int .i64 width]) (R := fun v w' => ∃ (r0 : Slc) (r1 : Int), v = Value.tuple #[Value.slice r0.ptr r0.len r0.cap, Value.int .i64 r1] ∧ R r0 r1 w') Tryz.func111 (c := c111_0) (by kernel_rfl) 40 (by kernel_rfl) (by kernel_rfl) [(0, Value.slice b_.ptr b_.len b_.cap), (1, Value.int .u64 n_), (2, Value.int .i64 width)] (by kernel_rfl) ?_) ?_
  · refine Zp c111_3 P2 [(0, .slice b_.ptr b_.len b_.cap), (1, .int .u64 n_), (2, .int .i64 width)] ?_
    refine Zs c111_4 c111_13 ?_
    refine Zp c111_7 [.plain, .plain, .plain, .plain, .plain, .pick] [(0, .slice b_.ptr b_.len b_.cap), (1, .int .u64 n_), (2, .int .i64 width), (14, .bool ((decide (width < 1)) || (decide (width > 8))))] ?_
    refine Zc 14 ((decide (width < 1)) || (decide (width > 8))) c111_8 c111_12 (fun hb => ?_) (fun hb => ?_)
    · replace h := h.1 hb
      refine Zp c111_11 P3 [(6, .slice b_.ptr b_.len b_.cap), (7, .int .i64 1)] ?_
      refine wpE_ret (by kernel_rfl) ?_
      repeat (first | refine seqQ_ret ?_ | refine blockQ_ret ?_ | refine loopQ_ret ?_ | refine cutQ_ret ?_)
      exact retT (rs := [(ResultVar.tmp 6), (ResultVar.tmp 7)]) (vs := [Value.slice b_.ptr b_.len b_.cap, Value.int .i64 1]) (by kernel_rfl) (⟨by kernel_rfl, ⟨by kernel_rfl, trivial⟩⟩) (by kernel_rfl) ⟨b_, 1, rfl, h⟩
    · replace h := h.2 hb
      refine wpE_skip (by kernel_rfl) ?_
      change WpE _ _ c111_13 _ _ _
      refine Zs c111_14 c111_23 ?_
      refine wpE_seq_cut (x := c111_15) (y := c111_17) (by kernel_rfl) (fun l w => ∃ (t24 : Bool), l = [(0, Value.slice b_.ptr b_.len b_.cap), (1, Value.int .u64 n_), (2, Value.int .i64 width), (24, Value.bool t24)] ∧ F_towpathref02_Fixed_k0 b_ n_ width R t24 w) ?_ ?_
      · refine Zr r111_15 ?_
        refine Zn (Pl 6) 6 [(0, [], .slice b_.ptr b_.len b_.cap), (1, [], .int .u64 n_), (2, [], .int .i64 width), (18, [], .bool (decide (width < 8))), (19, [(18, true)], .int .u64 n_), (21, [(18, true)], .int .i64 (IntKind.i64.wrap (8 * width)))] ?_
        refine reg_split 18 (decide (width < 8)) (by kernel_rfl) (fun hb => ?_) (fun hb => ?_)
        · replace h := h.1 hb
          refine Zn [] 6 [(0, [], .slice b_.ptr b_.len b_.cap), (1, [], .int .u64 n_), (2, [], .int .i64 width), (18, [], .bool true), (19, [], .int .u64 n_), (21, [], .int .i64 (IntKind.i64.wrap (8 * width)))] ?_
          refine Zn [] 6 [(0, [], .slice b_.ptr b_.len b_.cap), (1, [], .int .u64 n_), (2, [], .int .i64 width), (18, [], .bool true), (19, [], .int .u64 n_), (21, [], .int .i64 (IntKind.i64.wrap (8 * width)))] ?_
          refine Zm 169 #[.int .i64 (IntKind.i64.wrap (8 * width))] (some 22) (Calls.mono h ?_)
          rintro _ w5 ⟨v22, rfl, h⟩
          refine ⟨_, rfl, ?_⟩
          refine Zf [.sure, .plain] [(0, .slice b_.ptr b_.len b_.cap), (1, .int .u64 n_), (2, .int .i64 width), (24, .bool (decide (n_ ≥ v22)))] ?_
          exact ⟨[(0, Value.slice b_.ptr b_.len b_.cap), (1, Value.int .u64 n_), (2, Value.int .i64 width), (24, Value.bool (decide (n_ ≥ v22)))], Sub.mk (by kernel_rfl), (decide (n_ ≥ v22)), rfl, h⟩
        · replace h := h.2 hb
          refine Zn [] 6 [(0, [], .slice b_.ptr b_.len b_.cap), (1, [], .int .u64 n_), (2, [], .int .i64 width), (18, [], .bool false), (19, [], undef), (21, [], undef)] ?_
          refine Zf [.skip, .skip, .plain] [(0, .slice b_.ptr b_.len b_.cap), (1, .int .u64 n_), (2, .int .i64 width), (24, .bool false)] ?_
          exact ⟨[(0, Value.slice b_.ptr b_.len b_.cap), (1, Value.int .u64 n_), (2, Value.int .i64 width), (24, Value.bool false)], Sub.mk (by kernel_rfl), false, rfl, h⟩
      · rintro _ w1 ⟨t24, rfl, h⟩
        unfold F_towpathref02_Fixed_k0 at h
        refine Zc 24 t24 c111_18 c111_22 (fun hb => ?_) (fun hb => ?_)
        · replace h := h.1 hb
          refine Zp c111_21 P3 [(6, .slice b_.ptr b_.len b_.cap), (7, .int .i64 3)] ?_
          refine wpE_ret (by kernel_rfl) ?_
          repeat (first | refine seqQ_ret ?_ | refine blockQ_ret ?_ | refine loopQ_ret ?_ | refine cutQ_ret ?_)
          exact retT (rs := [(ResultVar.tmp 6), (ResultVar.tmp 7)]) (vs := [Value.slice b_.ptr b_.len b_.cap, Value.int .i64 3]) (by kernel_rfl) (⟨by kernel_rfl, ⟨by kernel_rfl, trivial⟩⟩) (by kernel_rfl) ⟨b_, 3, rfl, h⟩
        · replace h := h.2 hb
          refine wpE_skip (by kernel_rfl) ?_
          change WpE _ _ c111_23 _ _ _
          refine Zs c111_24 c111_45 ?_
          refine Zp c111_27 P1 [(0, .slice b_.ptr b_.len b_.cap), (1, .int .u64 n_), (2, .int .i64 width), (8, .int .i64 0)] ?_
          refine Zb 0 c111_28 ?_
          obtain ⟨I, μ, h0, hr⟩ := h
          refine wpE_loop (x := c111_29) (by kernel_rfl) (fun m l w => ∃ (b_1 : Slc) (n_1 : Int) (i : Int), l = [(0, Value.slice b_1.ptr b_1.len b_1.cap), (1, Value.int .u64 n_1), (2, Value.int .i64 width), (8, Value.int .i64 i)] ∧ I b_1 n_1 i w ∧ μ b_1 n_1 i w = m) (l' := [(0, Value.slice b_.ptr b_.len b_.cap), (1, Value.int .u64 n_), (2, Value.int .i64 width), (8, Value.int .i64 0)]) (Sub.mk (by kernel_rfl)) ⟨b_, n_, 0, rfl, h0, rfl⟩ ?_
          rintro _ _ w2 ⟨b_1, n_1, i, rfl, hI, rfl⟩
          obtain ⟨again_, again__h, h⟩ : ∃ again_ : Slc → Int → Int → World → Prop, (∀ b_1' n_1' i' w', again_ b_1' n_1' i' w' → I b_1' n_1' i' w' ∧ μ b_1' n_1' i' w' < μ b_1 n_1 i w2) ∧ F_towpathref02_Fixed_L1 width R again_ b_1 n_1 i w2 := ⟨_, fun _ _ _ _ h => h, hr b_1 n_1 i w2 hI⟩
          clear h0 hI
          unfold F_towpathref02_Fixed_L1 at h
          refine Zs c111_30 c111_36 ?_
          refine Zp c111_33 P3 [(0, .slice b_1.ptr b_1.len b_1.cap), (1, .int .u64 n_1), (2, .int .i64 width), (8, .int .i64 i), (28, .bool (decide (i < width)))] ?_
          refine Zc 28 (decide (i < width)) c111_34 c111_35 (fun hb => ?_) (fun hb => ?_)
          · replace h := h.1 hb
            refine wpE_skip (by kernel_rfl) ?_
            change WpE _ _ c111_36 _ _ _
            refine Zs c111_37 c111_43 ?_
            refine Zb 1 c111_38 ?_
            refine Zt r111_39 c111_41 ?_
            refine Zn P4 4 [(0, [], .slice b_1.ptr b_1.len b_1.cap), (1, [], .int .u64 n_1), (2, [], .int .i64 width), (8, [], .int .i64 i), (31, [], .slice b_1.ptr b_1.len b_1.cap), (34, [], .int .u8 (IntKind.u8.wrap (Int.tmod n_1 256)))] ?_
            refine Zw (some 35) (fun bb => .slice (some ⟨bb, 0, none⟩) 1 1) (Obj.cells ([.int .u8 (IntKind.u8.wrap (Int.tmod n_1 256))]).toArray ty_uint8 (0, 0)) (fun b_2 w3 hb hw => ?_)
            replace h := h b_2 w3 hb hw
            clear hb hw
            refine Zn [] 5 [(0, [], .slice b_1.ptr b_1.len b_1.cap), (1, [], .int .u64 n_1), (2, [], .int .i64 width), (8, [], .int .i64 i), (31, [], .slice b_1.ptr b_1.len b_1.cap), (35, [], .slice (some ⟨b_2, 0, none⟩) 1 1)] ?_
            obtain ⟨src, hs, h⟩ := h
            refine reg_append (t := 79) (tx := 79) (e := 5) (a := (Operand.tmp 31)) (xo := (Operand.tmp 35)) (s := b_1) (x := (Slc.mk (some ⟨b_2, 0, none⟩) 1 1)) (sz := 1) (by_ := 1) (zs := [Value.int .u8 0]) (ty := 79) (dst := some 36)  src (by kernel_rfl) (by kernel_rfl) (by kernel_rfl) (by kernel_rfl) (by kernel_rfl) (by kernel_rfl) (by kernel_rfl) (by kernel_rfl) (by kernel_rfl) hs (AppendW.mono h (fun b_3 w4 h => ?_))
            refine Zf P1 [(0, .slice b_3.ptr b_3.len b_3.cap), (1, .int .u64 n_1), (2, .int .i64 width), (8, .int .i64 i)] ?_
            change WpE _ _ c111_41 _ _ _
            refine Zr r111_41 ?_
            refine Zf P3 [(0, .slice b_3.ptr b_3.len b_3.cap), (1, .int .u64 (IntKind.u64.wrap (Int.tdiv n_1 256))), (2, .int .i64 width), (8, .int .i64 i)] ?_
            change WpE _ _ c111_43 _ _ _
            refine Zr r111_43 ?_
            refine Zf P3 [(0, .slice b_3.ptr b_3.len b_3.cap), (1, .int .u64 (IntKind.u64.wrap (Int.tdiv n_1 256))), (2, .int .i64 width), (8, .int .i64 (IntKind.i64.wrap (i + 1)))] ?_
            have hb_ := again__h _ _ _ _ h
            exact ⟨_, hb_.2, [(0, Value.slice b_3.ptr b_3.len b_3.cap), (1, Value.int .u64 (IntKind.u64.wrap (Int.tdiv n_1 256))), (2, Value.int .i64 width), (8, Value.int .i64 (IntKind.i64.wrap (i + 1)))], Sub.mk (by kernel_rfl), b_3, (IntKind.u64.wrap (Int.tdiv n_1 256)), (IntKind.i64.wrap (i + 1)), rfl, hb_.1, rfl⟩
          · replace h := h.2 hb
            refine wpE_exit (id := 0) (by kernel_rfl) ?_
            change WpE _ _ c111_45 _ _ _
            refine Zp c111_48 P3 [(6, .slice b_1.ptr b_1.len b_1.cap), (7, .int .i64 0)] ?_
            refine wpE_ret (by kernel_rfl) ?_
            repeat (first | refine seqQ_ret ?_ | refine blockQ_ret ?_ | refine loopQ_ret ?_ | refine cutQ_ret ?_)
            exact retT (rs := [(ResultVar.tmp 6), (ResultVar.tmp 7)]) (vs := [Value.slice b_1.ptr b_1.len b_1.cap, Value.int .i64 0]) (by kernel_rfl) (⟨by kernel_rfl, ⟨by kernel_rfl, trivial⟩⟩) (by kernel_rfl) ⟨b_1, 0, rfl, h⟩
  · rintro e w' ⟨v, rfl, r0, r1, rfl, h⟩; exact ⟨r0, r1, rfl, h⟩

/-! ### towpath/towpathref02.Var (function 168) -/
noncomputable def c168_0 := (Tryz.f168.body).getD Code.skip
noncomputable def c168_3 := Code.r c168_0
noncomputable def c168_4 := Code.l c168_3
noncomputable def c168_5 := Code.l c168_4
noncomputable def c168_6 := Code.l c168_5
noncomputable def c168_7 := Code.l c168_6
noncomputable def c168_10 := Code.r c168_7
noncomputable def c168_11 := Code.l c168_10
noncomputable def c168_12 := Code.r c168_10
noncomputable def c168_13 := Code.r c168_6
noncomputable def c168_14 := Code.l c168_13
noncomputable def c168_15 := Code.l c168_14
noncomputable def r168_15 := Code.ops c168_15
noncomputable def c168_17 := Code.r c168_14
noncomputable def r168_17 := Code.ops c168_17
noncomputable def c168_19 := Code.r c168_3
noncomputable def c168_20 := Code.l c168_19
noncomputable def r168_20 := Code.ops c168_20
noncomputable def c168_22 := Code.r c168_19

theorem S_towpathref02_Var {b_ : Slc} {n_ : Int} {w : World} {R : Slc → World → Prop} (h : F_towpathref02_Var b_ n_ R w) : C_towpathref02_Var b_ n_ w R := by
  unfold F_towpathref02_Var at h
  unfold C_towpathref02_Var
  refine Calls.mono (calls_of_wpE (args := [Value.slice b_.ptr b_.len b_.cap, Value.int .u64 n_]) (R := fun v w' => ∃ (r0 : Slc), v = Value.slice r0.ptr r0.len r0.cap ∧ R r0 w') Tryz.func168 (c := c168_0) (by kernel_rfl) 21 (by kernel_rfl) (by kernel_rfl) [(0, Value.slice b_.ptr b_.len b_.cap), (1, Value.int .u64 n_)] (by kernel_rfl) ?_) ?_
  · refine Zp c168_3 P1 [(0, .slice b_.ptr b_.len b_.cap), (1, .int .u64 n_)] ?_
    refine Zs c168_4 c168_19 ?_
    refine Zb 0 c168_5 ?_
    obtain ⟨I, μ, h0, hr⟩ := h
    refine wpE_loop (x := c168_6) (by kernel_rfl) (fun m l w => ∃ (b_1 : Slc) (n_1 : Int), l = [(0, Value.slice b_1.ptr b_1.len b_1.cap), (1, Value.int .u64 n_1)] ∧ I b_1 n_1 w ∧ μ b_1 n_1 w = m) (l' := [(0, Value.slice b_.ptr b_.len b_.cap), (1, Value.int .u64 n_)]) (Sub.mk (by kernel_rfl)) ⟨b_, n_, rfl, h0, rfl⟩ ?_
    rintro _ _ w1 ⟨b_1, n_1, rfl, hI, rfl⟩
    obtain ⟨again_, again__h, h⟩ : ∃ again_ : Slc → Int → World → Prop, (∀ b_1' n_1' w', again_ b_1' n_1' w' → I b_1' n_1' w' ∧ μ b_1' n_1' w' < μ b_1 n_1 w1) ∧ F_towpathref02_Var_L0 R again_ b_1 n_1 w1 := ⟨_, fun _ _ _ h => h, hr b_1 n_1 w1 hI⟩
    clear h0 hI
    unfold F_towpathref02_Var_L0 at h
    refine Zs c168_7 c168_13 ?_
    refine Zp c168_10 P2 [(0, .slice b_1.ptr b_1.len b_1.cap), (1, .int .u64 n_1), (6, .bool (decide (n_1 ≥ 128)))] ?_
    refine Zc 6 (decide (n_1 ≥ 128)) c168_11 c168_12 (fun hb => ?_) (fun hb => ?_)
    · replace h := h.1 hb
      refine wpE_skip (by kernel_rfl) ?_
      change WpE _ _ c168_13 _ _ _
      refine Zb 1 c168_14 ?_
      refine Zt r168_15 c168_17 ?_
      refine Zn (Pl 5) 5 [(0, [], .slice b_1.ptr b_1.len b_1.cap), (1, [], .int .u64 n_1), (7, [], .slice b_1.ptr b_1.len b_1.cap), (11, [], .int .u8 (IntKind.u8.wrap (IntKind.u64.wrap (128 + (Int.tmod n_1 128)))))] ?_
      refine Zw (some 12) (fun bb => .slice (some ⟨bb, 0, none⟩) 1 1) (Obj.cells ([.int .u8 (IntKind.u8.wrap (IntKind.u64.wrap (128 + (Int.tmod n_1 128))))]).toArray ty_uint8 (0, 0)) (fun b_2 w2 hb hw => ?_)
      replace h := h b_2 w2 hb hw
      clear hb hw
      refine Zn [] 6 [(0, [], .slice b_1.ptr b_1.len b_1.cap), (1, [], .int .u64 n_1), (7, [], .slice b_1.ptr b_1.len b_1.cap), (12, [], .slice (some ⟨b_2, 0, none⟩) 1 1)] ?_
      obtain ⟨src, hs, h⟩ := h
      refine reg_append (t := 79) (tx := 79) (e := 5) (a := (Operand.tmp 7)) (xo := (Operand.tmp 12)) (s := b_1) (x := (Slc.mk (some ⟨b_2, 0, none⟩) 1 1)) (sz := 1) (by_ := 1) (zs := [Value.int .u8 0]) (ty := 79) (dst := some 13)  src (by kernel_rfl) (by kernel_rfl) (by kernel_rfl) (by kernel_rfl) (by kernel_rfl) (by kernel_rfl) (by kernel_rfl) (by kernel_rfl) (by kernel_rfl) hs (AppendW.mono h (fun b_3 w3 h => ?_))
      refine Zf P1 [(0, .slice b_3.ptr b_3.len b_3.cap), (1, .int .u64 n_1)] ?_
      change WpE _ _ c168_17 _ _ _
      refine Zr r168_17 ?_
      refine Zf P3 [(0, .slice b_3.ptr b_3.len b_3.cap), (1, .int .u64 (IntKind.u64.wrap (Int.tdiv n_1 128)))] ?_
      have hb_ := again__h _ _ _ h
      exact ⟨_, hb_.2, [(0, Value.slice b_3.ptr b_3.len b_3.cap), (1, Value.int .u64 (IntKind.u64.wrap (Int.tdiv n_1 128)))], Sub.mk (by kernel_rfl), b_3, (IntKind.u64.wrap (Int.tdiv n_1 128)), rfl, hb_.1, rfl⟩
    · replace h := h.2 hb
      refine wpE_exit (id := 0) (by kernel_rfl) ?_
      change WpE _ _ c168_19 _ _ _
      refine Zt r168_20 c168_22 ?_
      refine Zn P3 3 [(16, [], .slice b_1.ptr b_1.len b_1.cap), (18, [], .int .u8 (IntKind.u8.wrap n_1))] ?_
      refine Zw (some 19) (fun bb => .slice (some ⟨bb, 0, none⟩) 1 1) (Obj.cells ([.int .u8 (IntKind.u8.wrap n_1)]).toArray ty_uint8 (0, 0)) (fun b_4 w4 hb hw => ?_)
      replace h := h b_4 w4 hb hw
      clear hb hw
      refine Zn [] 4 [(16, [], .slice b_1.ptr b_1.len b_1.cap), (19, [], .slice (some ⟨b_4, 0, none⟩) 1 1)] ?_
      obtain ⟨src, hs, h⟩ := h
      refine reg_append (t := 79) (tx := 79) (e := 5) (a := (Operand.tmp 16)) (xo := (Operand.tmp 19)) (s := b_1) (x := (Slc.mk (some ⟨b_4, 0, none⟩) 1 1)) (sz := 1) (by_ := 1) (zs := [Value.int .u8 0]) (ty := 79) (dst := some 20)  src (by kernel_rfl) (by kernel_rfl) (by kernel_rfl) (by kernel_rfl) (by kernel_rfl) (by kernel_rfl) (by kernel_rfl) (by kernel_rfl) (by kernel_rfl) hs (AppendW.mono h (fun v20 w5 h => ?_))
      refine Zf P1 [(4, .slice v20.ptr v20.len v20.cap)] ?_
      change WpE _ _ c168_22 _ _ _
      refine wpE_ret (by kernel_rfl) ?_
      repeat (first | refine seqQ_ret ?_ | refine blockQ_ret ?_ | refine loopQ_ret ?_ | refine cutQ_ret ?_)
      exact retS (rs := [(ResultVar.tmp 4)]) (v := Value.slice v20.ptr v20.len v20.cap) (by kernel_rfl) (⟨by kernel_rfl, trivial⟩) ⟨v20, rfl, h⟩
  · rintro e w' ⟨v, rfl, r0, rfl, h⟩; exact ⟨r0, rfl, h⟩

/-! ### towpath/towpathref02.power (function 169) -/
noncomputable def c169_0 := (Tryz.f169.body).getD Code.skip
noncomputable def c169_3 := Code.r c169_0
noncomputable def c169_6 := Code.r c169_3
noncomputable def c169_7 := Code.l c169_6
noncomputable def c169_10 := Code.r c169_7
noncomputable def c169_11 := Code.l c169_10
noncomputable def c169_12 := Code.l c169_11
noncomputable def c169_13 := Code.l c169_12
noncomputable def c169_16 := Code.r c169_13
noncomputable def c169_17 := Code.l c169_16
noncomputable def c169_18 := Code.r c169_16
noncomputable def c169_19 := Code.r c169_12
noncomputable def c169_20 := Code.l c169_19
noncomputable def c169_21 := Code.l c169_20
noncomputable def r169_21 := Code.ops c169_21
noncomputable def c169_23 := Code.r c169_19
noncomputable def r169_23 := Code.ops c169_23
noncomputable def c169_25 := Code.r c169_6
noncomputable def c169_28 := Code.r c169_25

theorem S_towpathref02_power {n_ : Int} {w : World} {R : Int → World → Prop} (h : F_towpathref02_power n_ R w) : C_towpathref02_power n_ w R := by
  unfold F_towpathref02_power at h
  unfold C_towpathref02_power
  refine Calls.mono (calls_of_wpE (args := [Value.int .i64 n_]) (R := fun v w' => ∃ (r0 : Int), v = Value.int .u64 r0 ∧ R r0 w') Tryz.func169 (c := c169_0) (by kernel_rfl) 13 (by kernel_rfl) (by kernel_rfl) [(0, Value.int .i64 n_)] (by kernel_rfl) ?_) ?_
  · refine Zp c169_3 P1 [(0, .int .i64 n_)] ?_
    refine Zp c169_6 P1 [(0, .int .i64 n_), (3, .int .u64 1)] ?_
    refine Zs c169_7 c169_25 ?_
    refine Zp c169_10 P1 [(0, .int .i64 n_), (3, .int .u64 1), (4, .int .i64 0)] ?_
    refine Zb 0 c169_11 ?_
    obtain ⟨I, μ, h0, hr⟩ := h
    refine wpE_loop (x := c169_12) (by kernel_rfl) (fun m l w => ∃ (p : Int) (i : Int), l = [(0, Value.int .i64 n_), (3, Value.int .u64 p), (4, Value.int .i64 i)] ∧ I p i w ∧ μ p i w = m) (l' := [(0, Value.int .i64 n_), (3, Value.int .u64 1), (4, Value.int .i64 0)]) (Sub.mk (by kernel_rfl)) ⟨1, 0, rfl, h0, rfl⟩ ?_
    rintro _ _ w1 ⟨p, i, rfl, hI, rfl⟩
    obtain ⟨again_, again__h, h⟩ : ∃ again_ : Int → Int → World → Prop, (∀ p' i' w', again_ p' i' w' → I p' i' w' ∧ μ p' i' w' < μ p i w1) ∧ F_towpathref02_power_L0 n_ R again_ p i w1 := ⟨_, fun _ _ _ h => h, hr p i w1 hI⟩
    clear h0 hI
    unfold F_towpathref02_power_L0 at h
    refine Zs c169_13 c169_19 ?_
    refine Zp c169_16 P3 [(0, .int .i64 n_), (3, .int .u64 p), (4, .int .i64 i), (7, .bool (decide (i < n_)))] ?_
    refine Zc 7 (decide (i < n_)) c169_17 c169_18 (fun hb => ?_) (fun hb => ?_)
    · replace h := h.1 hb
      refine wpE_skip (by kernel_rfl) ?_
      change WpE _ _ c169_19 _ _ _
      refine Zs c169_20 c169_23 ?_
      refine Zb 1 c169_21 ?_
      refine Zr r169_21 ?_
      refine Zf P3 [(0, .int .i64 n_), (3, .int .u64 (IntKind.u64.wrap (2 * p))), (4, .int .i64 i)] ?_
      change WpE _ _ c169_23 _ _ _
      refine Zr r169_23 ?_
      refine Zf P3 [(0, .int .i64 n_), (3, .int .u64 (IntKind.u64.wrap (2 * p))), (4, .int .i64 (IntKind.i64.wrap (i + 1)))] ?_
      have hb_ := again__h _ _ _ h
      exact ⟨_, hb_.2, [(0, Value.int .i64 n_), (3, Value.int .u64 (IntKind.u64.wrap (2 * p))), (4, Value.int .i64 (IntKind.i64.wrap (i + 1)))], Sub.mk (by kernel_rfl), (IntKind.u64.wrap (2 * p)), (IntKind.i64.wrap (i + 1)), rfl, hb_.1, rfl⟩
    · replace h := h.2 hb
      refine wpE_exit (id := 0) (by kernel_rfl) ?_
      change WpE _ _ c169_25 _ _ _
      refine Zp c169_28 P2 [(2, .int .u64 p)] ?_
      refine wpE_ret (by kernel_rfl) ?_
      repeat (first | refine seqQ_ret ?_ | refine blockQ_ret ?_ | refine loopQ_ret ?_ | refine cutQ_ret ?_)
      exact retS (rs := [(ResultVar.tmp 2)]) (v := Value.int .u64 p) (by kernel_rfl) (⟨by kernel_rfl, trivial⟩) ⟨p, rfl, h⟩
  · rintro e w' ⟨v, rfl, r0, rfl, h⟩; exact ⟨r0, rfl, h⟩
end Go.Proofs.YtpdegdnigcnjiaaGreatDoor
