/- WRITTEN BY PROGRAM (dec.py): for each Go function the clean formula F, the call's contract C, and the proof S that F gives C. -/
import Derived.Test.YtpdegdnigcnjiaaGreatDoorRows
import Derived.Test.YtpdegdnigcnjiaaGreatDoorGF
namespace Go.Proofs.YtpdegdnigcnjiaaGreatDoor
open Go
set_option linter.unusedVariables false
set_option maxRecDepth 100000
set_option maxHeartbeats 4000000

/-! ### towpath/codec.NewWriter (function 103) -/
noncomputable def c103_0 := (Tryz.f103.body).getD Code.skip
noncomputable def c103_3 := Code.r c103_0
noncomputable def c103_4 := Code.l c103_3
noncomputable def r103_4 := Code.ops c103_4
noncomputable def c103_6 := Code.r c103_3

theorem S_codec_NewWriter {w : World} {R : Option Addr → World → Prop} (h : F_codec_NewWriter R w) : C_codec_NewWriter w R := by
  unfold F_codec_NewWriter at h
  unfold C_codec_NewWriter
  refine Calls.mono (calls_of_wpE (args := []) (R := fun v w' => ∃ (r0 : Option Addr), v = Value.pointer r0 ∧ R r0 w') Tryz.func103 (c := c103_0) (by kernel_rfl) 3 (by kernel_rfl) (by kernel_rfl) [] (by kernel_rfl) ?_) ?_
  · refine Zp c103_3 P1 [] ?_
    refine Zt r103_4 c103_6 ?_
    refine Zn P1 1 [(1, [], .agg #[.bool true, .slice none 0 0])] ?_
    refine Zw (some 2) (fun bb => .pointer (some ⟨bb, 0, none⟩)) (Obj.cells ([.bool true, .slice none 0 0]).toArray ty_codec_Writer (0, 0)) (fun b_ w1 hb hw => ?_)
    replace h := h b_ w1 hb hw
    clear hb hw
    refine Zf P1 [(0, .pointer (some ⟨b_, 0, none⟩))] ?_
    change WpE _ _ c103_6 _ _ _
    refine wpE_ret (by kernel_rfl) ?_
    repeat (first | refine seqQ_ret ?_ | refine blockQ_ret ?_ | refine loopQ_ret ?_ | refine cutQ_ret ?_)
    exact retS (rs := [(ResultVar.tmp 0)]) (v := Value.pointer (some ⟨b_, 0, none⟩)) (by kernel_rfl) (⟨by kernel_rfl, trivial⟩) ⟨(some ⟨b_, 0, none⟩), rfl, h⟩
  · rintro e w' ⟨v, rfl, r0, rfl, h⟩; exact ⟨r0, rfl, h⟩

/-! ### (*towpath/codec.Writer).Text (function 105) -/
noncomputable def c105_0 := (Tryz.f105.body).getD Code.skip
noncomputable def c105_1 := Code.l c105_0
noncomputable def c105_2 := Code.l c105_1
noncomputable def r105_2 := Code.ops c105_2
noncomputable def c105_4 := Code.r c105_1
noncomputable def c105_5 := Code.l c105_4
noncomputable def c105_6 := Code.r c105_4
noncomputable def c105_7 := Code.r c105_0
noncomputable def c105_8 := Code.l c105_7
noncomputable def r105_8 := Code.ops c105_8
noncomputable def c105_10 := Code.r c105_7
noncomputable def r105_10 := Code.ops c105_10

theorem S_codec_Writer_Text {w_ : Option Addr} {s : ByteArray} {w : World} {R : World → Prop} (h : F_codec_Writer_Text w_ s R w) : C_codec_Writer_Text w_ s w R := by
  unfold F_codec_Writer_Text at h
  unfold C_codec_Writer_Text
  refine Calls.mono (calls_of_wpE (args := [Value.pointer w_, Value.string s]) (R := fun v w' => v = Value.tuple #[] ∧ R w') Tryz.func105 (c := c105_0) (by kernel_rfl) 20 (by kernel_rfl) (by kernel_rfl) [(0, Value.pointer w_), (1, Value.string s)] (by kernel_rfl) ?_) ?_
  · refine Zs c105_1 c105_7 ?_
    refine Zt r105_2 c105_4 ?_
    refine Zn P1 1 [(0, [], .pointer w_), (1, [], .string s), (4, [], .pointer w_)] ?_
    refine Zm 165 #[.pointer w_] (some 5) (Calls.mono h ?_)
    rintro _ w1 ⟨v5, rfl, h⟩
    refine ⟨_, rfl, ?_⟩
    refine Ze [(0, .pointer w_), (1, .string s), (5, .bool v5)] ?_
    change WpE _ _ c105_4 _ _ _
    refine Zc 5 v5 c105_5 c105_6 (fun hb => ?_) (fun hb => ?_)
    · replace h := h.1 hb
      refine wpE_ret (by kernel_rfl) ?_
      repeat (first | refine seqQ_ret ?_ | refine blockQ_ret ?_ | refine loopQ_ret ?_ | refine cutQ_ret ?_)
      exact retT (rs := []) (vs := []) (by kernel_rfl) (trivial) (by kernel_rfl) ⟨rfl, h⟩
    · replace h := h.2 hb
      refine wpE_skip (by kernel_rfl) ?_
      change WpE _ _ c105_7 _ _ _
      refine Zt r105_8 c105_10 ?_
      refine Zn P4 4 [(0, [], .pointer w_), (1, [], .string s), (6, [], .pointer w_), (9, [], .int .u64 (IntKind.u64.wrap ((s.size : Nat) : Int)))] ?_
      refine Zm 164 #[.pointer w_, .int .u64 (IntKind.u64.wrap ((s.size : Nat) : Int))] (some 10) (Calls.mono h ?_)
      rintro _ w2 ⟨rfl, h⟩
      refine ⟨_, rfl, ?_⟩
      refine Ze [(0, .pointer w_), (1, .string s)] ?_
      change WpE _ _ c105_10 _ _ _
      refine Zr r105_10 ?_
      refine Zn P2 2 [(1, [], .string s), (11, [], .pointer w_), (12, [], .pointer w_)] ?_
      obtain ⟨hp_0, h⟩ := h
      refine Zv (fun pp => [(1, [], .string s), (11, [], .pointer w_), (12, [], .pointer pp)]) hp_0 ?_
      refine Zn P1 3 [(1, [], .string s), (11, [], .pointer w_), (12, [], .pointer (some ⟨(pblk w_), (poff w_), none⟩)), (13, [], .pointer (some ⟨(pblk w_), (poff w_), none⟩))] ?_
      refine Zn P1 4 [(1, [], .string s), (11, [], .pointer w_), (14, [], .pointer (some ⟨(pblk w_), (poff w_) + 1, none⟩))] ?_
      obtain ⟨v15, hc, h⟩ := h
      refine Zl 79 14 (pblk w_) ((poff w_) + 1) 79 15 hc ?_
      refine Zn P1 6 [(11, [], .pointer w_), (15, [], .slice v15.ptr v15.len v15.cap), (16, [], .string s)] ?_
      refine reg_appendStr (t := 79) (tx := 9) (e := 5) (a := (Operand.tmp 15)) (xo := (Operand.tmp 16)) (s := v15) (str := s) (by_ := 1) (zs := [Value.int .u8 0]) (ty := 79) (dst := some 17)  (by kernel_rfl) (by kernel_rfl) (by kernel_rfl) (by kernel_rfl) (by kernel_rfl) (by kernel_rfl) (by kernel_rfl) (by kernel_rfl) (by kernel_rfl) (AppendW.mono h (fun v17 w3 h => ?_))
      refine Zn [] 7 [(11, [], .pointer w_), (17, [], .slice v17.ptr v17.len v17.cap)] ?_
      obtain ⟨hp_1, h⟩ := h
      refine Zv (fun pp => [(11, [], .pointer pp), (17, [], .slice v17.ptr v17.len v17.cap)]) hp_1 ?_
      refine Zn P1 8 [(11, [], .pointer (some ⟨(pblk w_), (poff w_), none⟩)), (17, [], .slice v17.ptr v17.len v17.cap), (18, [], .pointer (some ⟨(pblk w_), (poff w_), none⟩))] ?_
      refine Zn P1 9 [(17, [], .slice v17.ptr v17.len v17.cap), (19, [], .pointer (some ⟨(pblk w_), (poff w_) + 1, none⟩))] ?_
      obtain ⟨hc, h⟩ := h
      refine Zo 79 19 17 (pblk w_) ((poff w_) + 1) 1 [.slice v17.ptr v17.len v17.cap] hc (fun w4 hw => ?_)
      replace h := h w4 hw
      clear hw
      refine Ze [] ?_
      repeat (first | refine seqQ_exit ?_ | refine loopQ_exit ?_ | refine cutQ_exit ?_ | refine blockQ_hit ?_ | refine blockQ_miss (by kernel_rfl) ?_)
      refine retQ_normal ?_
      repeat (first | refine seqQ_ret ?_ | refine blockQ_ret ?_ | refine loopQ_ret ?_ | refine cutQ_ret ?_)
      exact retT (rs := []) (vs := []) (by kernel_rfl) (trivial) (by kernel_rfl) ⟨rfl, h⟩
  · rintro e w' ⟨v, rfl, rfl, h⟩; exact ⟨rfl, h⟩

/-! ### (*towpath/codec.Writer).Fixed (function 106) -/
noncomputable def c106_0 := (Tryz.f106.body).getD Code.skip
noncomputable def c106_3 := Code.r c106_0
noncomputable def c106_4 := Code.l c106_3
noncomputable def c106_5 := Code.l c106_4
noncomputable def c106_6 := Code.l c106_5
noncomputable def r106_6 := Code.ops c106_6
noncomputable def c106_8 := Code.r c106_5
noncomputable def c106_9 := Code.l c106_8
noncomputable def c106_12 := Code.r c106_9
noncomputable def c106_13 := Code.r c106_8
noncomputable def c106_16 := Code.r c106_13
noncomputable def c106_17 := Code.l c106_16
noncomputable def c106_20 := Code.r c106_17
noncomputable def c106_21 := Code.r c106_16
noncomputable def c106_22 := Code.l c106_21
noncomputable def r106_22 := Code.ops c106_22
noncomputable def c106_24 := Code.r c106_21
noncomputable def c106_25 := Code.l c106_24
noncomputable def c106_28 := Code.r c106_25
noncomputable def c106_29 := Code.r c106_24
noncomputable def c106_30 := Code.r c106_3
noncomputable def c106_31 := Code.l c106_30
noncomputable def c106_34 := Code.r c106_31
noncomputable def c106_35 := Code.l c106_34
noncomputable def c106_36 := Code.l c106_35
noncomputable def c106_39 := Code.r c106_36
noncomputable def c106_40 := Code.l c106_39
noncomputable def c106_41 := Code.l c106_40
noncomputable def c106_42 := Code.r c106_40
noncomputable def c106_43 := Code.r c106_39
noncomputable def c106_44 := Code.l c106_43
noncomputable def c106_45 := Code.l c106_44
noncomputable def c106_46 := Code.l c106_45
noncomputable def r106_46 := Code.ops c106_46
noncomputable def c106_48 := Code.r c106_45
noncomputable def r106_48 := Code.ops c106_48
noncomputable def c106_50 := Code.r c106_43
noncomputable def r106_50 := Code.ops c106_50
noncomputable def c106_52 := Code.r c106_30
noncomputable def c106_55 := Code.r c106_52

theorem S_codec_Writer_Fixed {w_ : Option Addr} {n_ : Int} {width : Int} {w : World} {R : Int → World → Prop} (h : F_codec_Writer_Fixed w_ n_ width R w) : C_codec_Writer_Fixed w_ n_ width w R := by
  unfold F_codec_Writer_Fixed at h
  unfold C_codec_Writer_Fixed
  refine Calls.mono (calls_of_wpE (args := [Value.pointer w_, Value.int .u64 n_, Value.int .i64 width]) (R := fun v w' => ∃ (r0 : Int), v = Value.int .i64 r0 ∧ R r0 w') Tryz.func106 (c := c106_0) (by kernel_rfl) 40 (by kernel_rfl) (by kernel_rfl) [(0, Value.pointer w_), (1, Value.int .u64 n_), (2, Value.int .i64 width)] (by kernel_rfl) ?_) ?_
  · refine Zp c106_3 P1 [(0, .pointer w_), (1, .int .u64 n_), (2, .int .i64 width)] ?_
    refine Zs c106_4 c106_30 ?_
    refine Zb 0 c106_5 ?_
    refine Zt r106_6 c106_8 ?_
    refine Zn P1 1 [(0, [], .pointer w_), (1, [], .int .u64 n_), (2, [], .int .i64 width), (8, [], .pointer w_)] ?_
    refine Zm 165 #[.pointer w_] (some 9) (Calls.mono h ?_)
    rintro _ w1 ⟨v9, rfl, h⟩
    refine ⟨_, rfl, ?_⟩
    refine Zf P1 [(0, .pointer w_), (1, .int .u64 n_), (2, .int .i64 width), (7, .bool v9)] ?_
    change WpE _ _ c106_8 _ _ _
    refine Zc 7 v9 c106_9 c106_13 (fun hb => ?_) (fun hb => ?_)
    · replace h := h.1 hb
      refine Zp c106_12 P1 [(6, .int .i64 2)] ?_
      refine wpE_ret (by kernel_rfl) ?_
      repeat (first | refine seqQ_ret ?_ | refine blockQ_ret ?_ | refine loopQ_ret ?_ | refine cutQ_ret ?_)
      exact retS (rs := [(ResultVar.tmp 6)]) (v := Value.int .i64 2) (by kernel_rfl) (⟨by kernel_rfl, trivial⟩) ⟨2, rfl, h⟩
    · replace h := h.2 hb
      refine Zp c106_16 [.plain, .plain, .plain, .plain, .plain, .pick, .plain] [(0, .pointer w_), (1, .int .u64 n_), (2, .int .i64 width), (10, .bool ((decide (width < 1)) || (decide (width > 8))))] ?_
      refine Zc 10 ((decide (width < 1)) || (decide (width > 8))) c106_17 c106_21 (fun hb => ?_) (fun hb => ?_)
      · replace h := h.1 hb
        refine Zp c106_20 P1 [(6, .int .i64 1)] ?_
        refine wpE_ret (by kernel_rfl) ?_
        repeat (first | refine seqQ_ret ?_ | refine blockQ_ret ?_ | refine loopQ_ret ?_ | refine cutQ_ret ?_)
        exact retS (rs := [(ResultVar.tmp 6)]) (v := Value.int .i64 1) (by kernel_rfl) (⟨by kernel_rfl, trivial⟩) ⟨1, rfl, h⟩
      · replace h := h.2 hb
        refine Zt r106_22 c106_24 ?_
        refine Zn P3 3 [(0, [], .pointer w_), (1, [], .int .u64 n_), (2, [], .int .i64 width), (18, [], .int .u64 n_), (20, [], .int .i64 (IntKind.i64.wrap (8 * width)))] ?_
        obtain ⟨h0, h⟩ := h
        refine reg_val (op := (Op.binOp BinOp.shr 117 (Operand.tmp 18) (Operand.tmp 20) 3)) (ty := 117) (dst := some 21) (Value.int .u64 (Int.fdiv n_ (2 ^ (min (IntKind.i64.wrap (8 * width)).toNat 64)))) (by kernel_rfl) (fun ww => run_shr (k' := .i64) (by kernel_rfl) (by kernel_rfl) (by kernel_rfl) h0 ww) ?_
        refine Zf P2 [(0, .pointer w_), (1, .int .u64 n_), (2, .int .i64 width), (17, .bool ((Int.fdiv n_ (2 ^ (min (IntKind.i64.wrap (8 * width)).toNat 64))) != 0))] ?_
        change WpE _ _ c106_24 _ _ _
        refine Zc 17 ((Int.fdiv n_ (2 ^ (min (IntKind.i64.wrap (8 * width)).toNat 64))) != 0) c106_25 c106_29 (fun hb => ?_) (fun hb => ?_)
        · replace h := h.1 hb
          refine Zp c106_28 P1 [(6, .int .i64 3)] ?_
          refine wpE_ret (by kernel_rfl) ?_
          repeat (first | refine seqQ_ret ?_ | refine blockQ_ret ?_ | refine loopQ_ret ?_ | refine cutQ_ret ?_)
          exact retS (rs := [(ResultVar.tmp 6)]) (v := Value.int .i64 3) (by kernel_rfl) (⟨by kernel_rfl, trivial⟩) ⟨3, rfl, h⟩
        · replace h := h.2 hb
          refine wpE_skip (by kernel_rfl) ?_
          change WpE _ _ c106_30 _ _ _
          refine Zs c106_31 c106_52 ?_
          refine Zp c106_34 P2 [(0, .pointer w_), (1, .int .u64 n_), (23, .int .i64 width), (24, .int .i64 0)] ?_
          refine Zb 1 c106_35 ?_
          obtain ⟨I, μ, h0, hr⟩ := h
          refine wpE_loop (x := c106_36) (by kernel_rfl) (fun m l w => ∃ (n_1 : Int) (t24 : Int), l = [(0, Value.pointer w_), (1, Value.int .u64 n_1), (23, Value.int .i64 width), (24, Value.int .i64 t24)] ∧ I n_1 t24 w ∧ μ n_1 t24 w = m) (l' := [(0, Value.pointer w_), (1, Value.int .u64 n_), (23, Value.int .i64 width), (24, Value.int .i64 0)]) (Sub.mk (by kernel_rfl)) ⟨n_, 0, rfl, h0, rfl⟩ ?_
          rintro _ _ w2 ⟨n_1, t24, rfl, hI, rfl⟩
          obtain ⟨again_, again__h, h⟩ : ∃ again_ : Int → Int → World → Prop, (∀ n_1' t24' w', again_ n_1' t24' w' → I n_1' t24' w' ∧ μ n_1' t24' w' < μ n_1 t24 w2) ∧ F_codec_Writer_Fixed_L0 w_ width R again_ n_1 t24 w2 := ⟨_, fun _ _ _ h => h, hr n_1 t24 w2 hI⟩
          clear h0 hI
          unfold F_codec_Writer_Fixed_L0 at h
          refine Zp c106_39 P1 [(0, .pointer w_), (1, .int .u64 n_1), (23, .int .i64 width), (24, .int .i64 t24), (25, .bool (decide (t24 < width)))] ?_
          refine Zs c106_40 c106_43 ?_
          refine Zc 25 (decide (t24 < width)) c106_41 c106_42 (fun hb => ?_) (fun hb => ?_)
          · replace h := h.1 hb
            refine wpE_skip (by kernel_rfl) ?_
            change WpE _ _ c106_43 _ _ _
            refine Zs c106_44 c106_50 ?_
            refine Zb 2 c106_45 ?_
            refine Zt r106_46 c106_48 ?_
            refine Zn P2 2 [(0, [], .pointer w_), (1, [], .int .u64 n_1), (23, [], .int .i64 width), (24, [], .int .i64 t24), (26, [], .pointer w_), (27, [], .pointer w_)] ?_
            obtain ⟨hp_14, h⟩ := h
            refine Zv (fun pp => [(0, [], .pointer w_), (1, [], .int .u64 n_1), (23, [], .int .i64 width), (24, [], .int .i64 t24), (26, [], .pointer w_), (27, [], .pointer pp)]) hp_14 ?_
            refine Zn P1 3 [(0, [], .pointer w_), (1, [], .int .u64 n_1), (23, [], .int .i64 width), (24, [], .int .i64 t24), (26, [], .pointer w_), (27, [], .pointer (some ⟨(pblk w_), (poff w_), none⟩)), (28, [], .pointer (some ⟨(pblk w_), (poff w_), none⟩))] ?_
            refine Zn P1 4 [(0, [], .pointer w_), (1, [], .int .u64 n_1), (23, [], .int .i64 width), (24, [], .int .i64 t24), (26, [], .pointer w_), (29, [], .pointer (some ⟨(pblk w_), (poff w_) + 1, none⟩))] ?_
            obtain ⟨v30, hc, h⟩ := h
            refine Zl 79 29 (pblk w_) ((poff w_) + 1) 79 30 hc ?_
            refine Zn P2 7 [(0, [], .pointer w_), (1, [], .int .u64 n_1), (23, [], .int .i64 width), (24, [], .int .i64 t24), (26, [], .pointer w_), (30, [], .slice v30.ptr v30.len v30.cap), (32, [], .int .u8 (IntKind.u8.wrap n_1))] ?_
            refine Zw (some 33) (fun bb => .slice (some ⟨bb, 0, none⟩) 1 1) (Obj.cells ([.int .u8 (IntKind.u8.wrap n_1)]).toArray ty_uint8 (0, 0)) (fun b_ w3 hb hw => ?_)
            replace h := h b_ w3 hb hw
            clear hb hw
            refine Zn [] 8 [(0, [], .pointer w_), (1, [], .int .u64 n_1), (23, [], .int .i64 width), (24, [], .int .i64 t24), (26, [], .pointer w_), (30, [], .slice v30.ptr v30.len v30.cap), (33, [], .slice (some ⟨b_, 0, none⟩) 1 1)] ?_
            obtain ⟨src, hs, h⟩ := h
            refine reg_append (t := 79) (tx := 79) (e := 5) (a := (Operand.tmp 30)) (xo := (Operand.tmp 33)) (s := v30) (x := (Slc.mk (some ⟨b_, 0, none⟩) 1 1)) (sz := 1) (by_ := 1) (zs := [Value.int .u8 0]) (ty := 79) (dst := some 34)  src (by kernel_rfl) (by kernel_rfl) (by kernel_rfl) (by kernel_rfl) (by kernel_rfl) (by kernel_rfl) (by kernel_rfl) (by kernel_rfl) (by kernel_rfl) hs (AppendW.mono h (fun v34 w4 h => ?_))
            refine Zn [] 9 [(0, [], .pointer w_), (1, [], .int .u64 n_1), (23, [], .int .i64 width), (24, [], .int .i64 t24), (26, [], .pointer w_), (34, [], .slice v34.ptr v34.len v34.cap)] ?_
            obtain ⟨hp_15, h⟩ := h
            refine Zv (fun pp => [(0, [], .pointer w_), (1, [], .int .u64 n_1), (23, [], .int .i64 width), (24, [], .int .i64 t24), (26, [], .pointer pp), (34, [], .slice v34.ptr v34.len v34.cap)]) hp_15 ?_
            refine Zn P1 10 [(0, [], .pointer w_), (1, [], .int .u64 n_1), (23, [], .int .i64 width), (24, [], .int .i64 t24), (26, [], .pointer (some ⟨(pblk w_), (poff w_), none⟩)), (34, [], .slice v34.ptr v34.len v34.cap), (35, [], .pointer (some ⟨(pblk w_), (poff w_), none⟩))] ?_
            refine Zn P1 11 [(0, [], .pointer w_), (1, [], .int .u64 n_1), (23, [], .int .i64 width), (24, [], .int .i64 t24), (34, [], .slice v34.ptr v34.len v34.cap), (36, [], .pointer (some ⟨(pblk w_), (poff w_) + 1, none⟩))] ?_
            obtain ⟨hc, h⟩ := h
            refine Zo 79 36 34 (pblk w_) ((poff w_) + 1) 1 [.slice v34.ptr v34.len v34.cap] hc (fun w5 hw => ?_)
            replace h := h w5 hw
            clear hw
            refine Ze [(0, .pointer w_), (1, .int .u64 n_1), (23, .int .i64 width), (24, .int .i64 t24)] ?_
            change WpE _ _ c106_48 _ _ _
            refine Zr r106_48 ?_
            refine Zf P3 [(0, .pointer w_), (1, .int .u64 (Int.fdiv n_1 (2 ^ 8))), (23, .int .i64 width), (24, .int .i64 t24)] ?_
            change WpE _ _ c106_50 _ _ _
            refine Zr r106_50 ?_
            refine Zf P2 [(0, .pointer w_), (1, .int .u64 (Int.fdiv n_1 (2 ^ 8))), (23, .int .i64 width), (24, .int .i64 (IntKind.i64.wrap (t24 + 1)))] ?_
            have hb_ := again__h _ _ _ h
            exact ⟨_, hb_.2, [(0, Value.pointer w_), (1, Value.int .u64 (Int.fdiv n_1 (2 ^ 8))), (23, Value.int .i64 width), (24, Value.int .i64 (IntKind.i64.wrap (t24 + 1)))], Sub.mk (by kernel_rfl), (Int.fdiv n_1 (2 ^ 8)), (IntKind.i64.wrap (t24 + 1)), rfl, hb_.1, rfl⟩
          · replace h := h.2 hb
            refine wpE_exit (id := 1) (by kernel_rfl) ?_
            change WpE _ _ c106_52 _ _ _
            refine Zp c106_55 P1 [(6, .int .i64 0)] ?_
            refine wpE_ret (by kernel_rfl) ?_
            repeat (first | refine seqQ_ret ?_ | refine blockQ_ret ?_ | refine loopQ_ret ?_ | refine cutQ_ret ?_)
            exact retS (rs := [(ResultVar.tmp 6)]) (v := Value.int .i64 0) (by kernel_rfl) (⟨by kernel_rfl, trivial⟩) ⟨0, rfl, h⟩
  · rintro e w' ⟨v, rfl, r0, rfl, h⟩; exact ⟨r0, rfl, h⟩

/-! ### (*towpath/codec.Writer).Done (function 108) -/
noncomputable def c108_0 := (Tryz.f108.body).getD Code.skip
noncomputable def c108_3 := Code.r c108_0
noncomputable def c108_4 := Code.l c108_3
noncomputable def c108_5 := Code.l c108_4
noncomputable def r108_5 := Code.ops c108_5
noncomputable def c108_7 := Code.r c108_4
noncomputable def c108_8 := Code.l c108_7
noncomputable def c108_11 := Code.r c108_8
noncomputable def c108_12 := Code.r c108_7
noncomputable def c108_13 := Code.r c108_3
noncomputable def c108_14 := Code.l c108_13
noncomputable def r108_14 := Code.ops c108_14
noncomputable def c108_16 := Code.r c108_13

theorem S_codec_Writer_Done {w_ : Option Addr} {w : World} {R : Slc → World → Prop} (h : F_codec_Writer_Done w_ R w) : C_codec_Writer_Done w_ w R := by
  unfold F_codec_Writer_Done at h
  unfold C_codec_Writer_Done
  refine Calls.mono (calls_of_wpE (args := [Value.pointer w_]) (R := fun v w' => ∃ (r0 : Slc), v = Value.slice r0.ptr r0.len r0.cap ∧ R r0 w') Tryz.func108 (c := c108_0) (by kernel_rfl) 10 (by kernel_rfl) (by kernel_rfl) [(0, Value.pointer w_)] (by kernel_rfl) ?_) ?_
  · refine Zp c108_3 P1 [(0, .pointer w_)] ?_
    refine Zs c108_4 c108_13 ?_
    refine Zt r108_5 c108_7 ?_
    refine Zn P1 1 [(0, [], .pointer w_), (3, [], .pointer w_)] ?_
    refine Zm 165 #[.pointer w_] (some 4) (Calls.mono h ?_)
    rintro _ w1 ⟨v4, rfl, h⟩
    refine ⟨_, rfl, ?_⟩
    refine Ze [(0, .pointer w_), (4, .bool v4)] ?_
    change WpE _ _ c108_7 _ _ _
    refine Zc 4 v4 c108_8 c108_12 (fun hb => ?_) (fun hb => ?_)
    · replace h := h.1 hb
      refine Zp c108_11 P1 [(2, .slice none 0 0)] ?_
      refine wpE_ret (by kernel_rfl) ?_
      repeat (first | refine seqQ_ret ?_ | refine blockQ_ret ?_ | refine loopQ_ret ?_ | refine cutQ_ret ?_)
      exact retS (rs := [(ResultVar.tmp 2)]) (v := Value.slice none 0 0) (by kernel_rfl) (⟨by kernel_rfl, trivial⟩) ⟨(Slc.mk none 0 0), rfl, h⟩
    · replace h := h.2 hb
      refine wpE_skip (by kernel_rfl) ?_
      change WpE _ _ c108_13 _ _ _
      refine Zt r108_14 c108_16 ?_
      refine Zn P1 1 [(5, [], .pointer w_)] ?_
      obtain ⟨hp_0, h⟩ := h
      refine Zv (fun pp => [(5, [], .pointer pp)]) hp_0 ?_
      refine Zn P1 2 [(5, [], .pointer (some ⟨(pblk w_), (poff w_), none⟩)), (6, [], .pointer (some ⟨(pblk w_), (poff w_), none⟩))] ?_
      refine Zn P1 3 [(7, [], .pointer (some ⟨(pblk w_), (poff w_) + 1, none⟩))] ?_
      obtain ⟨v8, hc, h⟩ := h
      refine Zl 79 7 (pblk w_) ((poff w_) + 1) 79 8 hc ?_
      refine Zn [] 4 [(8, [], .slice v8.ptr v8.len v8.cap)] ?_
      refine Zm 167 #[.slice v8.ptr v8.len v8.cap] (some 9) (Calls.mono h ?_)
      rintro _ w2 ⟨v9, rfl, h⟩
      refine ⟨_, rfl, ?_⟩
      refine Zf P1 [(2, .slice v9.ptr v9.len v9.cap)] ?_
      change WpE _ _ c108_16 _ _ _
      refine wpE_ret (by kernel_rfl) ?_
      repeat (first | refine seqQ_ret ?_ | refine blockQ_ret ?_ | refine loopQ_ret ?_ | refine cutQ_ret ?_)
      exact retS (rs := [(ResultVar.tmp 2)]) (v := Value.slice v9.ptr v9.len v9.cap) (by kernel_rfl) (⟨by kernel_rfl, trivial⟩) ⟨v9, rfl, h⟩
  · rintro e w' ⟨v, rfl, r0, rfl, h⟩; exact ⟨r0, rfl, h⟩

/-! ### (*towpath/codec.Writer).Var (function 164) -/
noncomputable def c164_0 := (Tryz.f164.body).getD Code.skip
noncomputable def c164_1 := Code.l c164_0
noncomputable def c164_2 := Code.l c164_1
noncomputable def r164_2 := Code.ops c164_2
noncomputable def c164_4 := Code.r c164_1
noncomputable def c164_5 := Code.l c164_4
noncomputable def c164_6 := Code.r c164_4
noncomputable def c164_7 := Code.r c164_0
noncomputable def c164_8 := Code.l c164_7
noncomputable def c164_9 := Code.l c164_8
noncomputable def c164_10 := Code.l c164_9
noncomputable def c164_11 := Code.l c164_10
noncomputable def c164_14 := Code.r c164_11
noncomputable def c164_15 := Code.l c164_14
noncomputable def c164_16 := Code.r c164_14
noncomputable def c164_17 := Code.r c164_10
noncomputable def c164_18 := Code.l c164_17
noncomputable def c164_19 := Code.l c164_18
noncomputable def r164_19 := Code.ops c164_19
noncomputable def c164_21 := Code.r c164_17
noncomputable def r164_21 := Code.ops c164_21
noncomputable def c164_23 := Code.r c164_7
noncomputable def r164_23 := Code.ops c164_23

theorem S_codec_Writer_Var {w_ : Option Addr} {n_ : Int} {w : World} {R : World → Prop} (h : F_codec_Writer_Var w_ n_ R w) : C_codec_Writer_Var w_ n_ w R := by
  unfold F_codec_Writer_Var at h
  unfold C_codec_Writer_Var
  refine Calls.mono (calls_of_wpE (args := [Value.pointer w_, Value.int .u64 n_]) (R := fun v w' => v = Value.tuple #[] ∧ R w') Tryz.func164 (c := c164_0) (by kernel_rfl) 33 (by kernel_rfl) (by kernel_rfl) [(0, Value.pointer w_), (1, Value.int .u64 n_)] (by kernel_rfl) ?_) ?_
  · refine Zs c164_1 c164_7 ?_
    refine Zt r164_2 c164_4 ?_
    refine Zn P1 1 [(0, [], .pointer w_), (1, [], .int .u64 n_), (4, [], .pointer w_)] ?_
    refine Zm 165 #[.pointer w_] (some 5) (Calls.mono h ?_)
    rintro _ w1 ⟨v5, rfl, h⟩
    refine ⟨_, rfl, ?_⟩
    refine Ze [(0, .pointer w_), (1, .int .u64 n_), (5, .bool v5)] ?_
    change WpE _ _ c164_4 _ _ _
    refine Zc 5 v5 c164_5 c164_6 (fun hb => ?_) (fun hb => ?_)
    · replace h := h.1 hb
      refine wpE_ret (by kernel_rfl) ?_
      repeat (first | refine seqQ_ret ?_ | refine blockQ_ret ?_ | refine loopQ_ret ?_ | refine cutQ_ret ?_)
      exact retT (rs := []) (vs := []) (by kernel_rfl) (trivial) (by kernel_rfl) ⟨rfl, h⟩
    · replace h := h.2 hb
      refine wpE_skip (by kernel_rfl) ?_
      change WpE _ _ c164_7 _ _ _
      refine Zs c164_8 c164_23 ?_
      refine Zb 0 c164_9 ?_
      obtain ⟨I, μ, h0, hr⟩ := h
      refine wpE_loop (x := c164_10) (by kernel_rfl) (fun m l w => ∃ (n_1 : Int), l = [(0, Value.pointer w_), (1, Value.int .u64 n_1)] ∧ I n_1 w ∧ μ n_1 w = m) (l' := [(0, Value.pointer w_), (1, Value.int .u64 n_)]) (Sub.mk (by kernel_rfl)) ⟨n_, rfl, h0, rfl⟩ ?_
      rintro _ _ w2 ⟨n_1, rfl, hI, rfl⟩
      obtain ⟨again_, again__h, h⟩ : ∃ again_ : Int → World → Prop, (∀ n_1' w', again_ n_1' w' → I n_1' w' ∧ μ n_1' w' < μ n_1 w2) ∧ F_codec_Writer_Var_L0 w_ R again_ n_1 w2 := ⟨_, fun _ _ h => h, hr n_1 w2 hI⟩
      clear h0 hI
      unfold F_codec_Writer_Var_L0 at h
      refine Zs c164_11 c164_17 ?_
      refine Zp c164_14 P2 [(0, .pointer w_), (1, .int .u64 n_1), (7, .bool (decide (n_1 ≥ 128)))] ?_
      refine Zc 7 (decide (n_1 ≥ 128)) c164_15 c164_16 (fun hb => ?_) (fun hb => ?_)
      · replace h := h.1 hb
        refine wpE_skip (by kernel_rfl) ?_
        change WpE _ _ c164_17 _ _ _
        refine Zs c164_18 c164_21 ?_
        refine Zb 1 c164_19 ?_
        refine Zr r164_19 ?_
        refine Zn P2 2 [(0, [], .pointer w_), (1, [], .int .u64 n_1), (10, [], .pointer w_), (11, [], .pointer w_)] ?_
        obtain ⟨hp_6, h⟩ := h
        refine Zv (fun pp => [(0, [], .pointer w_), (1, [], .int .u64 n_1), (10, [], .pointer w_), (11, [], .pointer pp)]) hp_6 ?_
        refine Zn P1 3 [(0, [], .pointer w_), (1, [], .int .u64 n_1), (10, [], .pointer w_), (11, [], .pointer (some ⟨(pblk w_), (poff w_), none⟩)), (12, [], .pointer (some ⟨(pblk w_), (poff w_), none⟩))] ?_
        refine Zn P1 4 [(0, [], .pointer w_), (1, [], .int .u64 n_1), (10, [], .pointer w_), (13, [], .pointer (some ⟨(pblk w_), (poff w_) + 1, none⟩))] ?_
        obtain ⟨v14, hc, h⟩ := h
        refine Zl 79 13 (pblk w_) ((poff w_) + 1) 79 14 hc ?_
        refine Zn P3 8 [(0, [], .pointer w_), (1, [], .int .u64 n_1), (10, [], .pointer w_), (14, [], .slice v14.ptr v14.len v14.cap), (17, [], .int .u8 (bor .u8 (IntKind.u8.wrap n_1) 128))] ?_
        refine Zw (some 18) (fun bb => .slice (some ⟨bb, 0, none⟩) 1 1) (Obj.cells ([.int .u8 (bor .u8 (IntKind.u8.wrap n_1) 128)]).toArray ty_uint8 (0, 0)) (fun b_ w3 hb hw => ?_)
        replace h := h b_ w3 hb hw
        clear hb hw
        refine Zn [] 9 [(0, [], .pointer w_), (1, [], .int .u64 n_1), (10, [], .pointer w_), (14, [], .slice v14.ptr v14.len v14.cap), (18, [], .slice (some ⟨b_, 0, none⟩) 1 1)] ?_
        obtain ⟨src, hs, h⟩ := h
        refine reg_append (t := 79) (tx := 79) (e := 5) (a := (Operand.tmp 14)) (xo := (Operand.tmp 18)) (s := v14) (x := (Slc.mk (some ⟨b_, 0, none⟩) 1 1)) (sz := 1) (by_ := 1) (zs := [Value.int .u8 0]) (ty := 79) (dst := some 19)  src (by kernel_rfl) (by kernel_rfl) (by kernel_rfl) (by kernel_rfl) (by kernel_rfl) (by kernel_rfl) (by kernel_rfl) (by kernel_rfl) (by kernel_rfl) hs (AppendW.mono h (fun v19 w4 h => ?_))
        refine Zn [] 10 [(0, [], .pointer w_), (1, [], .int .u64 n_1), (10, [], .pointer w_), (19, [], .slice v19.ptr v19.len v19.cap)] ?_
        obtain ⟨hp_7, h⟩ := h
        refine Zv (fun pp => [(0, [], .pointer w_), (1, [], .int .u64 n_1), (10, [], .pointer pp), (19, [], .slice v19.ptr v19.len v19.cap)]) hp_7 ?_
        refine Zn P1 11 [(0, [], .pointer w_), (1, [], .int .u64 n_1), (10, [], .pointer (some ⟨(pblk w_), (poff w_), none⟩)), (19, [], .slice v19.ptr v19.len v19.cap), (20, [], .pointer (some ⟨(pblk w_), (poff w_), none⟩))] ?_
        refine Zn P1 12 [(0, [], .pointer w_), (1, [], .int .u64 n_1), (19, [], .slice v19.ptr v19.len v19.cap), (21, [], .pointer (some ⟨(pblk w_), (poff w_) + 1, none⟩))] ?_
        obtain ⟨hc, h⟩ := h
        refine Zo 79 21 19 (pblk w_) ((poff w_) + 1) 1 [.slice v19.ptr v19.len v19.cap] hc (fun w5 hw => ?_)
        replace h := h w5 hw
        clear hw
        refine Ze [(0, .pointer w_), (1, .int .u64 n_1)] ?_
        change WpE _ _ c164_21 _ _ _
        refine Zr r164_21 ?_
        refine Zf P3 [(0, .pointer w_), (1, .int .u64 (Int.fdiv n_1 (2 ^ 7)))] ?_
        have hb_ := again__h _ _ h
        exact ⟨_, hb_.2, [(0, Value.pointer w_), (1, Value.int .u64 (Int.fdiv n_1 (2 ^ 7)))], Sub.mk (by kernel_rfl), (Int.fdiv n_1 (2 ^ 7)), rfl, hb_.1, rfl⟩
      · replace h := h.2 hb
        refine wpE_exit (id := 0) (by kernel_rfl) ?_
        change WpE _ _ c164_23 _ _ _
        refine Zr r164_23 ?_
        refine Zn P2 2 [(1, [], .int .u64 n_1), (22, [], .pointer w_), (23, [], .pointer w_)] ?_
        obtain ⟨hp_8, h⟩ := h
        refine Zv (fun pp => [(1, [], .int .u64 n_1), (22, [], .pointer w_), (23, [], .pointer pp)]) hp_8 ?_
        refine Zn P1 3 [(1, [], .int .u64 n_1), (22, [], .pointer w_), (23, [], .pointer (some ⟨(pblk w_), (poff w_), none⟩)), (24, [], .pointer (some ⟨(pblk w_), (poff w_), none⟩))] ?_
        refine Zn P1 4 [(1, [], .int .u64 n_1), (22, [], .pointer w_), (25, [], .pointer (some ⟨(pblk w_), (poff w_) + 1, none⟩))] ?_
        obtain ⟨v26, hc, h⟩ := h
        refine Zl 79 25 (pblk w_) ((poff w_) + 1) 79 26 hc ?_
        refine Zn P2 7 [(22, [], .pointer w_), (26, [], .slice v26.ptr v26.len v26.cap), (28, [], .int .u8 (IntKind.u8.wrap n_1))] ?_
        refine Zw (some 29) (fun bb => .slice (some ⟨bb, 0, none⟩) 1 1) (Obj.cells ([.int .u8 (IntKind.u8.wrap n_1)]).toArray ty_uint8 (0, 0)) (fun b_1 w6 hb hw => ?_)
        replace h := h b_1 w6 hb hw
        clear hb hw
        refine Zn [] 8 [(22, [], .pointer w_), (26, [], .slice v26.ptr v26.len v26.cap), (29, [], .slice (some ⟨b_1, 0, none⟩) 1 1)] ?_
        obtain ⟨src, hs, h⟩ := h
        refine reg_append (t := 79) (tx := 79) (e := 5) (a := (Operand.tmp 26)) (xo := (Operand.tmp 29)) (s := v26) (x := (Slc.mk (some ⟨b_1, 0, none⟩) 1 1)) (sz := 1) (by_ := 1) (zs := [Value.int .u8 0]) (ty := 79) (dst := some 30)  src (by kernel_rfl) (by kernel_rfl) (by kernel_rfl) (by kernel_rfl) (by kernel_rfl) (by kernel_rfl) (by kernel_rfl) (by kernel_rfl) (by kernel_rfl) hs (AppendW.mono h (fun v30 w7 h => ?_))
        refine Zn [] 9 [(22, [], .pointer w_), (30, [], .slice v30.ptr v30.len v30.cap)] ?_
        obtain ⟨hp_9, h⟩ := h
        refine Zv (fun pp => [(22, [], .pointer pp), (30, [], .slice v30.ptr v30.len v30.cap)]) hp_9 ?_
        refine Zn P1 10 [(22, [], .pointer (some ⟨(pblk w_), (poff w_), none⟩)), (30, [], .slice v30.ptr v30.len v30.cap), (31, [], .pointer (some ⟨(pblk w_), (poff w_), none⟩))] ?_
        refine Zn P1 11 [(30, [], .slice v30.ptr v30.len v30.cap), (32, [], .pointer (some ⟨(pblk w_), (poff w_) + 1, none⟩))] ?_
        obtain ⟨hc, h⟩ := h
        refine Zo 79 32 30 (pblk w_) ((poff w_) + 1) 1 [.slice v30.ptr v30.len v30.cap] hc (fun w8 hw => ?_)
        replace h := h w8 hw
        clear hw
        refine Ze [] ?_
        repeat (first | refine seqQ_exit ?_ | refine loopQ_exit ?_ | refine cutQ_exit ?_ | refine blockQ_hit ?_ | refine blockQ_miss (by kernel_rfl) ?_)
        refine retQ_normal ?_
        repeat (first | refine seqQ_ret ?_ | refine blockQ_ret ?_ | refine loopQ_ret ?_ | refine cutQ_ret ?_)
        exact retT (rs := []) (vs := []) (by kernel_rfl) (trivial) (by kernel_rfl) ⟨rfl, h⟩
  · rintro e w' ⟨v, rfl, rfl, h⟩; exact ⟨rfl, h⟩

/-! ### (*towpath/codec.Writer).gone (function 165) -/
noncomputable def c165_0 := (Tryz.f165.body).getD Code.skip
noncomputable def c165_3 := Code.r c165_0
noncomputable def c165_4 := Code.l c165_3
noncomputable def r165_4 := Code.ops c165_4
noncomputable def c165_6 := Code.r c165_3

theorem S_codec_Writer_gone {w_ : Option Addr} {w : World} {R : Bool → World → Prop} (h : F_codec_Writer_gone w_ R w) : C_codec_Writer_gone w_ w R := by
  unfold F_codec_Writer_gone at h
  unfold C_codec_Writer_gone
  refine Calls.mono (calls_of_wpE (args := [Value.pointer w_]) (R := fun v w' => ∃ (r0 : Bool), v = Value.bool r0 ∧ R r0 w') Tryz.func165 (c := c165_0) (by kernel_rfl) 12 (by kernel_rfl) (by kernel_rfl) [(0, Value.pointer w_)] (by kernel_rfl) ?_) ?_
  · refine Zp c165_3 P1 [(0, .pointer w_)] ?_
    refine Zt r165_4 c165_6 ?_
    refine Zn P1 1 [(0, [], .pointer w_), (3, [], .pointer w_)] ?_
    refine reg_val (op := (Op.binOp BinOp.eql 112 (Operand.tmp 3) (Operand.const (Value.pointer none)) 112)) (ty := 4) (dst := some 4) (Value.bool w_.isNone) (by kernel_rfl) (fun ww => run_ptr_eql_R (p := w_) (by kernel_rfl) (by kernel_rfl) (by kernel_rfl) ww) ?_
    refine Zn P2 4 [(5, [], .bool w_.isNone), (6, [(5, false)], .pointer w_)] ?_
    refine reg_split 5 w_.isNone (by kernel_rfl) (fun hb => ?_) (fun hb => ?_)
    · replace h := h.1 hb
      refine Zn [] 4 [(5, [], .bool true), (6, [], undef)] ?_
      refine Zf [.skip, .skip, .skip, .skip, .plain, .plain] [(2, .bool true)] ?_
      change WpE _ _ c165_6 _ _ _
      refine wpE_ret (by kernel_rfl) ?_
      repeat (first | refine seqQ_ret ?_ | refine blockQ_ret ?_ | refine loopQ_ret ?_ | refine cutQ_ret ?_)
      exact retS (rs := [(ResultVar.tmp 2)]) (v := Value.bool true) (by kernel_rfl) (⟨by kernel_rfl, trivial⟩) ⟨true, rfl, h⟩
    · replace h := h.2 hb
      refine Zn [] 4 [(5, [], .bool false), (6, [], .pointer w_)] ?_
      refine Zn [] 4 [(5, [], .bool false), (6, [], .pointer w_)] ?_
      obtain ⟨hp_0, h⟩ := h
      refine Zv (fun pp => [(5, [], .bool false), (6, [], .pointer pp)]) hp_0 ?_
      refine Zn [.sure] 5 [(5, [], .bool false), (6, [], .pointer (some ⟨(pblk w_), (poff w_), none⟩)), (7, [], .pointer (some ⟨(pblk w_), (poff w_), none⟩))] ?_
      refine Zn [.sure] 6 [(5, [], .bool false), (8, [], .pointer (some ⟨(pblk w_), (poff w_), none⟩))] ?_
      obtain ⟨v9, hc, h⟩ := h
      refine Zl 4 8 (pblk w_) (poff w_) 4 9 hc ?_
      refine Zf [.sure, .plain, .plain] [(2, .bool (!v9))] ?_
      change WpE _ _ c165_6 _ _ _
      refine wpE_ret (by kernel_rfl) ?_
      repeat (first | refine seqQ_ret ?_ | refine blockQ_ret ?_ | refine loopQ_ret ?_ | refine cutQ_ret ?_)
      exact retS (rs := [(ResultVar.tmp 2)]) (v := Value.bool (!v9)) (by kernel_rfl) (⟨by kernel_rfl, trivial⟩) ⟨(!v9), rfl, h⟩
  · rintro e w' ⟨v, rfl, r0, rfl, h⟩; exact ⟨r0, rfl, h⟩
end Go.Proofs.YtpdegdnigcnjiaaGreatDoor
