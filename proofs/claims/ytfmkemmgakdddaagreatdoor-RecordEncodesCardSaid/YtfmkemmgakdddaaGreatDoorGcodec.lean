/- WRITTEN BY PROGRAM (dec.py): for each Go function the clean formula F, the call's contract C, and the proof S that F gives C. -/
import Derived.Test.YtfmkemmgakdddaaGreatDoorRows
import Derived.Test.YtfmkemmgakdddaaGreatDoorGF
namespace Go.Proofs.YtfmkemmgakdddaaGreatDoor
open Go
set_option linter.unusedVariables false
set_option maxRecDepth 100000
set_option maxHeartbeats 4000000

/-! ### towpath/codec.NewWriter (function 19) -/
noncomputable def c19_0 := (Tryz.f19.body).getD Code.skip
noncomputable def c19_3 := Code.r c19_0
noncomputable def c19_4 := Code.l c19_3
noncomputable def r19_4 := Code.ops c19_4
noncomputable def c19_6 := Code.r c19_3

theorem S_codec_NewWriter {w : World} {R : Option Addr → World → Prop} (h : F_codec_NewWriter R w) : C_codec_NewWriter w R := by
  unfold F_codec_NewWriter at h
  unfold C_codec_NewWriter
  refine Calls.mono (calls_of_wpE (args := []) (R := fun v w' => ∃ (r0 : Option Addr), v = Value.pointer r0 ∧ R r0 w') Tryz.func19 (c := c19_0) (by kernel_rfl) 3 (by kernel_rfl) (by kernel_rfl) [] (by kernel_rfl) ?_) ?_
  · refine Zp c19_3 P1 [] ?_
    refine Zt r19_4 c19_6 ?_
    refine Zn P1 1 [(1, [], .agg #[.bool true, .slice none 0 0])] ?_
    refine Zw (some 2) (fun bb => .pointer (some ⟨bb, 0, none⟩)) (Obj.cells ([.bool true, .slice none 0 0]).toArray ty_codec_Writer (0, 0)) (fun b_ w1 hb hw => ?_)
    replace h := h b_ w1 hb hw
    clear hb hw
    refine Zf P1 [(0, .pointer (some ⟨b_, 0, none⟩))] ?_
    change WpE _ _ c19_6 _ _ _
    refine wpE_ret (by kernel_rfl) ?_
    repeat (first | refine seqQ_ret ?_ | refine blockQ_ret ?_ | refine loopQ_ret ?_ | refine cutQ_ret ?_)
    exact retS (rs := [(ResultVar.tmp 0)]) (v := Value.pointer (some ⟨b_, 0, none⟩)) (by kernel_rfl) (⟨by kernel_rfl, trivial⟩) ⟨(some ⟨b_, 0, none⟩), rfl, h⟩
  · rintro e w' ⟨v, rfl, r0, rfl, h⟩; exact ⟨r0, rfl, h⟩

/-! ### (*towpath/codec.Writer).Var (function 20) -/
noncomputable def c20_0 := (Tryz.f20.body).getD Code.skip
noncomputable def c20_1 := Code.l c20_0
noncomputable def c20_2 := Code.l c20_1
noncomputable def r20_2 := Code.ops c20_2
noncomputable def c20_4 := Code.r c20_1
noncomputable def c20_5 := Code.l c20_4
noncomputable def c20_6 := Code.r c20_4
noncomputable def c20_7 := Code.r c20_0
noncomputable def c20_8 := Code.l c20_7
noncomputable def c20_9 := Code.l c20_8
noncomputable def c20_10 := Code.l c20_9
noncomputable def c20_11 := Code.l c20_10
noncomputable def c20_14 := Code.r c20_11
noncomputable def c20_15 := Code.l c20_14
noncomputable def c20_16 := Code.r c20_14
noncomputable def c20_17 := Code.r c20_10
noncomputable def c20_18 := Code.l c20_17
noncomputable def c20_19 := Code.l c20_18
noncomputable def r20_19 := Code.ops c20_19
noncomputable def c20_21 := Code.r c20_17
noncomputable def r20_21 := Code.ops c20_21
noncomputable def c20_23 := Code.r c20_7
noncomputable def r20_23 := Code.ops c20_23

theorem S_codec_Writer_Var {w_ : Option Addr} {n_ : Int} {w : World} {R : World → Prop} (h : F_codec_Writer_Var w_ n_ R w) : C_codec_Writer_Var w_ n_ w R := by
  unfold F_codec_Writer_Var at h
  unfold C_codec_Writer_Var
  refine Calls.mono (calls_of_wpE (args := [Value.pointer w_, Value.int .u64 n_]) (R := fun v w' => v = Value.tuple #[] ∧ R w') Tryz.func20 (c := c20_0) (by kernel_rfl) 33 (by kernel_rfl) (by kernel_rfl) [(0, Value.pointer w_), (1, Value.int .u64 n_)] (by kernel_rfl) ?_) ?_
  · refine Zs c20_1 c20_7 ?_
    refine Zt r20_2 c20_4 ?_
    refine Zn P1 1 [(0, [], .pointer w_), (1, [], .int .u64 n_), (4, [], .pointer w_)] ?_
    refine Zm 66 #[.pointer w_] (some 5) (Calls.mono h ?_)
    rintro _ w1 ⟨v5, rfl, h⟩
    refine ⟨_, rfl, ?_⟩
    refine Ze [(0, .pointer w_), (1, .int .u64 n_), (5, .bool v5)] ?_
    change WpE _ _ c20_4 _ _ _
    refine Zc 5 v5 c20_5 c20_6 (fun hb => ?_) (fun hb => ?_)
    · replace h := h.1 hb
      refine wpE_ret (by kernel_rfl) ?_
      repeat (first | refine seqQ_ret ?_ | refine blockQ_ret ?_ | refine loopQ_ret ?_ | refine cutQ_ret ?_)
      exact retT (rs := []) (vs := []) (by kernel_rfl) (trivial) (by kernel_rfl) ⟨rfl, h⟩
    · replace h := h.2 hb
      refine wpE_skip (by kernel_rfl) ?_
      change WpE _ _ c20_7 _ _ _
      refine Zs c20_8 c20_23 ?_
      refine Zb 0 c20_9 ?_
      obtain ⟨I, μ, h0, hr⟩ := h
      refine wpE_loop (x := c20_10) (by kernel_rfl) (fun m l w => ∃ (n_1 : Int), l = [(0, Value.pointer w_), (1, Value.int .u64 n_1)] ∧ I n_1 w ∧ μ n_1 w = m) (l' := [(0, Value.pointer w_), (1, Value.int .u64 n_)]) (Sub.mk (by kernel_rfl)) ⟨n_, rfl, h0, rfl⟩ ?_
      rintro _ _ w2 ⟨n_1, rfl, hI, rfl⟩
      obtain ⟨again_, again__h, h⟩ : ∃ again_ : Int → World → Prop, (∀ n_1' w', again_ n_1' w' → I n_1' w' ∧ μ n_1' w' < μ n_1 w2) ∧ F_codec_Writer_Var_L0 w_ R again_ n_1 w2 := ⟨_, fun _ _ h => h, hr n_1 w2 hI⟩
      clear h0 hI
      unfold F_codec_Writer_Var_L0 at h
      refine Zs c20_11 c20_17 ?_
      refine Zp c20_14 P2 [(0, .pointer w_), (1, .int .u64 n_1), (7, .bool (decide (n_1 ≥ 128)))] ?_
      refine Zc 7 (decide (n_1 ≥ 128)) c20_15 c20_16 (fun hb => ?_) (fun hb => ?_)
      · replace h := h.1 hb
        refine wpE_skip (by kernel_rfl) ?_
        change WpE _ _ c20_17 _ _ _
        refine Zs c20_18 c20_21 ?_
        refine Zb 1 c20_19 ?_
        refine Zr r20_19 ?_
        refine Zn P2 2 [(0, [], .pointer w_), (1, [], .int .u64 n_1), (10, [], .pointer w_), (11, [], .pointer w_)] ?_
        obtain ⟨hp_6, h⟩ := h
        refine Zv (fun pp => [(0, [], .pointer w_), (1, [], .int .u64 n_1), (10, [], .pointer w_), (11, [], .pointer pp)]) hp_6 ?_
        refine Zn P1 3 [(0, [], .pointer w_), (1, [], .int .u64 n_1), (10, [], .pointer w_), (11, [], .pointer (some ⟨(pblk w_), (poff w_), none⟩)), (12, [], .pointer (some ⟨(pblk w_), (poff w_), none⟩))] ?_
        refine Zn P1 4 [(0, [], .pointer w_), (1, [], .int .u64 n_1), (10, [], .pointer w_), (13, [], .pointer (some ⟨(pblk w_), (poff w_) + 1, none⟩))] ?_
        obtain ⟨v14, hc, h⟩ := h
        refine Zl 28 13 (pblk w_) ((poff w_) + 1) 28 14 hc ?_
        refine Zn P3 8 [(0, [], .pointer w_), (1, [], .int .u64 n_1), (10, [], .pointer w_), (14, [], .slice v14.ptr v14.len v14.cap), (17, [], .int .u8 (bor .u8 (IntKind.u8.wrap n_1) 128))] ?_
        refine Zw (some 18) (fun bb => .slice (some ⟨bb, 0, none⟩) 1 1) (Obj.cells ([.int .u8 (bor .u8 (IntKind.u8.wrap n_1) 128)]).toArray ty_uint8 (0, 0)) (fun b_ w3 hb hw => ?_)
        replace h := h b_ w3 hb hw
        clear hb hw
        refine Zn [] 9 [(0, [], .pointer w_), (1, [], .int .u64 n_1), (10, [], .pointer w_), (14, [], .slice v14.ptr v14.len v14.cap), (18, [], .slice (some ⟨b_, 0, none⟩) 1 1)] ?_
        obtain ⟨src, hs, h⟩ := h
        refine reg_append (t := 28) (tx := 28) (e := 5) (a := (Operand.tmp 14)) (xo := (Operand.tmp 18)) (s := v14) (x := (Slc.mk (some ⟨b_, 0, none⟩) 1 1)) (sz := 1) (by_ := 1) (zs := [Value.int .u8 0]) (ty := 28) (dst := some 19)  src (by kernel_rfl) (by kernel_rfl) (by kernel_rfl) (by kernel_rfl) (by kernel_rfl) (by kernel_rfl) (by kernel_rfl) (by kernel_rfl) (by kernel_rfl) hs (AppendW.mono h (fun v19 w4 h => ?_))
        refine Zn [] 10 [(0, [], .pointer w_), (1, [], .int .u64 n_1), (10, [], .pointer w_), (19, [], .slice v19.ptr v19.len v19.cap)] ?_
        obtain ⟨hp_7, h⟩ := h
        refine Zv (fun pp => [(0, [], .pointer w_), (1, [], .int .u64 n_1), (10, [], .pointer pp), (19, [], .slice v19.ptr v19.len v19.cap)]) hp_7 ?_
        refine Zn P1 11 [(0, [], .pointer w_), (1, [], .int .u64 n_1), (10, [], .pointer (some ⟨(pblk w_), (poff w_), none⟩)), (19, [], .slice v19.ptr v19.len v19.cap), (20, [], .pointer (some ⟨(pblk w_), (poff w_), none⟩))] ?_
        refine Zn P1 12 [(0, [], .pointer w_), (1, [], .int .u64 n_1), (19, [], .slice v19.ptr v19.len v19.cap), (21, [], .pointer (some ⟨(pblk w_), (poff w_) + 1, none⟩))] ?_
        obtain ⟨hc, h⟩ := h
        refine Zo 28 21 19 (pblk w_) ((poff w_) + 1) 1 [.slice v19.ptr v19.len v19.cap] hc (fun w5 hw => ?_)
        replace h := h w5 hw
        clear hw
        refine Ze [(0, .pointer w_), (1, .int .u64 n_1)] ?_
        change WpE _ _ c20_21 _ _ _
        refine Zr r20_21 ?_
        refine Zf P3 [(0, .pointer w_), (1, .int .u64 (Int.fdiv n_1 (2 ^ 7)))] ?_
        have hb_ := again__h _ _ h
        exact ⟨_, hb_.2, [(0, Value.pointer w_), (1, Value.int .u64 (Int.fdiv n_1 (2 ^ 7)))], Sub.mk (by kernel_rfl), (Int.fdiv n_1 (2 ^ 7)), rfl, hb_.1, rfl⟩
      · replace h := h.2 hb
        refine wpE_exit (id := 0) (by kernel_rfl) ?_
        change WpE _ _ c20_23 _ _ _
        refine Zr r20_23 ?_
        refine Zn P2 2 [(1, [], .int .u64 n_1), (22, [], .pointer w_), (23, [], .pointer w_)] ?_
        obtain ⟨hp_8, h⟩ := h
        refine Zv (fun pp => [(1, [], .int .u64 n_1), (22, [], .pointer w_), (23, [], .pointer pp)]) hp_8 ?_
        refine Zn P1 3 [(1, [], .int .u64 n_1), (22, [], .pointer w_), (23, [], .pointer (some ⟨(pblk w_), (poff w_), none⟩)), (24, [], .pointer (some ⟨(pblk w_), (poff w_), none⟩))] ?_
        refine Zn P1 4 [(1, [], .int .u64 n_1), (22, [], .pointer w_), (25, [], .pointer (some ⟨(pblk w_), (poff w_) + 1, none⟩))] ?_
        obtain ⟨v26, hc, h⟩ := h
        refine Zl 28 25 (pblk w_) ((poff w_) + 1) 28 26 hc ?_
        refine Zn P2 7 [(22, [], .pointer w_), (26, [], .slice v26.ptr v26.len v26.cap), (28, [], .int .u8 (IntKind.u8.wrap n_1))] ?_
        refine Zw (some 29) (fun bb => .slice (some ⟨bb, 0, none⟩) 1 1) (Obj.cells ([.int .u8 (IntKind.u8.wrap n_1)]).toArray ty_uint8 (0, 0)) (fun b_1 w6 hb hw => ?_)
        replace h := h b_1 w6 hb hw
        clear hb hw
        refine Zn [] 8 [(22, [], .pointer w_), (26, [], .slice v26.ptr v26.len v26.cap), (29, [], .slice (some ⟨b_1, 0, none⟩) 1 1)] ?_
        obtain ⟨src, hs, h⟩ := h
        refine reg_append (t := 28) (tx := 28) (e := 5) (a := (Operand.tmp 26)) (xo := (Operand.tmp 29)) (s := v26) (x := (Slc.mk (some ⟨b_1, 0, none⟩) 1 1)) (sz := 1) (by_ := 1) (zs := [Value.int .u8 0]) (ty := 28) (dst := some 30)  src (by kernel_rfl) (by kernel_rfl) (by kernel_rfl) (by kernel_rfl) (by kernel_rfl) (by kernel_rfl) (by kernel_rfl) (by kernel_rfl) (by kernel_rfl) hs (AppendW.mono h (fun v30 w7 h => ?_))
        refine Zn [] 9 [(22, [], .pointer w_), (30, [], .slice v30.ptr v30.len v30.cap)] ?_
        obtain ⟨hp_9, h⟩ := h
        refine Zv (fun pp => [(22, [], .pointer pp), (30, [], .slice v30.ptr v30.len v30.cap)]) hp_9 ?_
        refine Zn P1 10 [(22, [], .pointer (some ⟨(pblk w_), (poff w_), none⟩)), (30, [], .slice v30.ptr v30.len v30.cap), (31, [], .pointer (some ⟨(pblk w_), (poff w_), none⟩))] ?_
        refine Zn P1 11 [(30, [], .slice v30.ptr v30.len v30.cap), (32, [], .pointer (some ⟨(pblk w_), (poff w_) + 1, none⟩))] ?_
        obtain ⟨hc, h⟩ := h
        refine Zo 28 32 30 (pblk w_) ((poff w_) + 1) 1 [.slice v30.ptr v30.len v30.cap] hc (fun w8 hw => ?_)
        replace h := h w8 hw
        clear hw
        refine Ze [] ?_
        repeat (first | refine seqQ_exit ?_ | refine loopQ_exit ?_ | refine cutQ_exit ?_ | refine blockQ_hit ?_ | refine blockQ_miss (by kernel_rfl) ?_)
        refine retQ_normal ?_
        repeat (first | refine seqQ_ret ?_ | refine blockQ_ret ?_ | refine loopQ_ret ?_ | refine cutQ_ret ?_)
        exact retT (rs := []) (vs := []) (by kernel_rfl) (trivial) (by kernel_rfl) ⟨rfl, h⟩
  · rintro e w' ⟨v, rfl, rfl, h⟩; exact ⟨rfl, h⟩

/-! ### (*towpath/codec.Writer).Text (function 21) -/
noncomputable def c21_0 := (Tryz.f21.body).getD Code.skip
noncomputable def c21_1 := Code.l c21_0
noncomputable def c21_2 := Code.l c21_1
noncomputable def r21_2 := Code.ops c21_2
noncomputable def c21_4 := Code.r c21_1
noncomputable def c21_5 := Code.l c21_4
noncomputable def c21_6 := Code.r c21_4
noncomputable def c21_7 := Code.r c21_0
noncomputable def c21_8 := Code.l c21_7
noncomputable def r21_8 := Code.ops c21_8
noncomputable def c21_10 := Code.r c21_7
noncomputable def r21_10 := Code.ops c21_10

theorem S_codec_Writer_Text {w_ : Option Addr} {s : ByteArray} {w : World} {R : World → Prop} (h : F_codec_Writer_Text w_ s R w) : C_codec_Writer_Text w_ s w R := by
  unfold F_codec_Writer_Text at h
  unfold C_codec_Writer_Text
  refine Calls.mono (calls_of_wpE (args := [Value.pointer w_, Value.string s]) (R := fun v w' => v = Value.tuple #[] ∧ R w') Tryz.func21 (c := c21_0) (by kernel_rfl) 20 (by kernel_rfl) (by kernel_rfl) [(0, Value.pointer w_), (1, Value.string s)] (by kernel_rfl) ?_) ?_
  · refine Zs c21_1 c21_7 ?_
    refine Zt r21_2 c21_4 ?_
    refine Zn P1 1 [(0, [], .pointer w_), (1, [], .string s), (4, [], .pointer w_)] ?_
    refine Zm 66 #[.pointer w_] (some 5) (Calls.mono h ?_)
    rintro _ w1 ⟨v5, rfl, h⟩
    refine ⟨_, rfl, ?_⟩
    refine Ze [(0, .pointer w_), (1, .string s), (5, .bool v5)] ?_
    change WpE _ _ c21_4 _ _ _
    refine Zc 5 v5 c21_5 c21_6 (fun hb => ?_) (fun hb => ?_)
    · replace h := h.1 hb
      refine wpE_ret (by kernel_rfl) ?_
      repeat (first | refine seqQ_ret ?_ | refine blockQ_ret ?_ | refine loopQ_ret ?_ | refine cutQ_ret ?_)
      exact retT (rs := []) (vs := []) (by kernel_rfl) (trivial) (by kernel_rfl) ⟨rfl, h⟩
    · replace h := h.2 hb
      refine wpE_skip (by kernel_rfl) ?_
      change WpE _ _ c21_7 _ _ _
      refine Zt r21_8 c21_10 ?_
      refine Zn P4 4 [(0, [], .pointer w_), (1, [], .string s), (6, [], .pointer w_), (9, [], .int .u64 (IntKind.u64.wrap ((s.size : Nat) : Int)))] ?_
      refine Zm 20 #[.pointer w_, .int .u64 (IntKind.u64.wrap ((s.size : Nat) : Int))] (some 10) (Calls.mono h ?_)
      rintro _ w2 ⟨rfl, h⟩
      refine ⟨_, rfl, ?_⟩
      refine Ze [(0, .pointer w_), (1, .string s)] ?_
      change WpE _ _ c21_10 _ _ _
      refine Zr r21_10 ?_
      refine Zn P2 2 [(1, [], .string s), (11, [], .pointer w_), (12, [], .pointer w_)] ?_
      obtain ⟨hp_0, h⟩ := h
      refine Zv (fun pp => [(1, [], .string s), (11, [], .pointer w_), (12, [], .pointer pp)]) hp_0 ?_
      refine Zn P1 3 [(1, [], .string s), (11, [], .pointer w_), (12, [], .pointer (some ⟨(pblk w_), (poff w_), none⟩)), (13, [], .pointer (some ⟨(pblk w_), (poff w_), none⟩))] ?_
      refine Zn P1 4 [(1, [], .string s), (11, [], .pointer w_), (14, [], .pointer (some ⟨(pblk w_), (poff w_) + 1, none⟩))] ?_
      obtain ⟨v15, hc, h⟩ := h
      refine Zl 28 14 (pblk w_) ((poff w_) + 1) 28 15 hc ?_
      refine Zn P1 6 [(11, [], .pointer w_), (15, [], .slice v15.ptr v15.len v15.cap), (16, [], .string s)] ?_
      refine reg_appendStr (t := 28) (tx := 9) (e := 5) (a := (Operand.tmp 15)) (xo := (Operand.tmp 16)) (s := v15) (str := s) (by_ := 1) (zs := [Value.int .u8 0]) (ty := 28) (dst := some 17)  (by kernel_rfl) (by kernel_rfl) (by kernel_rfl) (by kernel_rfl) (by kernel_rfl) (by kernel_rfl) (by kernel_rfl) (by kernel_rfl) (by kernel_rfl) (AppendW.mono h (fun v17 w3 h => ?_))
      refine Zn [] 7 [(11, [], .pointer w_), (17, [], .slice v17.ptr v17.len v17.cap)] ?_
      obtain ⟨hp_1, h⟩ := h
      refine Zv (fun pp => [(11, [], .pointer pp), (17, [], .slice v17.ptr v17.len v17.cap)]) hp_1 ?_
      refine Zn P1 8 [(11, [], .pointer (some ⟨(pblk w_), (poff w_), none⟩)), (17, [], .slice v17.ptr v17.len v17.cap), (18, [], .pointer (some ⟨(pblk w_), (poff w_), none⟩))] ?_
      refine Zn P1 9 [(17, [], .slice v17.ptr v17.len v17.cap), (19, [], .pointer (some ⟨(pblk w_), (poff w_) + 1, none⟩))] ?_
      obtain ⟨hc, h⟩ := h
      refine Zo 28 19 17 (pblk w_) ((poff w_) + 1) 1 [.slice v17.ptr v17.len v17.cap] hc (fun w4 hw => ?_)
      replace h := h w4 hw
      clear hw
      refine Ze [] ?_
      repeat (first | refine seqQ_exit ?_ | refine loopQ_exit ?_ | refine cutQ_exit ?_ | refine blockQ_hit ?_ | refine blockQ_miss (by kernel_rfl) ?_)
      refine retQ_normal ?_
      repeat (first | refine seqQ_ret ?_ | refine blockQ_ret ?_ | refine loopQ_ret ?_ | refine cutQ_ret ?_)
      exact retT (rs := []) (vs := []) (by kernel_rfl) (trivial) (by kernel_rfl) ⟨rfl, h⟩
  · rintro e w' ⟨v, rfl, rfl, h⟩; exact ⟨rfl, h⟩

/-! ### (*towpath/codec.Writer).Fixed (function 22) -/
noncomputable def c22_0 := (Tryz.f22.body).getD Code.skip
noncomputable def c22_3 := Code.r c22_0
noncomputable def c22_4 := Code.l c22_3
noncomputable def c22_5 := Code.l c22_4
noncomputable def c22_6 := Code.l c22_5
noncomputable def r22_6 := Code.ops c22_6
noncomputable def c22_8 := Code.r c22_5
noncomputable def c22_9 := Code.l c22_8
noncomputable def c22_12 := Code.r c22_9
noncomputable def c22_13 := Code.r c22_8
noncomputable def c22_16 := Code.r c22_13
noncomputable def c22_17 := Code.l c22_16
noncomputable def c22_20 := Code.r c22_17
noncomputable def c22_21 := Code.r c22_16
noncomputable def c22_22 := Code.l c22_21
noncomputable def r22_22 := Code.ops c22_22
noncomputable def c22_24 := Code.r c22_21
noncomputable def c22_25 := Code.l c22_24
noncomputable def c22_28 := Code.r c22_25
noncomputable def c22_29 := Code.r c22_24
noncomputable def c22_30 := Code.r c22_3
noncomputable def c22_31 := Code.l c22_30
noncomputable def c22_34 := Code.r c22_31
noncomputable def c22_35 := Code.l c22_34
noncomputable def c22_36 := Code.l c22_35
noncomputable def c22_39 := Code.r c22_36
noncomputable def c22_40 := Code.l c22_39
noncomputable def c22_41 := Code.l c22_40
noncomputable def c22_42 := Code.r c22_40
noncomputable def c22_43 := Code.r c22_39
noncomputable def c22_44 := Code.l c22_43
noncomputable def c22_45 := Code.l c22_44
noncomputable def c22_46 := Code.l c22_45
noncomputable def r22_46 := Code.ops c22_46
noncomputable def c22_48 := Code.r c22_45
noncomputable def r22_48 := Code.ops c22_48
noncomputable def c22_50 := Code.r c22_43
noncomputable def r22_50 := Code.ops c22_50
noncomputable def c22_52 := Code.r c22_30
noncomputable def c22_55 := Code.r c22_52

theorem S_codec_Writer_Fixed {w_ : Option Addr} {n_ : Int} {width : Int} {w : World} {R : Int → World → Prop} (h : F_codec_Writer_Fixed w_ n_ width R w) : C_codec_Writer_Fixed w_ n_ width w R := by
  unfold F_codec_Writer_Fixed at h
  unfold C_codec_Writer_Fixed
  refine Calls.mono (calls_of_wpE (args := [Value.pointer w_, Value.int .u64 n_, Value.int .i64 width]) (R := fun v w' => ∃ (r0 : Int), v = Value.int .i64 r0 ∧ R r0 w') Tryz.func22 (c := c22_0) (by kernel_rfl) 40 (by kernel_rfl) (by kernel_rfl) [(0, Value.pointer w_), (1, Value.int .u64 n_), (2, Value.int .i64 width)] (by kernel_rfl) ?_) ?_
  · refine Zp c22_3 P1 [(0, .pointer w_), (1, .int .u64 n_), (2, .int .i64 width)] ?_
    refine Zs c22_4 c22_30 ?_
    refine Zb 0 c22_5 ?_
    refine Zt r22_6 c22_8 ?_
    refine Zn P1 1 [(0, [], .pointer w_), (1, [], .int .u64 n_), (2, [], .int .i64 width), (8, [], .pointer w_)] ?_
    refine Zm 66 #[.pointer w_] (some 9) (Calls.mono h ?_)
    rintro _ w1 ⟨v9, rfl, h⟩
    refine ⟨_, rfl, ?_⟩
    refine Zf P1 [(0, .pointer w_), (1, .int .u64 n_), (2, .int .i64 width), (7, .bool v9)] ?_
    change WpE _ _ c22_8 _ _ _
    refine Zc 7 v9 c22_9 c22_13 (fun hb => ?_) (fun hb => ?_)
    · replace h := h.1 hb
      refine Zp c22_12 P1 [(6, .int .i64 2)] ?_
      refine wpE_ret (by kernel_rfl) ?_
      repeat (first | refine seqQ_ret ?_ | refine blockQ_ret ?_ | refine loopQ_ret ?_ | refine cutQ_ret ?_)
      exact retS (rs := [(ResultVar.tmp 6)]) (v := Value.int .i64 2) (by kernel_rfl) (⟨by kernel_rfl, trivial⟩) ⟨2, rfl, h⟩
    · replace h := h.2 hb
      refine Zp c22_16 [.plain, .plain, .plain, .plain, .plain, .pick, .plain] [(0, .pointer w_), (1, .int .u64 n_), (2, .int .i64 width), (10, .bool ((decide (width < 1)) || (decide (width > 8))))] ?_
      refine Zc 10 ((decide (width < 1)) || (decide (width > 8))) c22_17 c22_21 (fun hb => ?_) (fun hb => ?_)
      · replace h := h.1 hb
        refine Zp c22_20 P1 [(6, .int .i64 1)] ?_
        refine wpE_ret (by kernel_rfl) ?_
        repeat (first | refine seqQ_ret ?_ | refine blockQ_ret ?_ | refine loopQ_ret ?_ | refine cutQ_ret ?_)
        exact retS (rs := [(ResultVar.tmp 6)]) (v := Value.int .i64 1) (by kernel_rfl) (⟨by kernel_rfl, trivial⟩) ⟨1, rfl, h⟩
      · replace h := h.2 hb
        refine Zt r22_22 c22_24 ?_
        refine Zn P3 3 [(0, [], .pointer w_), (1, [], .int .u64 n_), (2, [], .int .i64 width), (18, [], .int .u64 n_), (20, [], .int .i64 (IntKind.i64.wrap (8 * width)))] ?_
        obtain ⟨h0, h⟩ := h
        refine reg_val (op := (Op.binOp BinOp.shr 60 (Operand.tmp 18) (Operand.tmp 20) 3)) (ty := 60) (dst := some 21) (Value.int .u64 (Int.fdiv n_ (2 ^ (min (IntKind.i64.wrap (8 * width)).toNat 64)))) (by kernel_rfl) (fun ww => run_shr (k' := .i64) (by kernel_rfl) (by kernel_rfl) (by kernel_rfl) h0 ww) ?_
        refine Zf P2 [(0, .pointer w_), (1, .int .u64 n_), (2, .int .i64 width), (17, .bool ((Int.fdiv n_ (2 ^ (min (IntKind.i64.wrap (8 * width)).toNat 64))) != 0))] ?_
        change WpE _ _ c22_24 _ _ _
        refine Zc 17 ((Int.fdiv n_ (2 ^ (min (IntKind.i64.wrap (8 * width)).toNat 64))) != 0) c22_25 c22_29 (fun hb => ?_) (fun hb => ?_)
        · replace h := h.1 hb
          refine Zp c22_28 P1 [(6, .int .i64 3)] ?_
          refine wpE_ret (by kernel_rfl) ?_
          repeat (first | refine seqQ_ret ?_ | refine blockQ_ret ?_ | refine loopQ_ret ?_ | refine cutQ_ret ?_)
          exact retS (rs := [(ResultVar.tmp 6)]) (v := Value.int .i64 3) (by kernel_rfl) (⟨by kernel_rfl, trivial⟩) ⟨3, rfl, h⟩
        · replace h := h.2 hb
          refine wpE_skip (by kernel_rfl) ?_
          change WpE _ _ c22_30 _ _ _
          refine Zs c22_31 c22_52 ?_
          refine Zp c22_34 P2 [(0, .pointer w_), (1, .int .u64 n_), (23, .int .i64 width), (24, .int .i64 0)] ?_
          refine Zb 1 c22_35 ?_
          obtain ⟨I, μ, h0, hr⟩ := h
          refine wpE_loop (x := c22_36) (by kernel_rfl) (fun m l w => ∃ (n_1 : Int) (t24 : Int), l = [(0, Value.pointer w_), (1, Value.int .u64 n_1), (23, Value.int .i64 width), (24, Value.int .i64 t24)] ∧ I n_1 t24 w ∧ μ n_1 t24 w = m) (l' := [(0, Value.pointer w_), (1, Value.int .u64 n_), (23, Value.int .i64 width), (24, Value.int .i64 0)]) (Sub.mk (by kernel_rfl)) ⟨n_, 0, rfl, h0, rfl⟩ ?_
          rintro _ _ w2 ⟨n_1, t24, rfl, hI, rfl⟩
          obtain ⟨again_, again__h, h⟩ : ∃ again_ : Int → Int → World → Prop, (∀ n_1' t24' w', again_ n_1' t24' w' → I n_1' t24' w' ∧ μ n_1' t24' w' < μ n_1 t24 w2) ∧ F_codec_Writer_Fixed_L0 w_ width R again_ n_1 t24 w2 := ⟨_, fun _ _ _ h => h, hr n_1 t24 w2 hI⟩
          clear h0 hI
          unfold F_codec_Writer_Fixed_L0 at h
          refine Zp c22_39 P1 [(0, .pointer w_), (1, .int .u64 n_1), (23, .int .i64 width), (24, .int .i64 t24), (25, .bool (decide (t24 < width)))] ?_
          refine Zs c22_40 c22_43 ?_
          refine Zc 25 (decide (t24 < width)) c22_41 c22_42 (fun hb => ?_) (fun hb => ?_)
          · replace h := h.1 hb
            refine wpE_skip (by kernel_rfl) ?_
            change WpE _ _ c22_43 _ _ _
            refine Zs c22_44 c22_50 ?_
            refine Zb 2 c22_45 ?_
            refine Zt r22_46 c22_48 ?_
            refine Zn P2 2 [(0, [], .pointer w_), (1, [], .int .u64 n_1), (23, [], .int .i64 width), (24, [], .int .i64 t24), (26, [], .pointer w_), (27, [], .pointer w_)] ?_
            obtain ⟨hp_14, h⟩ := h
            refine Zv (fun pp => [(0, [], .pointer w_), (1, [], .int .u64 n_1), (23, [], .int .i64 width), (24, [], .int .i64 t24), (26, [], .pointer w_), (27, [], .pointer pp)]) hp_14 ?_
            refine Zn P1 3 [(0, [], .pointer w_), (1, [], .int .u64 n_1), (23, [], .int .i64 width), (24, [], .int .i64 t24), (26, [], .pointer w_), (27, [], .pointer (some ⟨(pblk w_), (poff w_), none⟩)), (28, [], .pointer (some ⟨(pblk w_), (poff w_), none⟩))] ?_
            refine Zn P1 4 [(0, [], .pointer w_), (1, [], .int .u64 n_1), (23, [], .int .i64 width), (24, [], .int .i64 t24), (26, [], .pointer w_), (29, [], .pointer (some ⟨(pblk w_), (poff w_) + 1, none⟩))] ?_
            obtain ⟨v30, hc, h⟩ := h
            refine Zl 28 29 (pblk w_) ((poff w_) + 1) 28 30 hc ?_
            refine Zn P2 7 [(0, [], .pointer w_), (1, [], .int .u64 n_1), (23, [], .int .i64 width), (24, [], .int .i64 t24), (26, [], .pointer w_), (30, [], .slice v30.ptr v30.len v30.cap), (32, [], .int .u8 (IntKind.u8.wrap n_1))] ?_
            refine Zw (some 33) (fun bb => .slice (some ⟨bb, 0, none⟩) 1 1) (Obj.cells ([.int .u8 (IntKind.u8.wrap n_1)]).toArray ty_uint8 (0, 0)) (fun b_ w3 hb hw => ?_)
            replace h := h b_ w3 hb hw
            clear hb hw
            refine Zn [] 8 [(0, [], .pointer w_), (1, [], .int .u64 n_1), (23, [], .int .i64 width), (24, [], .int .i64 t24), (26, [], .pointer w_), (30, [], .slice v30.ptr v30.len v30.cap), (33, [], .slice (some ⟨b_, 0, none⟩) 1 1)] ?_
            obtain ⟨src, hs, h⟩ := h
            refine reg_append (t := 28) (tx := 28) (e := 5) (a := (Operand.tmp 30)) (xo := (Operand.tmp 33)) (s := v30) (x := (Slc.mk (some ⟨b_, 0, none⟩) 1 1)) (sz := 1) (by_ := 1) (zs := [Value.int .u8 0]) (ty := 28) (dst := some 34)  src (by kernel_rfl) (by kernel_rfl) (by kernel_rfl) (by kernel_rfl) (by kernel_rfl) (by kernel_rfl) (by kernel_rfl) (by kernel_rfl) (by kernel_rfl) hs (AppendW.mono h (fun v34 w4 h => ?_))
            refine Zn [] 9 [(0, [], .pointer w_), (1, [], .int .u64 n_1), (23, [], .int .i64 width), (24, [], .int .i64 t24), (26, [], .pointer w_), (34, [], .slice v34.ptr v34.len v34.cap)] ?_
            obtain ⟨hp_15, h⟩ := h
            refine Zv (fun pp => [(0, [], .pointer w_), (1, [], .int .u64 n_1), (23, [], .int .i64 width), (24, [], .int .i64 t24), (26, [], .pointer pp), (34, [], .slice v34.ptr v34.len v34.cap)]) hp_15 ?_
            refine Zn P1 10 [(0, [], .pointer w_), (1, [], .int .u64 n_1), (23, [], .int .i64 width), (24, [], .int .i64 t24), (26, [], .pointer (some ⟨(pblk w_), (poff w_), none⟩)), (34, [], .slice v34.ptr v34.len v34.cap), (35, [], .pointer (some ⟨(pblk w_), (poff w_), none⟩))] ?_
            refine Zn P1 11 [(0, [], .pointer w_), (1, [], .int .u64 n_1), (23, [], .int .i64 width), (24, [], .int .i64 t24), (34, [], .slice v34.ptr v34.len v34.cap), (36, [], .pointer (some ⟨(pblk w_), (poff w_) + 1, none⟩))] ?_
            obtain ⟨hc, h⟩ := h
            refine Zo 28 36 34 (pblk w_) ((poff w_) + 1) 1 [.slice v34.ptr v34.len v34.cap] hc (fun w5 hw => ?_)
            replace h := h w5 hw
            clear hw
            refine Ze [(0, .pointer w_), (1, .int .u64 n_1), (23, .int .i64 width), (24, .int .i64 t24)] ?_
            change WpE _ _ c22_48 _ _ _
            refine Zr r22_48 ?_
            refine Zf P3 [(0, .pointer w_), (1, .int .u64 (Int.fdiv n_1 (2 ^ 8))), (23, .int .i64 width), (24, .int .i64 t24)] ?_
            change WpE _ _ c22_50 _ _ _
            refine Zr r22_50 ?_
            refine Zf P2 [(0, .pointer w_), (1, .int .u64 (Int.fdiv n_1 (2 ^ 8))), (23, .int .i64 width), (24, .int .i64 (IntKind.i64.wrap (t24 + 1)))] ?_
            have hb_ := again__h _ _ _ h
            exact ⟨_, hb_.2, [(0, Value.pointer w_), (1, Value.int .u64 (Int.fdiv n_1 (2 ^ 8))), (23, Value.int .i64 width), (24, Value.int .i64 (IntKind.i64.wrap (t24 + 1)))], Sub.mk (by kernel_rfl), (Int.fdiv n_1 (2 ^ 8)), (IntKind.i64.wrap (t24 + 1)), rfl, hb_.1, rfl⟩
          · replace h := h.2 hb
            refine wpE_exit (id := 1) (by kernel_rfl) ?_
            change WpE _ _ c22_52 _ _ _
            refine Zp c22_55 P1 [(6, .int .i64 0)] ?_
            refine wpE_ret (by kernel_rfl) ?_
            repeat (first | refine seqQ_ret ?_ | refine blockQ_ret ?_ | refine loopQ_ret ?_ | refine cutQ_ret ?_)
            exact retS (rs := [(ResultVar.tmp 6)]) (v := Value.int .i64 0) (by kernel_rfl) (⟨by kernel_rfl, trivial⟩) ⟨0, rfl, h⟩
  · rintro e w' ⟨v, rfl, r0, rfl, h⟩; exact ⟨r0, rfl, h⟩

/-! ### (*towpath/codec.Writer).Done (function 23) -/
noncomputable def c23_0 := (Tryz.f23.body).getD Code.skip
noncomputable def c23_3 := Code.r c23_0
noncomputable def c23_4 := Code.l c23_3
noncomputable def c23_5 := Code.l c23_4
noncomputable def r23_5 := Code.ops c23_5
noncomputable def c23_7 := Code.r c23_4
noncomputable def c23_8 := Code.l c23_7
noncomputable def c23_11 := Code.r c23_8
noncomputable def c23_12 := Code.r c23_7
noncomputable def c23_13 := Code.r c23_3
noncomputable def c23_14 := Code.l c23_13
noncomputable def r23_14 := Code.ops c23_14
noncomputable def c23_16 := Code.r c23_13

theorem S_codec_Writer_Done {w_ : Option Addr} {w : World} {R : Slc → World → Prop} (h : F_codec_Writer_Done w_ R w) : C_codec_Writer_Done w_ w R := by
  unfold F_codec_Writer_Done at h
  unfold C_codec_Writer_Done
  refine Calls.mono (calls_of_wpE (args := [Value.pointer w_]) (R := fun v w' => ∃ (r0 : Slc), v = Value.slice r0.ptr r0.len r0.cap ∧ R r0 w') Tryz.func23 (c := c23_0) (by kernel_rfl) 10 (by kernel_rfl) (by kernel_rfl) [(0, Value.pointer w_)] (by kernel_rfl) ?_) ?_
  · refine Zp c23_3 P1 [(0, .pointer w_)] ?_
    refine Zs c23_4 c23_13 ?_
    refine Zt r23_5 c23_7 ?_
    refine Zn P1 1 [(0, [], .pointer w_), (3, [], .pointer w_)] ?_
    refine Zm 66 #[.pointer w_] (some 4) (Calls.mono h ?_)
    rintro _ w1 ⟨v4, rfl, h⟩
    refine ⟨_, rfl, ?_⟩
    refine Ze [(0, .pointer w_), (4, .bool v4)] ?_
    change WpE _ _ c23_7 _ _ _
    refine Zc 4 v4 c23_8 c23_12 (fun hb => ?_) (fun hb => ?_)
    · replace h := h.1 hb
      refine Zp c23_11 P1 [(2, .slice none 0 0)] ?_
      refine wpE_ret (by kernel_rfl) ?_
      repeat (first | refine seqQ_ret ?_ | refine blockQ_ret ?_ | refine loopQ_ret ?_ | refine cutQ_ret ?_)
      exact retS (rs := [(ResultVar.tmp 2)]) (v := Value.slice none 0 0) (by kernel_rfl) (⟨by kernel_rfl, trivial⟩) ⟨(Slc.mk none 0 0), rfl, h⟩
    · replace h := h.2 hb
      refine wpE_skip (by kernel_rfl) ?_
      change WpE _ _ c23_13 _ _ _
      refine Zt r23_14 c23_16 ?_
      refine Zn P1 1 [(5, [], .pointer w_)] ?_
      obtain ⟨hp_0, h⟩ := h
      refine Zv (fun pp => [(5, [], .pointer pp)]) hp_0 ?_
      refine Zn P1 2 [(5, [], .pointer (some ⟨(pblk w_), (poff w_), none⟩)), (6, [], .pointer (some ⟨(pblk w_), (poff w_), none⟩))] ?_
      refine Zn P1 3 [(7, [], .pointer (some ⟨(pblk w_), (poff w_) + 1, none⟩))] ?_
      obtain ⟨v8, hc, h⟩ := h
      refine Zl 28 7 (pblk w_) ((poff w_) + 1) 28 8 hc ?_
      refine Zn [] 4 [(8, [], .slice v8.ptr v8.len v8.cap)] ?_
      refine Zm 67 #[.slice v8.ptr v8.len v8.cap] (some 9) (Calls.mono h ?_)
      rintro _ w2 ⟨v9, rfl, h⟩
      refine ⟨_, rfl, ?_⟩
      refine Zf P1 [(2, .slice v9.ptr v9.len v9.cap)] ?_
      change WpE _ _ c23_16 _ _ _
      refine wpE_ret (by kernel_rfl) ?_
      repeat (first | refine seqQ_ret ?_ | refine blockQ_ret ?_ | refine loopQ_ret ?_ | refine cutQ_ret ?_)
      exact retS (rs := [(ResultVar.tmp 2)]) (v := Value.slice v9.ptr v9.len v9.cap) (by kernel_rfl) (⟨by kernel_rfl, trivial⟩) ⟨v9, rfl, h⟩
  · rintro e w' ⟨v, rfl, r0, rfl, h⟩; exact ⟨r0, rfl, h⟩

/-! ### (*towpath/codec.Writer).gone (function 66) -/
noncomputable def c66_0 := (Tryz.f66.body).getD Code.skip
noncomputable def c66_3 := Code.r c66_0
noncomputable def c66_4 := Code.l c66_3
noncomputable def r66_4 := Code.ops c66_4
noncomputable def c66_6 := Code.r c66_3

theorem S_codec_Writer_gone {w_ : Option Addr} {w : World} {R : Bool → World → Prop} (h : F_codec_Writer_gone w_ R w) : C_codec_Writer_gone w_ w R := by
  unfold F_codec_Writer_gone at h
  unfold C_codec_Writer_gone
  refine Calls.mono (calls_of_wpE (args := [Value.pointer w_]) (R := fun v w' => ∃ (r0 : Bool), v = Value.bool r0 ∧ R r0 w') Tryz.func66 (c := c66_0) (by kernel_rfl) 12 (by kernel_rfl) (by kernel_rfl) [(0, Value.pointer w_)] (by kernel_rfl) ?_) ?_
  · refine Zp c66_3 P1 [(0, .pointer w_)] ?_
    refine Zt r66_4 c66_6 ?_
    refine Zn P1 1 [(0, [], .pointer w_), (3, [], .pointer w_)] ?_
    refine reg_val (op := (Op.binOp BinOp.eql 57 (Operand.tmp 3) (Operand.const (Value.pointer none)) 57)) (ty := 4) (dst := some 4) (Value.bool w_.isNone) (by kernel_rfl) (fun ww => run_ptr_eql_R (p := w_) (by kernel_rfl) (by kernel_rfl) (by kernel_rfl) ww) ?_
    refine Zn P2 4 [(5, [], .bool w_.isNone), (6, [(5, false)], .pointer w_)] ?_
    refine reg_split 5 w_.isNone (by kernel_rfl) (fun hb => ?_) (fun hb => ?_)
    · replace h := h.1 hb
      refine Zn [] 4 [(5, [], .bool true), (6, [], undef)] ?_
      refine Zf [.skip, .skip, .skip, .skip, .plain, .plain] [(2, .bool true)] ?_
      change WpE _ _ c66_6 _ _ _
      refine wpE_ret (by kernel_rfl) ?_
      repeat (first | refine seqQ_ret ?_ | refine blockQ_ret ?_ | refine loopQ_ret ?_ | refine cutQ_ret ?_)
      exact retS (rs := [(ResultVar.tmp 2)]) (v := Value.bool true) (by kernel_rfl) (⟨by kernel_rfl, trivial⟩) ⟨true, rfl, h⟩
    · replace h := h.2 hb
      refine Zn [] 4 [(5, [], .bool false), (6, [], .pointer w_)] ?_
      refine Zn [] 4 [(5, [], .bool false), (6, [], .pointer w_)] ?_
      obtain ⟨hp_0, h⟩ := h
      refine Zv (fun pp => [(5, [], .bool false), (6, [], .pointer pp)]) hp_0 ?_
      refine Zn [.sure] 5 [(5, [], .bool false), (6, [], .pointer (some ⟨(pblk w_), (poff w_), none⟩)), (7, [], .pointer (some ⟨(pblk w_), (poff w_), none⟩))] ?_
      refine Zn [.sure] 6 [(5, [], .bool false), (8, [], .pointer (some ⟨(pblk w_), (poff w_), none⟩))] ?_
      obtain ⟨v9, hc, h⟩ := h
      refine Zl 4 8 (pblk w_) (poff w_) 4 9 hc ?_
      refine Zf [.sure, .plain, .plain] [(2, .bool (!v9))] ?_
      change WpE _ _ c66_6 _ _ _
      refine wpE_ret (by kernel_rfl) ?_
      repeat (first | refine seqQ_ret ?_ | refine blockQ_ret ?_ | refine loopQ_ret ?_ | refine cutQ_ret ?_)
      exact retS (rs := [(ResultVar.tmp 2)]) (v := Value.bool (!v9)) (by kernel_rfl) (⟨by kernel_rfl, trivial⟩) ⟨(!v9), rfl, h⟩
  · rintro e w' ⟨v, rfl, r0, rfl, h⟩; exact ⟨r0, rfl, h⟩
end Go.Proofs.YtfmkemmgakdddaaGreatDoor
