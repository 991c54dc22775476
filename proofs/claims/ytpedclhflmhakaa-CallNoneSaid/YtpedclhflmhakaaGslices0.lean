/- WRITTEN BY PROGRAM (dec.py): for each Go function the clean formula F, the call's contract C, and the proof S that F gives C. -/
import Derived.Test.YtpedclhflmhakaaRows
import Derived.Test.YtpedclhflmhakaaGF
namespace Go.Proofs.Ytpedclhflmhakaa
open Go
set_option linter.unusedVariables false
set_option maxRecDepth 100000
set_option maxHeartbeats 4000000
noncomputable section

/-! ### slices.Clone[[]int,int] (function 49) -/
def c49_0 := cb_ Try.f49
def c49_3 := cr_ c49_0
def c49_4 := cl_ c49_3
def c49_5 := cl_ c49_4
def r49_5 := co_ c49_5
def c49_7 := cr_ c49_4
def c49_8 := cl_ c49_7
def c49_11 := cr_ c49_8
def c49_12 := cr_ c49_7
def c49_13 := cr_ c49_3
def c49_14 := cl_ c49_13
def r49_14 := co_ c49_14
def c49_16 := cr_ c49_13

theorem S_slices_Clone_int_int {s : Slc} {w : World} {R : Slc → World → Prop} (h : F_slices_Clone_int_int s R w) : C_slices_Clone_int_int s w R := by
 unfold F_slices_Clone_int_int at h
 unfold C_slices_Clone_int_int
 refine Calls.mono (calls_of_wpE (args := [sv_ s]) (R := fun v w' => ∃ (r0 : Slc), v = sv_ r0 ∧ R r0 w') Try.func49 (c := c49_0) (by kernel_rfl) 8 (by kernel_rfl) (by kernel_rfl) [(0, sv_ s)] (by kernel_rfl) ?_) ?_
 · refine Zp c49_3 P1 [(0, sv_ s)] ?_
   refine Zs c49_4 c49_13 ?_
   refine Zt r49_5 c49_7 ?_
   refine Zn P1 1 [(0, [], sv_ s), (3, [], sv_ s)] ?_
   refine reg_val (op := (Op.binOp BinOp.eql 23 (Operand.tmp 3) (Operand.const (Value.slice none 0 0)) 23)) (ty := 4) (dst := some 4) (Value.bool s.ptr.isNone) (by kernel_rfl) (fun ww => run_slice_eql_R (p := s.ptr) (l := s.len) (c := s.cap) (by kernel_rfl) (by kernel_rfl) (by kernel_rfl) ww) ?_
   refine Ze [(0, sv_ s), (4, .bool s.ptr.isNone)] ?_
   change WpE _ _ c49_7 _ _ _
   refine Zc 4 s.ptr.isNone c49_8 c49_12 (fun hb => ?_) (fun hb => ?_)
   · replace h := h.1 hb
     refine Zp c49_11 P1 [(2, .slice none 0 0)] ?_
     refine wpE_ret (by kernel_rfl) ?_
     repeat (first | refine seqQ_ret ?_ | refine blockQ_ret ?_ | refine loopQ_ret ?_ | refine cutQ_ret ?_)
     exact retS (rs := [(ResultVar.tmp 2)]) (v := Value.slice none 0 0) (by kernel_rfl) (⟨by kernel_rfl, trivial⟩) ⟨(Slc.mk none 0 0), rfl, h⟩
   · replace h := h.2 hb
     refine wpE_skip (by kernel_rfl) ?_
     change WpE _ _ c49_13 _ _ _
     refine Zt r49_14 c49_16 ?_
     refine Zn [] 0 [(0, [], sv_ s)] ?_
     refine Zw (some 5) (fun bb => .slice (some ⟨bb, 0, none⟩) 0 0) (Obj.cells ([]).toArray ty_int (0, 0)) (fun b_ w1 hb hw => ?_)
     replace h := h b_ w1 hb hw
     clear hb hw
     refine Zn P1 2 [(5, [], .slice (some ⟨b_, 0, none⟩) 0 0), (6, [], sv_ s)] ?_
     obtain ⟨src, hs, h⟩ := h
     refine reg_append (t := 23) (tx := 23) (e := 3) (a := (Operand.tmp 5)) (xo := (Operand.tmp 6)) (s := (Slc.mk (some ⟨b_, 0, none⟩) 0 0)) (x := s) (sz := 1) (by_ := 8) (zs := [Value.int .i64 0]) (ty := 23) (dst := some 7)  src (by kernel_rfl) (by kernel_rfl) (by kernel_rfl) (by kernel_rfl) (by kernel_rfl) (by kernel_rfl) (by kernel_rfl) (by kernel_rfl) (by kernel_rfl) hs (AppendW.mono h (fun v7 w2 h => ?_))
     refine Zf P1 [(2, sv_ v7)] ?_
     change WpE _ _ c49_16 _ _ _
     refine wpE_ret (by kernel_rfl) ?_
     repeat (first | refine seqQ_ret ?_ | refine blockQ_ret ?_ | refine loopQ_ret ?_ | refine cutQ_ret ?_)
     exact retS (rs := [(ResultVar.tmp 2)]) (v := sv_ v7) (by kernel_rfl) (⟨by kernel_rfl, trivial⟩) ⟨v7, rfl, h⟩
 · rintro e w' ⟨v, rfl, r0, rfl, h⟩; exact ⟨r0, rfl, h⟩

/-! ### slices.Clone[[]towpath/api.Entry,towpath/api.Entry] (function 89) -/
def c89_0 := cb_ Try.f89
def c89_3 := cr_ c89_0
def c89_4 := cl_ c89_3
def c89_5 := cl_ c89_4
def r89_5 := co_ c89_5
def c89_7 := cr_ c89_4
def c89_8 := cl_ c89_7
def c89_11 := cr_ c89_8
def c89_12 := cr_ c89_7
def c89_13 := cr_ c89_3
def c89_14 := cl_ c89_13
def r89_14 := co_ c89_14
def c89_16 := cr_ c89_13

theorem S_slices_Clone_api_Entry_api_Entry {s : Slc} {w : World} {R : Slc → World → Prop} (h : F_slices_Clone_api_Entry_api_Entry s R w) : C_slices_Clone_api_Entry_api_Entry s w R := by
 unfold F_slices_Clone_api_Entry_api_Entry at h
 unfold C_slices_Clone_api_Entry_api_Entry
 refine Calls.mono (calls_of_wpE (args := [sv_ s]) (R := fun v w' => ∃ (r0 : Slc), v = sv_ r0 ∧ R r0 w') Try.func89 (c := c89_0) (by kernel_rfl) 8 (by kernel_rfl) (by kernel_rfl) [(0, sv_ s)] (by kernel_rfl) ?_) ?_
 · refine Zp c89_3 P1 [(0, sv_ s)] ?_
   refine Zs c89_4 c89_13 ?_
   refine Zt r89_5 c89_7 ?_
   refine Zn P1 1 [(0, [], sv_ s), (3, [], sv_ s)] ?_
   refine reg_val (op := (Op.binOp BinOp.eql 92 (Operand.tmp 3) (Operand.const (Value.slice none 0 0)) 92)) (ty := 4) (dst := some 4) (Value.bool s.ptr.isNone) (by kernel_rfl) (fun ww => run_slice_eql_R (p := s.ptr) (l := s.len) (c := s.cap) (by kernel_rfl) (by kernel_rfl) (by kernel_rfl) ww) ?_
   refine Ze [(0, sv_ s), (4, .bool s.ptr.isNone)] ?_
   change WpE _ _ c89_7 _ _ _
   refine Zc 4 s.ptr.isNone c89_8 c89_12 (fun hb => ?_) (fun hb => ?_)
   · replace h := h.1 hb
     refine Zp c89_11 P1 [(2, .slice none 0 0)] ?_
     refine wpE_ret (by kernel_rfl) ?_
     repeat (first | refine seqQ_ret ?_ | refine blockQ_ret ?_ | refine loopQ_ret ?_ | refine cutQ_ret ?_)
     exact retS (rs := [(ResultVar.tmp 2)]) (v := Value.slice none 0 0) (by kernel_rfl) (⟨by kernel_rfl, trivial⟩) ⟨(Slc.mk none 0 0), rfl, h⟩
   · replace h := h.2 hb
     refine wpE_skip (by kernel_rfl) ?_
     change WpE _ _ c89_13 _ _ _
     refine Zt r89_14 c89_16 ?_
     refine Zn [] 0 [(0, [], sv_ s)] ?_
     refine Zw (some 5) (fun bb => .slice (some ⟨bb, 0, none⟩) 0 0) (Obj.cells ([]).toArray ty_api_Entry (0, 0)) (fun b_ w1 hb hw => ?_)
     replace h := h b_ w1 hb hw
     clear hb hw
     refine Zn P1 2 [(5, [], .slice (some ⟨b_, 0, none⟩) 0 0), (6, [], sv_ s)] ?_
     obtain ⟨src, hs, h⟩ := h
     refine reg_append (t := 92) (tx := 92) (e := 140) (a := (Operand.tmp 5)) (xo := (Operand.tmp 6)) (s := (Slc.mk (some ⟨b_, 0, none⟩) 0 0)) (x := s) (sz := 2) (by_ := 32) (zs := [Value.string ByteArray.empty, Value.string ByteArray.empty]) (ty := 92) (dst := some 7)  src (by kernel_rfl) (by kernel_rfl) (by kernel_rfl) (by kernel_rfl) (by kernel_rfl) (by kernel_rfl) (by kernel_rfl) (by kernel_rfl) (by kernel_rfl) hs (AppendW.mono h (fun v7 w2 h => ?_))
     refine Zf P1 [(2, sv_ v7)] ?_
     change WpE _ _ c89_16 _ _ _
     refine wpE_ret (by kernel_rfl) ?_
     repeat (first | refine seqQ_ret ?_ | refine blockQ_ret ?_ | refine loopQ_ret ?_ | refine cutQ_ret ?_)
     exact retS (rs := [(ResultVar.tmp 2)]) (v := sv_ v7) (by kernel_rfl) (⟨by kernel_rfl, trivial⟩) ⟨v7, rfl, h⟩
 · rintro e w' ⟨v, rfl, r0, rfl, h⟩; exact ⟨r0, rfl, h⟩

/-! ### slices.SortStableFunc[[]towpath/api.Held,towpath/api.Held] (function 91) -/
def c91_0 := cb_ Try.f91
def r91_0 := co_ c91_0

theorem S_slices_SortStableFunc_api_Held_api_Held {x : Slc} {cmp : Value} {w : World} {R : World → Prop} (h : F_slices_SortStableFunc_api_Held_api_Held x cmp R w) : C_slices_SortStableFunc_api_Held_api_Held x cmp w R := by
 unfold F_slices_SortStableFunc_api_Held_api_Held at h
 unfold C_slices_SortStableFunc_api_Held_api_Held
 refine Calls.mono (calls_of_wpE (args := [sv_ x, cmp]) (R := fun v w' => v = Value.tuple #[] ∧ R w') Try.func91 (c := c91_0) (by kernel_rfl) 9 (by kernel_rfl) (by kernel_rfl) [(0, sv_ x), (1, cmp)] (by kernel_rfl) ?_) ?_
 · refine Zr r91_0 ?_
   refine Zn P4 4 [(4, [], sv_ x), (6, [], .int .i64 ((x.len : Nat) : Int)), (7, [], cmp)] ?_
   refine Zm 114 #[sv_ x, .int .i64 ((x.len : Nat) : Int), cmp] (some 8) (Calls.mono h ?_)
   rintro _ w1 ⟨rfl, h⟩
   refine ⟨_, rfl, ?_⟩
   refine Ze [] ?_
   repeat (first | refine seqQ_exit ?_ | refine loopQ_exit ?_ | refine cutQ_exit ?_ | refine blockQ_hit ?_ | refine blockQ_miss (by kernel_rfl) ?_)
   refine retQ_normal ?_
   repeat (first | refine seqQ_ret ?_ | refine blockQ_ret ?_ | refine loopQ_ret ?_ | refine cutQ_ret ?_)
   exact retT (rs := []) (vs := []) (by kernel_rfl) (trivial) (by kernel_rfl) ⟨rfl, h⟩
 · rintro e w' ⟨v, rfl, rfl, h⟩; exact ⟨rfl, h⟩

/-! ### slices.stableCmpFunc[towpath/api.Held] (function 114) -/
def c114_0 := cb_ Try.f114
def c114_3 := cr_ c114_0
def c114_6 := cr_ c114_3
def c114_7 := cl_ c114_6
def c114_8 := cl_ c114_7
def c114_9 := cl_ c114_8
def c114_10 := cl_ c114_9
def c114_13 := cr_ c114_10
def c114_14 := cl_ c114_13
def c114_15 := cr_ c114_13
def c114_16 := cr_ c114_9
def c114_17 := cl_ c114_16
def c114_18 := cl_ c114_17
def r114_18 := co_ c114_18
def c114_20 := cr_ c114_17
def c114_23 := cr_ c114_20
def r114_23 := co_ c114_23
def c114_25 := cr_ c114_6
def c114_26 := cl_ c114_25
def r114_26 := co_ c114_26
def c114_28 := cr_ c114_25
def c114_29 := cl_ c114_28
def c114_30 := cl_ c114_29
def c114_31 := cl_ c114_30
def c114_34 := cr_ c114_31
def c114_35 := cl_ c114_34
def c114_36 := cr_ c114_34
def c114_37 := cr_ c114_30
def c114_38 := cl_ c114_37
def c114_41 := cr_ c114_38
def c114_42 := cl_ c114_41
def c114_43 := cl_ c114_42
def c114_44 := cl_ c114_43
def c114_45 := cl_ c114_44
def c114_48 := cr_ c114_45
def c114_49 := cl_ c114_48
def c114_50 := cr_ c114_48
def c114_51 := cr_ c114_44
def c114_52 := cl_ c114_51
def c114_53 := cl_ c114_52
def r114_53 := co_ c114_53
def c114_55 := cr_ c114_52
def c114_58 := cr_ c114_55
def r114_58 := co_ c114_58
def c114_60 := cr_ c114_41
def c114_61 := cl_ c114_60
def c114_64 := cr_ c114_61
def c114_67 := cr_ c114_64
def c114_68 := cl_ c114_67
def r114_68 := co_ c114_68
def c114_70 := cr_ c114_67
def c114_71 := cr_ c114_60
def r114_71 := co_ c114_71

theorem S_slices_stableCmpFunc_api_Held {data : Slc} {n_ : Int} {cmp : Value} {w : World} {R : World → Prop} (h : F_slices_stableCmpFunc_api_Held data n_ cmp R w) : C_slices_stableCmpFunc_api_Held data n_ cmp w R := by
 unfold F_slices_stableCmpFunc_api_Held at h
 unfold C_slices_stableCmpFunc_api_Held
 refine Calls.mono (calls_of_wpE (args := [sv_ data, Value.int .i64 n_, cmp]) (R := fun v w' => v = Value.tuple #[] ∧ R w') Try.func114 (c := c114_0) (by kernel_rfl) 63 (by kernel_rfl) (by kernel_rfl) [(0, sv_ data), (1, Value.int .i64 n_), (2, cmp)] (by kernel_rfl) ?_) ?_
 · refine Zp c114_3 P1 [(0, sv_ data), (1, .int .i64 n_), (2, cmp), (6, .int .i64 20)] ?_
   refine Zp c114_6 P3 [(0, sv_ data), (1, .int .i64 n_), (2, cmp), (6, .int .i64 20), (7, .int .i64 0), (8, .int .i64 20)] ?_
   refine Zs c114_7 c114_25 ?_
   refine Zb 0 c114_8 ?_
   obtain ⟨I, μ, h0, hr⟩ := h
   refine wpE_loop (x := c114_9) (by kernel_rfl) (fun m l w => ∃ (a_ : Int) (b_ : Int), l = [(0, sv_ data), (1, Value.int .i64 n_), (2, cmp), (6, Value.int .i64 20), (7, Value.int .i64 a_), (8, Value.int .i64 b_)] ∧ I a_ b_ w ∧ μ a_ b_ w = m) (l' := [(0, sv_ data), (1, Value.int .i64 n_), (2, cmp), (6, Value.int .i64 20), (7, Value.int .i64 0), (8, Value.int .i64 20)]) (Sub.mk (by kernel_rfl)) ⟨0, 20, rfl, h0, rfl⟩ ?_
   rintro _ _ w1 ⟨a_, b_, rfl, hI, rfl⟩
   obtain ⟨again_, again__h, h⟩ : ∃ again_ : Int → Int → World → Prop, (∀ a_' b_' w', again_ a_' b_' w' → I a_' b_' w' ∧ μ a_' b_' w' < μ a_ b_ w1) ∧ F_slices_stableCmpFunc_api_Held_L0 data n_ cmp R again_ a_ b_ w1 := ⟨_, fun _ _ _ h => h, hr a_ b_ w1 hI⟩
   clear h0 hI
   unfold F_slices_stableCmpFunc_api_Held_L0 at h
   refine Zs c114_10 c114_16 ?_
   refine Zp c114_13 P3 [(0, sv_ data), (1, .int .i64 n_), (2, cmp), (6, .int .i64 20), (7, .int .i64 a_), (8, .int .i64 b_), (13, .bool (decide (b_ ≤ n_)))] ?_
   refine Zc 13 (decide (b_ ≤ n_)) c114_14 c114_15 (fun hb => ?_) (fun hb => ?_)
   · replace h := h.1 hb
     refine wpE_skip (by kernel_rfl) ?_
     change WpE _ _ c114_16 _ _ _
     refine Zb 1 c114_17 ?_
     refine Zt r114_18 c114_20 ?_
     refine Zn P4 4 [(0, [], sv_ data), (1, [], .int .i64 n_), (2, [], cmp), (6, [], .int .i64 20), (8, [], .int .i64 b_), (14, [], sv_ data), (15, [], .int .i64 a_), (16, [], .int .i64 b_), (17, [], cmp)] ?_
     refine Zm 128 #[sv_ data, .int .i64 a_, .int .i64 b_, cmp] (some 18) (Calls.mono h ?_)
     rintro _ w2 ⟨rfl, h⟩
     refine ⟨_, rfl, ?_⟩
     refine Ze [(0, sv_ data), (1, .int .i64 n_), (2, cmp), (6, .int .i64 20), (8, .int .i64 b_)] ?_
     change WpE _ _ c114_20 _ _ _
     refine Zp c114_23 P2 [(0, sv_ data), (1, .int .i64 n_), (2, cmp), (6, .int .i64 20), (7, .int .i64 b_), (8, .int .i64 b_)] ?_
     refine Zr r114_23 ?_
     refine Zf P4 [(0, sv_ data), (1, .int .i64 n_), (2, cmp), (6, .int .i64 20), (7, .int .i64 b_), (8, .int .i64 (IntKind.i64.wrap (b_ + 20)))] ?_
     have hb_ := again__h _ _ _ h
     exact ⟨_, hb_.2, [(0, sv_ data), (1, Value.int .i64 n_), (2, cmp), (6, Value.int .i64 20), (7, Value.int .i64 b_), (8, Value.int .i64 (IntKind.i64.wrap (b_ + 20)))], Sub.mk (by kernel_rfl), b_, (IntKind.i64.wrap (b_ + 20)), rfl, hb_.1, rfl⟩
   · replace h := h.2 hb
     refine wpE_exit (id := 0) (by kernel_rfl) ?_
     change WpE _ _ c114_25 _ _ _
     refine Zt r114_26 c114_28 ?_
     refine Zn P4 4 [(0, [], sv_ data), (1, [], .int .i64 n_), (2, [], cmp), (6, [], .int .i64 20), (23, [], sv_ data), (24, [], .int .i64 a_), (25, [], .int .i64 n_), (26, [], cmp)] ?_
     refine Zm 128 #[sv_ data, .int .i64 a_, .int .i64 n_, cmp] (some 27) (Calls.mono h ?_)
     rintro _ w3 ⟨rfl, h⟩
     refine ⟨_, rfl, ?_⟩
     refine Ze [(0, sv_ data), (1, .int .i64 n_), (2, cmp), (6, .int .i64 20)] ?_
     change WpE _ _ c114_28 _ _ _
     refine Zb 2 c114_29 ?_
     obtain ⟨I, μ, h0, hr⟩ := h
     refine wpE_loop (x := c114_30) (by kernel_rfl) (fun m l w => ∃ (blockSize : Int), l = [(0, sv_ data), (1, Value.int .i64 n_), (2, cmp), (6, Value.int .i64 blockSize)] ∧ I blockSize w ∧ μ blockSize w = m) (l' := [(0, sv_ data), (1, Value.int .i64 n_), (2, cmp), (6, Value.int .i64 20)]) (Sub.mk (by kernel_rfl)) ⟨20, rfl, h0, rfl⟩ ?_
     rintro _ _ w4 ⟨blockSize, rfl, hI, rfl⟩
     obtain ⟨again_1, again_1_h, h⟩ : ∃ again_1 : Int → World → Prop, (∀ blockSize' w', again_1 blockSize' w' → I blockSize' w' ∧ μ blockSize' w' < μ blockSize w4) ∧ F_slices_stableCmpFunc_api_Held_L1 data n_ cmp R again_1 blockSize w4 := ⟨_, fun _ _ h => h, hr blockSize w4 hI⟩
     clear h0 hI
     unfold F_slices_stableCmpFunc_api_Held_L1 at h
     refine Zs c114_31 c114_37 ?_
     refine Zp c114_34 P3 [(0, sv_ data), (1, .int .i64 n_), (2, cmp), (6, .int .i64 blockSize), (30, .bool (decide (blockSize < n_)))] ?_
     refine Zc 30 (decide (blockSize < n_)) c114_35 c114_36 (fun hb => ?_) (fun hb => ?_)
     · replace h := h.1 hb
       refine wpE_skip (by kernel_rfl) ?_
       change WpE _ _ c114_37 _ _ _
       refine Zb 3 c114_38 ?_
       refine Zp c114_41 P4 [(0, sv_ data), (1, .int .i64 n_), (2, cmp), (6, .int .i64 blockSize), (7, .int .i64 0), (8, .int .i64 (IntKind.i64.wrap (2 * blockSize)))] ?_
       refine Zs c114_42 c114_60 ?_
       refine Zb 4 c114_43 ?_
       obtain ⟨I, μ, h0, hr⟩ := h
       refine wpE_loop (x := c114_44) (by kernel_rfl) (fun m l w => ∃ (a_1 : Int) (b_1 : Int), l = [(0, sv_ data), (1, Value.int .i64 n_), (2, cmp), (6, Value.int .i64 blockSize), (7, Value.int .i64 a_1), (8, Value.int .i64 b_1)] ∧ I a_1 b_1 w ∧ μ a_1 b_1 w = m) (l' := [(0, sv_ data), (1, Value.int .i64 n_), (2, cmp), (6, Value.int .i64 blockSize), (7, Value.int .i64 0), (8, Value.int .i64 (IntKind.i64.wrap (2 * blockSize)))]) (Sub.mk (by kernel_rfl)) ⟨0, (IntKind.i64.wrap (2 * blockSize)), rfl, h0, rfl⟩ ?_
       rintro _ _ w5 ⟨a_1, b_1, rfl, hI, rfl⟩
       obtain ⟨again_2, again_2_h, h⟩ : ∃ again_2 : Int → Int → World → Prop, (∀ a_1' b_1' w', again_2 a_1' b_1' w' → I a_1' b_1' w' ∧ μ a_1' b_1' w' < μ a_1 b_1 w5) ∧ F_slices_stableCmpFunc_api_Held_L2 data n_ cmp blockSize again_1 again_2 a_1 b_1 w5 := ⟨_, fun _ _ _ h => h, hr a_1 b_1 w5 hI⟩
       clear h0 hI
       unfold F_slices_stableCmpFunc_api_Held_L2 at h
       refine Zs c114_45 c114_51 ?_
       refine Zp c114_48 P3 [(0, sv_ data), (1, .int .i64 n_), (2, cmp), (6, .int .i64 blockSize), (7, .int .i64 a_1), (8, .int .i64 b_1), (35, .bool (decide (b_1 ≤ n_)))] ?_
       refine Zc 35 (decide (b_1 ≤ n_)) c114_49 c114_50 (fun hb => ?_) (fun hb => ?_)
       · replace h := h.1 hb
         refine wpE_skip (by kernel_rfl) ?_
         change WpE _ _ c114_51 _ _ _
         refine Zb 5 c114_52 ?_
         refine Zt r114_53 c114_55 ?_
         refine Zn (Pl 7) 7 [(0, [], sv_ data), (1, [], .int .i64 n_), (2, [], cmp), (6, [], .int .i64 blockSize), (8, [], .int .i64 b_1), (36, [], sv_ data), (37, [], .int .i64 a_1), (40, [], .int .i64 (IntKind.i64.wrap (a_1 + blockSize))), (41, [], .int .i64 b_1), (42, [], cmp)] ?_
         refine Zm 129 #[sv_ data, .int .i64 a_1, .int .i64 (IntKind.i64.wrap (a_1 + blockSize)), .int .i64 b_1, cmp] (some 43) (Calls.mono h ?_)
         rintro _ w6 ⟨rfl, h⟩
         refine ⟨_, rfl, ?_⟩
         refine Ze [(0, sv_ data), (1, .int .i64 n_), (2, cmp), (6, .int .i64 blockSize), (8, .int .i64 b_1)] ?_
         change WpE _ _ c114_55 _ _ _
         refine Zp c114_58 P2 [(0, sv_ data), (1, .int .i64 n_), (2, cmp), (6, .int .i64 blockSize), (7, .int .i64 b_1), (8, .int .i64 b_1)] ?_
         refine Zr r114_58 ?_
         refine Zf (Pl 5) [(0, sv_ data), (1, .int .i64 n_), (2, cmp), (6, .int .i64 blockSize), (7, .int .i64 b_1), (8, .int .i64 (IntKind.i64.wrap (b_1 + (IntKind.i64.wrap (2 * blockSize)))))] ?_
         have hb_ := again_2_h _ _ _ h
         exact ⟨_, hb_.2, [(0, sv_ data), (1, Value.int .i64 n_), (2, cmp), (6, Value.int .i64 blockSize), (7, Value.int .i64 b_1), (8, Value.int .i64 (IntKind.i64.wrap (b_1 + (IntKind.i64.wrap (2 * blockSize)))))], Sub.mk (by kernel_rfl), b_1, (IntKind.i64.wrap (b_1 + (IntKind.i64.wrap (2 * blockSize)))), rfl, hb_.1, rfl⟩
       · replace h := h.2 hb
         refine wpE_exit (id := 4) (by kernel_rfl) ?_
         change WpE _ _ c114_60 _ _ _
         refine wpE_seq_cut (x := c114_61) (y := c114_71) (by kernel_rfl) (fun l w => l = [(0, sv_ data), (1, Value.int .i64 n_), (2, cmp), (6, Value.int .i64 blockSize)] ∧ F_slices_stableCmpFunc_api_Held_k3 blockSize again_1 w) ?_ ?_
         · refine Zp c114_64 P4 [(0, sv_ data), (1, .int .i64 n_), (2, cmp), (6, .int .i64 blockSize), (7, .int .i64 a_1), (9, .int .i64 (IntKind.i64.wrap (a_1 + blockSize)))] ?_
           refine Zp c114_67 P3 [(0, sv_ data), (1, .int .i64 n_), (2, cmp), (6, .int .i64 blockSize), (7, .int .i64 a_1), (9, .int .i64 (IntKind.i64.wrap (a_1 + blockSize))), (54, .bool (decide ((IntKind.i64.wrap (a_1 + blockSize)) < n_)))] ?_
           refine Zc 54 (decide ((IntKind.i64.wrap (a_1 + blockSize)) < n_)) c114_68 c114_70 (fun hb => ?_) (fun hb => ?_)
           · replace h := h.1 hb
             refine Zr r114_68 ?_
             refine Zn (Pl 5) 5 [(0, [], sv_ data), (1, [], .int .i64 n_), (2, [], cmp), (6, [], .int .i64 blockSize), (55, [], sv_ data), (56, [], .int .i64 a_1), (57, [], .int .i64 (IntKind.i64.wrap (a_1 + blockSize))), (58, [], .int .i64 n_), (59, [], cmp)] ?_
             refine Zm 129 #[sv_ data, .int .i64 a_1, .int .i64 (IntKind.i64.wrap (a_1 + blockSize)), .int .i64 n_, cmp] (some 60) (Calls.mono h ?_)
             rintro _ w8 ⟨rfl, h⟩
             refine ⟨_, rfl, ?_⟩
             refine Ze [(0, sv_ data), (1, .int .i64 n_), (2, cmp), (6, .int .i64 blockSize)] ?_
             exact ⟨[(0, sv_ data), (1, Value.int .i64 n_), (2, cmp), (6, Value.int .i64 blockSize)], Sub.mk (by kernel_rfl), rfl, h⟩
           · replace h := h.2 hb
             refine wpE_skip (by kernel_rfl) ?_
             exact ⟨[(0, sv_ data), (1, Value.int .i64 n_), (2, cmp), (6, Value.int .i64 blockSize)], Sub.mk (by kernel_rfl), rfl, h⟩
         · rintro _ w7 ⟨rfl, h⟩
           unfold F_slices_stableCmpFunc_api_Held_k3 at h
           refine Zr r114_71 ?_
           refine Zf P3 [(0, sv_ data), (1, .int .i64 n_), (2, cmp), (6, .int .i64 (IntKind.i64.wrap (blockSize * 2)))] ?_
           have hb_ := again_1_h _ _ h
           exact ⟨_, hb_.2, [(0, sv_ data), (1, Value.int .i64 n_), (2, cmp), (6, Value.int .i64 (IntKind.i64.wrap (blockSize * 2)))], Sub.mk (by kernel_rfl), (IntKind.i64.wrap (blockSize * 2)), rfl, hb_.1, rfl⟩
     · replace h := h.2 hb
       refine wpE_exit (id := 2) (by kernel_rfl) ?_
       repeat (first | refine seqQ_exit ?_ | refine loopQ_exit ?_ | refine cutQ_exit ?_ | refine blockQ_hit ?_ | refine blockQ_miss (by kernel_rfl) ?_)
       refine retQ_normal ?_
       repeat (first | refine seqQ_ret ?_ | refine blockQ_ret ?_ | refine loopQ_ret ?_ | refine cutQ_ret ?_)
       exact retT (rs := []) (vs := []) (by kernel_rfl) (trivial) (by kernel_rfl) ⟨rfl, h⟩
 · rintro e w' ⟨v, rfl, rfl, h⟩; exact ⟨rfl, h⟩

end
end Go.Proofs.Ytpedclhflmhakaa
