/- WRITTEN BY PROGRAM (dec.py): for each Go function the clean formula F, the call's contract C, and the proof S that F gives C. -/
import Derived.Test.YtpdegdnigcnjiaaGreatDoorRows
import Derived.Test.YtpdegdnigcnjiaaGreatDoorGF
namespace Go.Proofs.YtpdegdnigcnjiaaGreatDoor
open Go
set_option linter.unusedVariables false
set_option maxRecDepth 100000
set_option maxHeartbeats 4000000

/-! ### towpath/towpathlaw06.LogfileEncodes (function 5) -/
noncomputable def c5_0 := (Tryz.f5.body).getD Code.skip
noncomputable def c5_3 := Code.r c5_0
noncomputable def c5_4 := Code.l c5_3
noncomputable def c5_5 := Code.l c5_4
noncomputable def r5_5 := Code.ops c5_5
noncomputable def c5_7 := Code.r c5_4
noncomputable def c5_8 := Code.l c5_7
noncomputable def c5_11 := Code.r c5_8
noncomputable def c5_12 := Code.r c5_7
noncomputable def c5_13 := Code.r c5_3
noncomputable def c5_14 := Code.l c5_13
noncomputable def r5_14 := Code.ops c5_14
noncomputable def c5_16 := Code.r c5_13
noncomputable def c5_17 := Code.l c5_16
noncomputable def r5_17 := Code.ops c5_17
noncomputable def c5_19 := Code.r c5_16
noncomputable def c5_20 := Code.l c5_19
noncomputable def r5_20 := Code.ops c5_20
noncomputable def c5_22 := Code.r c5_19
noncomputable def c5_23 := Code.l c5_22
noncomputable def r5_23 := Code.ops c5_23
noncomputable def c5_25 := Code.r c5_22
noncomputable def c5_26 := Code.l c5_25
noncomputable def c5_27 := Code.l c5_26
noncomputable def r5_27 := Code.ops c5_27
noncomputable def c5_29 := Code.r c5_26
noncomputable def c5_30 := Code.l c5_29
noncomputable def c5_33 := Code.r c5_30
noncomputable def c5_34 := Code.r c5_29
noncomputable def c5_35 := Code.r c5_25
noncomputable def c5_36 := Code.l c5_35
noncomputable def r5_36 := Code.ops c5_36
noncomputable def c5_38 := Code.r c5_35
noncomputable def c5_39 := Code.l c5_38
noncomputable def r5_39 := Code.ops c5_39
noncomputable def c5_41 := Code.r c5_38
noncomputable def c5_42 := Code.l c5_41
noncomputable def r5_42 := Code.ops c5_42
noncomputable def c5_44 := Code.r c5_41
noncomputable def c5_45 := Code.l c5_44
noncomputable def r5_45 := Code.ops c5_45
noncomputable def c5_47 := Code.r c5_44
noncomputable def c5_48 := Code.l c5_47
noncomputable def r5_48 := Code.ops c5_48
noncomputable def c5_50 := Code.r c5_47

theorem S_towpathlaw06_LogfileEncodes {l_ : Slc} {w : World} {R : Bool → World → Prop} (h : F_towpathlaw06_LogfileEncodes l_ R w) : C_towpathlaw06_LogfileEncodes l_ w R := by
  unfold F_towpathlaw06_LogfileEncodes at h
  unfold C_towpathlaw06_LogfileEncodes
  refine Calls.mono (calls_of_wpE (args := [Value.slice l_.ptr l_.len l_.cap]) (R := fun v w' => ∃ (r0 : Bool), v = Value.bool r0 ∧ R r0 w') Tryz.func5 (c := c5_0) (by kernel_rfl) 72 (by kernel_rfl) (by kernel_rfl) [(0, Value.slice l_.ptr l_.len l_.cap)] (by kernel_rfl) ?_) ?_
  · refine Zp c5_3 P1 [(0, .slice l_.ptr l_.len l_.cap)] ?_
    refine Zs c5_4 c5_13 ?_
    refine Zt r5_5 c5_7 ?_
    refine Zn P1 1 [(0, [], .slice l_.ptr l_.len l_.cap), (11, [], .slice l_.ptr l_.len l_.cap)] ?_
    refine Zm 8 #[.slice l_.ptr l_.len l_.cap] (some 12) (Calls.mono h ?_)
    rintro _ w1 ⟨v12, rfl, h⟩
    refine ⟨_, rfl, ?_⟩
    refine Zn [] 2 [(0, [], .slice l_.ptr l_.len l_.cap), (12, [], .int .i64 v12)] ?_
    refine Zw (some 13) (fun bb => .slice (some ⟨bb, 0, none⟩) 1 1) (Obj.cells ([.int .i64 v12]).toArray ty_int (0, 0)) (fun b_ w2 hb hw => ?_)
    replace h := h b_ w2 hb hw
    clear hb hw
    refine Zn [] 3 [(0, [], .slice l_.ptr l_.len l_.cap), (13, [], .slice (some ⟨b_, 0, none⟩) 1 1)] ?_
    refine Zm 7 #[.slice (some ⟨b_, 0, none⟩) 1 1] (some 14) (Calls.mono h ?_)
    rintro _ w3 ⟨v14, rfl, h⟩
    refine ⟨_, rfl, ?_⟩
    refine Ze [(0, .slice l_.ptr l_.len l_.cap), (14, .bool v14)] ?_
    change WpE _ _ c5_7 _ _ _
    refine Zc 14 v14 c5_8 c5_12 (fun hb => ?_) (fun hb => ?_)
    · replace h := h.1 hb
      refine Zp c5_11 P1 [(2, .bool true)] ?_
      refine wpE_ret (by kernel_rfl) ?_
      repeat (first | refine seqQ_ret ?_ | refine blockQ_ret ?_ | refine loopQ_ret ?_ | refine cutQ_ret ?_)
      exact retS (rs := [(ResultVar.tmp 2)]) (v := Value.bool true) (by kernel_rfl) (⟨by kernel_rfl, trivial⟩) ⟨true, rfl, h⟩
    · replace h := h.2 hb
      refine wpE_skip (by kernel_rfl) ?_
      change WpE _ _ c5_13 _ _ _
      refine Zt r5_14 c5_16 ?_
      refine Zn P1 1 [(0, [], .slice l_.ptr l_.len l_.cap), (15, [], .slice l_.ptr l_.len l_.cap)] ?_
      refine Zm 9 #[.slice l_.ptr l_.len l_.cap] (some 16) (Calls.mono h ?_)
      rintro _ w4 ⟨v16, rfl, h⟩
      refine ⟨_, rfl, ?_⟩
      refine Zf P1 [(0, .slice l_.ptr l_.len l_.cap), (3, .slice v16.ptr v16.len v16.cap)] ?_
      change WpE _ _ c5_16 _ _ _
      refine Zt r5_17 c5_19 ?_
      refine Zn P1 1 [(0, [], .slice l_.ptr l_.len l_.cap), (3, [], .slice v16.ptr v16.len v16.cap), (18, [], .slice v16.ptr v16.len v16.cap)] ?_
      refine Zm 33 #[.slice v16.ptr v16.len v16.cap] (some 19) (Calls.mono h ?_)
      rintro _ w5 ⟨b_1, e, rfl, h⟩
      refine ⟨_, rfl, ?_⟩
      refine Zf (Pl 5) [(0, .slice l_.ptr l_.len l_.cap), (3, .slice v16.ptr v16.len v16.cap), (4, .slice b_1.ptr b_1.len b_1.cap), (5, .int .i64 e)] ?_
      change WpE _ _ c5_19 _ _ _
      refine Zt r5_20 c5_22 ?_
      refine Zn P1 1 [(0, [], .slice l_.ptr l_.len l_.cap), (3, [], .slice v16.ptr v16.len v16.cap), (4, [], .slice b_1.ptr b_1.len b_1.cap), (5, [], .int .i64 e), (23, [], .slice v16.ptr v16.len v16.cap)] ?_
      refine Zm 33 #[.slice v16.ptr v16.len v16.cap] (some 24) (Calls.mono h ?_)
      rintro _ w6 ⟨c, g, rfl, h⟩
      refine ⟨_, rfl, ?_⟩
      refine Zf (Pl 5) [(0, .slice l_.ptr l_.len l_.cap), (3, .slice v16.ptr v16.len v16.cap), (4, .slice b_1.ptr b_1.len b_1.cap), (5, .int .i64 e), (6, .slice c.ptr c.len c.cap), (7, .int .i64 g)] ?_
      change WpE _ _ c5_22 _ _ _
      refine Zt r5_23 c5_25 ?_
      refine Zn P1 1 [(0, [], .slice l_.ptr l_.len l_.cap), (3, [], .slice v16.ptr v16.len v16.cap), (4, [], .slice b_1.ptr b_1.len b_1.cap), (5, [], .int .i64 e), (6, [], .slice c.ptr c.len c.cap), (7, [], .int .i64 g), (28, [], .slice l_.ptr l_.len l_.cap)] ?_
      refine Zm 34 #[.slice l_.ptr l_.len l_.cap] (some 29) (Calls.mono h ?_)
      rintro _ w7 ⟨want, f, rfl, h⟩
      refine ⟨_, rfl, ?_⟩
      refine Zf (Pl 5) [(0, .slice l_.ptr l_.len l_.cap), (3, .slice v16.ptr v16.len v16.cap), (4, .slice b_1.ptr b_1.len b_1.cap), (5, .int .i64 e), (6, .slice c.ptr c.len c.cap), (7, .int .i64 g), (8, .slice want.ptr want.len want.cap), (9, .int .i64 f)] ?_
      change WpE _ _ c5_25 _ _ _
      refine Zs c5_26 c5_35 ?_
      refine wpE_seq_cut (x := c5_27) (y := c5_29) (by kernel_rfl) (fun l w => ∃ (t63 : Bool), l = [(3, Value.slice v16.ptr v16.len v16.cap), (4, Value.slice b_1.ptr b_1.len b_1.cap), (6, Value.slice c.ptr c.len c.cap), (63, Value.bool t63)] ∧ F_towpathlaw06_LogfileEncodes_k0 R v16 b_1 c t63 w) ?_ ?_
      · refine Zr r5_27 ?_
        refine Zn [.plain, .plain, .plain, .plain, .plain, .plain, .plain, .pick, .plain, .plain] 10 [(0, [], .slice l_.ptr l_.len l_.cap), (3, [], .slice v16.ptr v16.len v16.cap), (4, [], .slice b_1.ptr b_1.len b_1.cap), (6, [], .slice c.ptr c.len c.cap), (8, [], .slice want.ptr want.len want.cap), (9, [], .int .i64 f), (40, [], .bool ((e != f) || (g != f))), (41, [(40, false)], .slice v16.ptr v16.len v16.cap)] ?_
        refine reg_split 40 ((e != f) || (g != f)) (by kernel_rfl) (fun hb => ?_) (fun hb => ?_)
        · replace h := h.1 hb
          refine Zn [] 10 [(0, [], .slice l_.ptr l_.len l_.cap), (3, [], .slice v16.ptr v16.len v16.cap), (4, [], .slice b_1.ptr b_1.len b_1.cap), (6, [], .slice c.ptr c.len c.cap), (8, [], .slice want.ptr want.len want.cap), (9, [], .int .i64 f), (40, [], .bool true), (41, [], undef)] ?_
          refine Zf [.skip, .skip, .skip, .plain, .plain, .skip, .skip, .skip, .skip, .plain, .plain, .skip, .skip, .skip, .skip, .plain, .plain, .skip, .skip, .skip, .skip, .plain] [(3, .slice v16.ptr v16.len v16.cap), (4, .slice b_1.ptr b_1.len b_1.cap), (6, .slice c.ptr c.len c.cap), (63, .bool true)] ?_
          exact ⟨[(3, Value.slice v16.ptr v16.len v16.cap), (4, Value.slice b_1.ptr b_1.len b_1.cap), (6, Value.slice c.ptr c.len c.cap), (63, Value.bool true)], Sub.mk (by kernel_rfl), true, rfl, h⟩
        · replace h := h.2 hb
          refine Zn [] 10 [(0, [], .slice l_.ptr l_.len l_.cap), (3, [], .slice v16.ptr v16.len v16.cap), (4, [], .slice b_1.ptr b_1.len b_1.cap), (6, [], .slice c.ptr c.len c.cap), (8, [], .slice want.ptr want.len want.cap), (9, [], .int .i64 f), (40, [], .bool false), (41, [], .slice v16.ptr v16.len v16.cap)] ?_
          refine Zn [] 10 [(0, [], .slice l_.ptr l_.len l_.cap), (3, [], .slice v16.ptr v16.len v16.cap), (4, [], .slice b_1.ptr b_1.len b_1.cap), (6, [], .slice c.ptr c.len c.cap), (8, [], .slice want.ptr want.len want.cap), (9, [], .int .i64 f), (40, [], .bool false), (41, [], .slice v16.ptr v16.len v16.cap)] ?_
          refine Zm 35 #[.slice v16.ptr v16.len v16.cap] (some 42) (Calls.mono h ?_)
          rintro _ w15 ⟨v42, rfl, h⟩
          refine ⟨_, rfl, ?_⟩
          refine Zn [.sure, .sure, .plain, .plain, .plain, .plain] 17 [(0, [], .slice l_.ptr l_.len l_.cap), (3, [], .slice v16.ptr v16.len v16.cap), (4, [], .slice b_1.ptr b_1.len b_1.cap), (6, [], .slice c.ptr c.len c.cap), (8, [], .slice want.ptr want.len want.cap), (46, [], .bool (v42 != f)), (47, [(46, false)], .slice b_1.ptr b_1.len b_1.cap), (48, [(46, false)], .slice want.ptr want.len want.cap)] ?_
          refine reg_split 46 (v42 != f) (by kernel_rfl) (fun hb => ?_) (fun hb => ?_)
          · replace h := h.1 hb
            refine Zn [] 17 [(0, [], .slice l_.ptr l_.len l_.cap), (3, [], .slice v16.ptr v16.len v16.cap), (4, [], .slice b_1.ptr b_1.len b_1.cap), (6, [], .slice c.ptr c.len c.cap), (8, [], .slice want.ptr want.len want.cap), (46, [], .bool true), (47, [], undef), (48, [], undef)] ?_
            refine Zf [.skip, .skip, .plain, .plain, .skip, .skip, .skip, .skip, .plain, .plain, .skip, .skip, .skip, .skip, .plain] [(3, .slice v16.ptr v16.len v16.cap), (4, .slice b_1.ptr b_1.len b_1.cap), (6, .slice c.ptr c.len c.cap), (63, .bool true)] ?_
            exact ⟨[(3, Value.slice v16.ptr v16.len v16.cap), (4, Value.slice b_1.ptr b_1.len b_1.cap), (6, Value.slice c.ptr c.len c.cap), (63, Value.bool true)], Sub.mk (by kernel_rfl), true, rfl, h⟩
          · replace h := h.2 hb
            refine Zn [] 17 [(0, [], .slice l_.ptr l_.len l_.cap), (3, [], .slice v16.ptr v16.len v16.cap), (4, [], .slice b_1.ptr b_1.len b_1.cap), (6, [], .slice c.ptr c.len c.cap), (8, [], .slice want.ptr want.len want.cap), (46, [], .bool false), (47, [], .slice b_1.ptr b_1.len b_1.cap), (48, [], .slice want.ptr want.len want.cap)] ?_
            refine Zn [] 17 [(0, [], .slice l_.ptr l_.len l_.cap), (3, [], .slice v16.ptr v16.len v16.cap), (4, [], .slice b_1.ptr b_1.len b_1.cap), (6, [], .slice c.ptr c.len c.cap), (8, [], .slice want.ptr want.len want.cap), (46, [], .bool false), (47, [], .slice b_1.ptr b_1.len b_1.cap), (48, [], .slice want.ptr want.len want.cap)] ?_
            refine Zm 36 #[.slice b_1.ptr b_1.len b_1.cap, .slice want.ptr want.len want.cap] (some 49) (Calls.mono h ?_)
            rintro _ w16 ⟨v49, rfl, h⟩
            refine ⟨_, rfl, ?_⟩
            refine Zn [.sure, .plain, .plain, .plain, .plain] 23 [(0, [], .slice l_.ptr l_.len l_.cap), (3, [], .slice v16.ptr v16.len v16.cap), (4, [], .slice b_1.ptr b_1.len b_1.cap), (6, [], .slice c.ptr c.len c.cap), (52, [], .bool (!v49)), (53, [(52, false)], .slice c.ptr c.len c.cap), (54, [(52, false)], .slice want.ptr want.len want.cap)] ?_
            refine reg_split 52 (!v49) (by kernel_rfl) (fun hb => ?_) (fun hb => ?_)
            · replace h := h.1 hb
              refine Zn [] 23 [(0, [], .slice l_.ptr l_.len l_.cap), (3, [], .slice v16.ptr v16.len v16.cap), (4, [], .slice b_1.ptr b_1.len b_1.cap), (6, [], .slice c.ptr c.len c.cap), (52, [], .bool true), (53, [], undef), (54, [], undef)] ?_
              refine Zf [.skip, .skip, .plain, .plain, .skip, .skip, .skip, .skip, .plain] [(3, .slice v16.ptr v16.len v16.cap), (4, .slice b_1.ptr b_1.len b_1.cap), (6, .slice c.ptr c.len c.cap), (63, .bool true)] ?_
              exact ⟨[(3, Value.slice v16.ptr v16.len v16.cap), (4, Value.slice b_1.ptr b_1.len b_1.cap), (6, Value.slice c.ptr c.len c.cap), (63, Value.bool true)], Sub.mk (by kernel_rfl), true, rfl, h⟩
            · replace h := h.2 hb
              refine Zn [] 23 [(0, [], .slice l_.ptr l_.len l_.cap), (3, [], .slice v16.ptr v16.len v16.cap), (4, [], .slice b_1.ptr b_1.len b_1.cap), (6, [], .slice c.ptr c.len c.cap), (52, [], .bool false), (53, [], .slice c.ptr c.len c.cap), (54, [], .slice want.ptr want.len want.cap)] ?_
              refine Zn [] 23 [(0, [], .slice l_.ptr l_.len l_.cap), (3, [], .slice v16.ptr v16.len v16.cap), (4, [], .slice b_1.ptr b_1.len b_1.cap), (6, [], .slice c.ptr c.len c.cap), (52, [], .bool false), (53, [], .slice c.ptr c.len c.cap), (54, [], .slice want.ptr want.len want.cap)] ?_
              refine Zm 36 #[.slice c.ptr c.len c.cap, .slice want.ptr want.len want.cap] (some 55) (Calls.mono h ?_)
              rintro _ w17 ⟨v55, rfl, h⟩
              refine ⟨_, rfl, ?_⟩
              refine Zn [.sure, .plain, .plain, .plain, .plain] 29 [(3, [], .slice v16.ptr v16.len v16.cap), (4, [], .slice b_1.ptr b_1.len b_1.cap), (6, [], .slice c.ptr c.len c.cap), (58, [], .bool (!v55)), (59, [(58, false)], .slice v16.ptr v16.len v16.cap), (60, [(58, false)], .slice l_.ptr l_.len l_.cap)] ?_
              refine reg_split 58 (!v55) (by kernel_rfl) (fun hb => ?_) (fun hb => ?_)
              · replace h := h.1 hb
                refine Zn [] 29 [(3, [], .slice v16.ptr v16.len v16.cap), (4, [], .slice b_1.ptr b_1.len b_1.cap), (6, [], .slice c.ptr c.len c.cap), (58, [], .bool true), (59, [], undef), (60, [], undef)] ?_
                refine Zf [.skip, .skip, .plain] [(3, .slice v16.ptr v16.len v16.cap), (4, .slice b_1.ptr b_1.len b_1.cap), (6, .slice c.ptr c.len c.cap), (63, .bool true)] ?_
                exact ⟨[(3, Value.slice v16.ptr v16.len v16.cap), (4, Value.slice b_1.ptr b_1.len b_1.cap), (6, Value.slice c.ptr c.len c.cap), (63, Value.bool true)], Sub.mk (by kernel_rfl), true, rfl, h⟩
              · replace h := h.2 hb
                refine Zn [] 29 [(3, [], .slice v16.ptr v16.len v16.cap), (4, [], .slice b_1.ptr b_1.len b_1.cap), (6, [], .slice c.ptr c.len c.cap), (58, [], .bool false), (59, [], .slice v16.ptr v16.len v16.cap), (60, [], .slice l_.ptr l_.len l_.cap)] ?_
                refine Zn [] 29 [(3, [], .slice v16.ptr v16.len v16.cap), (4, [], .slice b_1.ptr b_1.len b_1.cap), (6, [], .slice c.ptr c.len c.cap), (58, [], .bool false), (59, [], .slice v16.ptr v16.len v16.cap), (60, [], .slice l_.ptr l_.len l_.cap)] ?_
                refine Zm 12 #[.slice v16.ptr v16.len v16.cap, .slice l_.ptr l_.len l_.cap] (some 61) (Calls.mono h ?_)
                rintro _ w18 ⟨v61, rfl, h⟩
                refine ⟨_, rfl, ?_⟩
                refine Zf [.sure, .plain] [(3, .slice v16.ptr v16.len v16.cap), (4, .slice b_1.ptr b_1.len b_1.cap), (6, .slice c.ptr c.len c.cap), (63, .bool (!v61))] ?_
                exact ⟨[(3, Value.slice v16.ptr v16.len v16.cap), (4, Value.slice b_1.ptr b_1.len b_1.cap), (6, Value.slice c.ptr c.len c.cap), (63, Value.bool (!v61))], Sub.mk (by kernel_rfl), (!v61), rfl, h⟩
      · rintro _ w8 ⟨t63, rfl, h⟩
        unfold F_towpathlaw06_LogfileEncodes_k0 at h
        refine Zc 63 t63 c5_30 c5_34 (fun hb => ?_) (fun hb => ?_)
        · replace h := h.1 hb
          refine Zp c5_33 P1 [(2, .bool false)] ?_
          refine wpE_ret (by kernel_rfl) ?_
          repeat (first | refine seqQ_ret ?_ | refine blockQ_ret ?_ | refine loopQ_ret ?_ | refine cutQ_ret ?_)
          exact retS (rs := [(ResultVar.tmp 2)]) (v := Value.bool false) (by kernel_rfl) (⟨by kernel_rfl, trivial⟩) ⟨false, rfl, h⟩
        · replace h := h.2 hb
          refine wpE_skip (by kernel_rfl) ?_
          change WpE _ _ c5_35 _ _ _
          refine Zt r5_36 c5_38 ?_
          refine Zn P1 1 [(3, [], .slice v16.ptr v16.len v16.cap), (4, [], .slice b_1.ptr b_1.len b_1.cap), (6, [], .slice c.ptr c.len c.cap), (64, [], .agg #[.int .i64 0, .slice none 0 0, .slice none 0 0, .slice none 0 0, .slice none 0 0, .slice none 0 0, .slice none 0 0, .slice none 0 0, .slice none 0 0, .slice none 0 0, .slice none 0 0, .slice none 0 0])] ?_
          refine Zw (some 10) (fun bb => .pointer (some ⟨bb, 0, none⟩)) (Obj.cells ([.int .i64 0, .slice none 0 0, .slice none 0 0, .slice none 0 0, .slice none 0 0, .slice none 0 0, .slice none 0 0, .slice none 0 0, .slice none 0 0, .slice none 0 0, .slice none 0 0, .slice none 0 0]).toArray ty_towpathlaw01_Book (0, 0)) (fun b_2 w9 hb hw => ?_)
          replace h := h b_2 w9 hb hw
          clear hb hw
          refine Zn [] 2 [(3, [], .slice v16.ptr v16.len v16.cap), (4, [], .slice b_1.ptr b_1.len b_1.cap), (6, [], .slice c.ptr c.len c.cap), (10, [], .pointer (some ⟨b_2, 0, none⟩)), (64, [], .agg #[.int .i64 0, .slice none 0 0, .slice none 0 0, .slice none 0 0, .slice none 0 0, .slice none 0 0, .slice none 0 0, .slice none 0 0, .slice none 0 0, .slice none 0 0, .slice none 0 0, .slice none 0 0])] ?_
          obtain ⟨hc, h⟩ := h
          refine Zo 47 10 64 b_2 0 12 [.int .i64 0, .slice none 0 0, .slice none 0 0, .slice none 0 0, .slice none 0 0, .slice none 0 0, .slice none 0 0, .slice none 0 0, .slice none 0 0, .slice none 0 0, .slice none 0 0, .slice none 0 0] hc (fun w10 hw => ?_)
          replace h := h w10 hw
          clear hw
          refine Ze [(3, .slice v16.ptr v16.len v16.cap), (4, .slice b_1.ptr b_1.len b_1.cap), (6, .slice c.ptr c.len c.cap), (10, .pointer (some ⟨b_2, 0, none⟩))] ?_
          change WpE _ _ c5_38 _ _ _
          refine Zt r5_39 c5_41 ?_
          refine Zn P1 1 [(4, [], .slice b_1.ptr b_1.len b_1.cap), (6, [], .slice c.ptr c.len c.cap), (10, [], .pointer (some ⟨b_2, 0, none⟩)), (65, [], .slice v16.ptr v16.len v16.cap)] ?_
          refine Zm 13 #[.pointer (some ⟨b_2, 0, none⟩), .slice v16.ptr v16.len v16.cap] (some 66) (Calls.mono h ?_)
          rintro _ w11 ⟨rfl, h⟩
          refine ⟨_, rfl, ?_⟩
          refine Ze [(4, .slice b_1.ptr b_1.len b_1.cap), (6, .slice c.ptr c.len c.cap), (10, .pointer (some ⟨b_2, 0, none⟩))] ?_
          change WpE _ _ c5_41 _ _ _
          refine Zt r5_42 c5_44 ?_
          refine Zn P1 1 [(6, [], .slice c.ptr c.len c.cap), (10, [], .pointer (some ⟨b_2, 0, none⟩)), (67, [], .slice b_1.ptr b_1.len b_1.cap)] ?_
          refine Zm 37 #[.pointer (some ⟨b_2, 0, none⟩), .slice b_1.ptr b_1.len b_1.cap] (some 68) (Calls.mono h ?_)
          rintro _ w12 ⟨rfl, h⟩
          refine ⟨_, rfl, ?_⟩
          refine Ze [(6, .slice c.ptr c.len c.cap), (10, .pointer (some ⟨b_2, 0, none⟩))] ?_
          change WpE _ _ c5_44 _ _ _
          refine Zt r5_45 c5_47 ?_
          refine Zn P1 1 [(10, [], .pointer (some ⟨b_2, 0, none⟩)), (69, [], .slice c.ptr c.len c.cap)] ?_
          refine Zm 37 #[.pointer (some ⟨b_2, 0, none⟩), .slice c.ptr c.len c.cap] (some 70) (Calls.mono h ?_)
          rintro _ w13 ⟨rfl, h⟩
          refine ⟨_, rfl, ?_⟩
          refine Ze [(10, .pointer (some ⟨b_2, 0, none⟩))] ?_
          change WpE _ _ c5_47 _ _ _
          refine Zt r5_48 c5_50 ?_
          refine Zn [] 0 [(10, [], .pointer (some ⟨b_2, 0, none⟩))] ?_
          refine Zm 14 #[.pointer (some ⟨b_2, 0, none⟩)] (some 71) (Calls.mono h ?_)
          rintro _ w14 ⟨v71, rfl, h⟩
          refine ⟨_, rfl, ?_⟩
          refine Zf P1 [(2, .bool v71)] ?_
          change WpE _ _ c5_50 _ _ _
          refine wpE_ret (by kernel_rfl) ?_
          repeat (first | refine seqQ_ret ?_ | refine blockQ_ret ?_ | refine loopQ_ret ?_ | refine cutQ_ret ?_)
          exact retS (rs := [(ResultVar.tmp 2)]) (v := Value.bool v71) (by kernel_rfl) (⟨by kernel_rfl, trivial⟩) ⟨v71, rfl, h⟩
  · rintro e w' ⟨v, rfl, r0, rfl, h⟩; exact ⟨r0, rfl, h⟩
end Go.Proofs.YtpdegdnigcnjiaaGreatDoor
