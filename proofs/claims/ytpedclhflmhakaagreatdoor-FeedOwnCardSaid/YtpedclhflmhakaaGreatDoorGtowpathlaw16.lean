/- WRITTEN BY PROGRAM (dec.py): for each Go function the clean formula F, the call's contract C, and the proof S that F gives C. -/
import Derived.Test.YtpedclhflmhakaaGreatDoorRows
import Derived.Test.YtpedclhflmhakaaGreatDoorGF
namespace Go.Proofs.YtpedclhflmhakaaGreatDoor
open Go
set_option linter.unusedVariables false
set_option maxRecDepth 100000
set_option maxHeartbeats 4000000
noncomputable section

/-! ### towpath/towpathlaw16.lives (function 7) -/
def c7_0 := cb_ Tryz.f7
def c7_3 := cr_ c7_0
def c7_4 := cl_ c7_3
def r7_4 := co_ c7_4
def c7_6 := cr_ c7_3
def c7_7 := cl_ c7_6
def c7_10 := cr_ c7_7
def c7_11 := cl_ c7_10
def c7_14 := cr_ c7_11
def c7_15 := cr_ c7_10
def c7_16 := cr_ c7_6
def c7_17 := cl_ c7_16
def r7_17 := co_ c7_17
def c7_19 := cr_ c7_16
def c7_20 := cl_ c7_19
def c7_21 := cl_ c7_20
def r7_21 := co_ c7_21
def c7_23 := cr_ c7_20
def c7_24 := cl_ c7_23
def c7_27 := cr_ c7_24
def c7_28 := cr_ c7_23
def c7_29 := cr_ c7_19
def c7_30 := cl_ c7_29
def r7_30 := co_ c7_30
def c7_32 := cr_ c7_29
def c7_33 := cl_ c7_32
def r7_33 := co_ c7_33
def c7_35 := cr_ c7_32
def c7_36 := cl_ c7_35
def r7_36 := co_ c7_36
def c7_38 := cr_ c7_35
def c7_39 := cl_ c7_38
def r7_39 := co_ c7_39
def c7_41 := cr_ c7_38
def c7_42 := cl_ c7_41
def r7_42 := co_ c7_42
def c7_44 := cr_ c7_41

theorem S_towpathlaw16_lives {w : World} {R : Bool → World → Prop} (h : F_towpathlaw16_lives R w) : C_towpathlaw16_lives w R := by
 unfold F_towpathlaw16_lives at h
 unfold C_towpathlaw16_lives
 refine Calls.mono (calls_of_wpE (args := []) (R := fun v w' => ∃ (r0 : Bool), v = Value.bool r0 ∧ R r0 w') Tryz.func7 (c := c7_0) (by kernel_rfl) 87 (by kernel_rfl) (by kernel_rfl) [] (by kernel_rfl) ?_) ?_
 · refine Zp c7_3 P1 [] ?_
   refine Zt r7_4 c7_6 ?_
   refine Zn [] 0 [] ?_
   refine Zm 28 #[] (some 12) (Calls.mono h ?_)
   rintro _ w1 ⟨v12, rfl, h⟩
   refine ⟨_, rfl, ?_⟩
   refine Zn [] 1 [(12, [], sv_ v12)] ?_
   refine Zm 5 #[sv_ v12] (some 13) (Calls.mono h ?_)
   rintro _ w2 ⟨s, e, rfl, h⟩
   refine ⟨_, rfl, ?_⟩
   refine Zf (Pl 5) [(1, .pointer s), (2, .int .i64 e)] ?_
   change WpE _ _ c7_6 _ _ _
   refine Zs c7_7 c7_16 ?_
   refine Zp c7_10 P2 [(1, .pointer s), (17, .bool (e != 0))] ?_
   refine Zc 17 (e != 0) c7_11 c7_15 (fun hb => ?_) (fun hb => ?_)
   · replace h := h.1 hb
     refine Zp c7_14 P1 [(0, .bool false)] ?_
     refine wpE_ret (by kernel_rfl) ?_
     repeat (first | refine seqQ_ret ?_ | refine blockQ_ret ?_ | refine loopQ_ret ?_ | refine cutQ_ret ?_)
     exact retS (rs := [(ResultVar.tmp 0)]) (v := Value.bool false) (by kernel_rfl) (⟨by kernel_rfl, trivial⟩) ⟨false, rfl, h⟩
   · replace h := h.2 hb
     refine wpE_skip (by kernel_rfl) ?_
     change WpE _ _ c7_16 _ _ _
     refine Zt r7_17 c7_19 ?_
     refine Zn P1 1 [(19, [], .pointer s)] ?_
     refine Zm 6 #[.pointer s, .int .i64 0, .slice none 0 0, .int .i64 1] (some 20) (Calls.mono h ?_)
     rintro _ w3 ⟨f, e1, rfl, h⟩
     refine ⟨_, rfl, ?_⟩
     refine Zf (Pl 5) [(2, .int .i64 e1), (3, .pointer f)] ?_
     change WpE _ _ c7_19 _ _ _
     refine Zs c7_20 c7_29 ?_
     refine wpE_seq_cut (x := c7_21) (y := c7_23) (by kernel_rfl) (fun l w => ∃ (t34 : Bool), l = [(3, Value.pointer f), (34, Value.bool t34)] ∧ F_towpathlaw16_lives_k0 R f t34 w) ?_ ?_
     · refine Zr r7_21 ?_
       refine Zn P4 4 [(3, [], .pointer f), (25, [], .bool (e1 != 0)), (26, [(25, false)], .pointer f)] ?_
       refine reg_split 25 (e1 != 0) (by kernel_rfl) (fun hb => ?_) (fun hb => ?_)
       · replace h := h.1 hb
         refine Zn [] 4 [(3, [], .pointer f), (25, [], .bool true), (26, [], undef)] ?_
         refine Zf [.skip, .skip, .plain, .plain, .skip, .skip, .skip, .plain] [(3, .pointer f), (34, .bool true)] ?_
         exact ⟨[(3, Value.pointer f), (34, Value.bool true)], Sub.mk (by kernel_rfl), true, rfl, h⟩
       · replace h := h.2 hb
         refine Zn [] 4 [(3, [], .pointer f), (25, [], .bool false), (26, [], .pointer f)] ?_
         refine Zn [] 4 [(3, [], .pointer f), (25, [], .bool false), (26, [], .pointer f)] ?_
         refine Zm 8 #[.pointer f, .int .i64 2] (some 27) (Calls.mono h ?_)
         rintro _ w14 ⟨v27, rfl, h⟩
         refine ⟨_, rfl, ?_⟩
         refine Zn [.sure, .plain, .plain, .plain] 9 [(3, [], .pointer f), (30, [], .bool (v27 != 0)), (31, [(30, false)], .pointer f)] ?_
         refine reg_split 30 (v27 != 0) (by kernel_rfl) (fun hb => ?_) (fun hb => ?_)
         · replace h := h.1 hb
           refine Zn [] 9 [(3, [], .pointer f), (30, [], .bool true), (31, [], undef)] ?_
           refine Zf [.skip, .skip, .plain] [(3, .pointer f), (34, .bool true)] ?_
           exact ⟨[(3, Value.pointer f), (34, Value.bool true)], Sub.mk (by kernel_rfl), true, rfl, h⟩
         · replace h := h.2 hb
           refine Zn [] 9 [(3, [], .pointer f), (30, [], .bool false), (31, [], .pointer f)] ?_
           refine Zn [] 9 [(3, [], .pointer f), (30, [], .bool false), (31, [], .pointer f)] ?_
           refine Zm 29 #[.pointer f, .int .i64 0] (some 32) (Calls.mono h ?_)
           rintro _ w15 ⟨v32, rfl, h⟩
           refine ⟨_, rfl, ?_⟩
           refine Zf [.sure, .plain] [(3, .pointer f), (34, .bool (v32 != 1))] ?_
           exact ⟨[(3, Value.pointer f), (34, Value.bool (v32 != 1))], Sub.mk (by kernel_rfl), (v32 != 1), rfl, h⟩
     · rintro _ w4 ⟨t34, rfl, h⟩
       unfold F_towpathlaw16_lives_k0 at h
       refine Zc 34 t34 c7_24 c7_28 (fun hb => ?_) (fun hb => ?_)
       · replace h := h.1 hb
         refine Zp c7_27 P1 [(0, .bool false)] ?_
         refine wpE_ret (by kernel_rfl) ?_
         repeat (first | refine seqQ_ret ?_ | refine blockQ_ret ?_ | refine loopQ_ret ?_ | refine cutQ_ret ?_)
         exact retS (rs := [(ResultVar.tmp 0)]) (v := Value.bool false) (by kernel_rfl) (⟨by kernel_rfl, trivial⟩) ⟨false, rfl, h⟩
       · replace h := h.2 hb
         refine wpE_skip (by kernel_rfl) ?_
         change WpE _ _ c7_29 _ _ _
         refine Zt r7_30 c7_32 ?_
         refine Zn P1 1 [(3, [], .pointer f), (36, [], .pointer f)] ?_
         refine Zm 9 #[.pointer f] (some 37) (Calls.mono h ?_)
         rintro _ w5 ⟨n_, e2, rfl, h⟩
         refine ⟨_, rfl, ?_⟩
         refine Zf (Pl 5) [(2, .int .i64 e2), (3, .pointer f), (4, .int .i64 n_)] ?_
         change WpE _ _ c7_32 _ _ _
         refine Zt r7_33 c7_35 ?_
         refine Zn P1 1 [(2, [], .int .i64 e2), (3, [], .pointer f), (4, [], .int .i64 n_), (41, [], .pointer f)] ?_
         refine Zm 10 #[.pointer f, .int .i64 0] (some 42) (Calls.mono h ?_)
         rintro _ w6 ⟨v42, g, rfl, h⟩
         refine ⟨_, rfl, ?_⟩
         refine Zn P3 5 [(2, [], .int .i64 e2), (3, [], .pointer f), (4, [], .int .i64 n_), (43, [], .agg #[.int .i64 v42.Number, sv_ v42.Writes]), (44, [], .int .i64 g)] ?_
         refine Zw (some 5) (fun bb => pv_ bb) (Obj.cells ([.int .i64 0, .slice none 0 0]).toArray ty_api_Txn (0, 0)) (fun b_ w7 hb hw => ?_)
         replace h := h b_ w7 hb hw
         clear hb hw
         refine Zn [] 6 [(2, [], .int .i64 e2), (3, [], .pointer f), (4, [], .int .i64 n_), (5, [], pv_ b_), (43, [], .agg #[.int .i64 v42.Number, sv_ v42.Writes]), (44, [], .int .i64 g)] ?_
         obtain ⟨hc, h⟩ := h
         refine Zo 49 5 43 b_ 0 2 [.int .i64 v42.Number, sv_ v42.Writes] hc (fun w8 hw => ?_)
         replace h := h w8 hw
         clear hw
         refine Zf P1 [(2, .int .i64 e2), (3, .pointer f), (4, .int .i64 n_), (5, pv_ b_), (6, .int .i64 g)] ?_
         change WpE _ _ c7_35 _ _ _
         refine Zt r7_36 c7_38 ?_
         refine Zn P1 1 [(2, [], .int .i64 e2), (3, [], .pointer f), (4, [], .int .i64 n_), (5, [], pv_ b_), (6, [], .int .i64 g), (46, [], .pointer f)] ?_
         refine Zm 9 #[.pointer f] (some 47) (Calls.mono h ?_)
         rintro _ w9 ⟨m_, h_, rfl, h⟩
         refine ⟨_, rfl, ?_⟩
         refine Zf (Pl 5) [(2, .int .i64 e2), (3, .pointer f), (4, .int .i64 n_), (5, pv_ b_), (6, .int .i64 g), (7, .int .i64 m_), (8, .int .i64 h_)] ?_
         change WpE _ _ c7_38 _ _ _
         refine Zt r7_39 c7_41 ?_
         refine Zn P1 1 [(2, [], .int .i64 e2), (3, [], .pointer f), (4, [], .int .i64 n_), (5, [], pv_ b_), (6, [], .int .i64 g), (7, [], .int .i64 m_), (8, [], .int .i64 h_), (51, [], .pointer f)] ?_
         refine Zm 10 #[.pointer f, .int .i64 0] (some 52) (Calls.mono h ?_)
         rintro _ w10 ⟨v52, i, rfl, h⟩
         refine ⟨_, rfl, ?_⟩
         refine Zn P3 5 [(2, [], .int .i64 e2), (3, [], .pointer f), (4, [], .int .i64 n_), (5, [], pv_ b_), (6, [], .int .i64 g), (7, [], .int .i64 m_), (8, [], .int .i64 h_), (53, [], .agg #[.int .i64 v52.Number, sv_ v52.Writes]), (54, [], .int .i64 i)] ?_
         refine Zw (some 9) (fun bb => pv_ bb) (Obj.cells ([.int .i64 0, .slice none 0 0]).toArray ty_api_Txn (0, 0)) (fun b_1 w11 hb hw => ?_)
         replace h := h b_1 w11 hb hw
         clear hb hw
         refine Zn [] 6 [(2, [], .int .i64 e2), (3, [], .pointer f), (4, [], .int .i64 n_), (5, [], pv_ b_), (6, [], .int .i64 g), (7, [], .int .i64 m_), (8, [], .int .i64 h_), (9, [], pv_ b_1), (53, [], .agg #[.int .i64 v52.Number, sv_ v52.Writes]), (54, [], .int .i64 i)] ?_
         obtain ⟨hc, h⟩ := h
         refine Zo 49 9 53 b_1 0 2 [.int .i64 v52.Number, sv_ v52.Writes] hc (fun w12 hw => ?_)
         replace h := h w12 hw
         clear hw
         refine Zf P1 [(2, .int .i64 e2), (3, .pointer f), (4, .int .i64 n_), (5, pv_ b_), (6, .int .i64 g), (7, .int .i64 m_), (8, .int .i64 h_), (10, .int .i64 i)] ?_
         change WpE _ _ c7_41 _ _ _
         refine Zt r7_42 c7_44 ?_
         refine Zn [.plain, .plain, .plain, .plain, .plain, .pick, .plain, .plain, .plain, .pick, .plain, .plain] 12 [(3, [], .pointer f), (7, [], .int .i64 m_), (8, [], .int .i64 h_), (10, [], .int .i64 i), (65, [], .bool (((e2 == 0) && (n_ == 1)) && (g == 0))), (66, [(65, true)], pv_ b_)] ?_
         refine reg_split 65 (((e2 == 0) && (n_ == 1)) && (g == 0)) (by kernel_rfl) (fun hb => ?_) (fun hb => ?_)
         · replace h := h.1 hb
           refine Zn [] 12 [(3, [], .pointer f), (7, [], .int .i64 m_), (8, [], .int .i64 h_), (10, [], .int .i64 i), (65, [], .bool true), (66, [], pv_ b_)] ?_
           refine Zn [] 12 [(3, [], .pointer f), (7, [], .int .i64 m_), (8, [], .int .i64 h_), (10, [], .int .i64 i), (65, [], .bool true), (66, [], pv_ b_)] ?_
           obtain ⟨v67, hc, h⟩ := h
           refine Zl 3 66 b_ 0 3 67 hc ?_
           refine Zn [.sure, .plain, .plain, .plain, .plain, .pick, .plain, .plain, .plain, .pick, .plain, .plain, .plain, .pick, .plain, .plain] 29 [(82, [], .bool ((((v67 == 1) && (h_ == 0)) && (m_ == 2)) && (i == 6))), (83, [(82, true)], .pointer f)] ?_
           refine reg_split 82 ((((v67 == 1) && (h_ == 0)) && (m_ == 2)) && (i == 6)) (by kernel_rfl) (fun hb => ?_) (fun hb => ?_)
           · replace h := h.1 hb
             refine Zn [] 29 [(82, [], .bool true), (83, [], .pointer f)] ?_
             refine Zn [] 29 [(82, [], .bool true), (83, [], .pointer f)] ?_
             refine Zm 29 #[.pointer f, .int .i64 1] (some 84) (Calls.mono h ?_)
             rintro _ w13 ⟨v84, rfl, h⟩
             refine ⟨_, rfl, ?_⟩
             refine Zf [.sure, .plain, .plain] [(0, .bool (v84 == 3))] ?_
             change WpE _ _ c7_44 _ _ _
             refine wpE_ret (by kernel_rfl) ?_
             repeat (first | refine seqQ_ret ?_ | refine blockQ_ret ?_ | refine loopQ_ret ?_ | refine cutQ_ret ?_)
             exact retS (rs := [(ResultVar.tmp 0)]) (v := Value.bool (v84 == 3)) (by kernel_rfl) (⟨by kernel_rfl, trivial⟩) ⟨(v84 == 3), rfl, h⟩
           · replace h := h.2 hb
             refine Zn [] 29 [(82, [], .bool false), (83, [], undef)] ?_
             refine Zf [.skip, .skip, .plain, .plain] [(0, .bool false)] ?_
             change WpE _ _ c7_44 _ _ _
             refine wpE_ret (by kernel_rfl) ?_
             repeat (first | refine seqQ_ret ?_ | refine blockQ_ret ?_ | refine loopQ_ret ?_ | refine cutQ_ret ?_)
             exact retS (rs := [(ResultVar.tmp 0)]) (v := Value.bool false) (by kernel_rfl) (⟨by kernel_rfl, trivial⟩) ⟨false, rfl, h⟩
         · replace h := h.2 hb
           refine Zn [] 12 [(3, [], .pointer f), (7, [], .int .i64 m_), (8, [], .int .i64 h_), (10, [], .int .i64 i), (65, [], .bool false), (66, [], undef)] ?_
           refine Zf [.skip, .skip, .plain, .plain, .skip, .skip, .plain, .plain, .skip, .skip, .plain, .plain, .skip, .skip, .plain, .plain, .skip, .skip, .skip, .plain, .plain] [(0, .bool false)] ?_
           change WpE _ _ c7_44 _ _ _
           refine wpE_ret (by kernel_rfl) ?_
           repeat (first | refine seqQ_ret ?_ | refine blockQ_ret ?_ | refine loopQ_ret ?_ | refine cutQ_ret ?_)
           exact retS (rs := [(ResultVar.tmp 0)]) (v := Value.bool false) (by kernel_rfl) (⟨by kernel_rfl, trivial⟩) ⟨false, rfl, h⟩
 · rintro e w' ⟨v, rfl, r0, rfl, h⟩; exact ⟨r0, rfl, h⟩

/-! ### towpath/towpathlaw16.three (function 28) -/
def c28_0 := cb_ Tryz.f28
def c28_3 := cr_ c28_0
def c28_4 := cl_ c28_3
def r28_4 := co_ c28_4
def c28_6 := cr_ c28_3
def c28_7 := cl_ c28_6
def r28_7 := co_ c28_7
def c28_9 := cr_ c28_6
def c28_10 := cl_ c28_9
def r28_10 := co_ c28_10
def c28_12 := cr_ c28_9
def c28_13 := cl_ c28_12
def r28_13 := co_ c28_13
def c28_15 := cr_ c28_12

theorem S_towpathlaw16_three {w : World} {R : Slc → World → Prop} (h : F_towpathlaw16_three R w) : C_towpathlaw16_three w R := by
 unfold F_towpathlaw16_three at h
 unfold C_towpathlaw16_three
 refine Calls.mono (calls_of_wpE (args := []) (R := fun v w' => ∃ (r0 : Slc), v = sv_ r0 ∧ R r0 w') Tryz.func28 (c := c28_0) (by kernel_rfl) 18 (by kernel_rfl) (by kernel_rfl) [] (by kernel_rfl) ?_) ?_
 · refine Zp c28_3 P1 [] ?_
   refine Zt r28_4 c28_6 ?_
   refine Zn P1 1 [(4, [], .agg #[.string (ByteArray.mk #[97]), .string (ByteArray.mk #[49]), .bool false])] ?_
   refine Zw (some 5) (fun bb => .slice (some ⟨bb, 0, none⟩) 1 1) (Obj.cells ([.string (ByteArray.mk #[97]), .string (ByteArray.mk #[49]), .bool false]).toArray ty_api_Write (0, 0)) (fun b_ w1 hb hw => ?_)
   replace h := h b_ w1 hb hw
   clear hb hw
   refine Zn P1 3 [(6, [], .agg #[.int .i64 1, .slice (some ⟨b_, 0, none⟩) 1 1])] ?_
   refine Zw (some 1) (fun bb => pv_ bb) (Obj.cells ([.int .i64 0, .slice none 0 0]).toArray ty_api_Txn (0, 0)) (fun b_1 w2 hb hw => ?_)
   replace h := h b_1 w2 hb hw
   clear hb hw
   refine Zn [] 4 [(1, [], pv_ b_1), (6, [], .agg #[.int .i64 1, .slice (some ⟨b_, 0, none⟩) 1 1])] ?_
   obtain ⟨hc, h⟩ := h
   refine Zo 49 1 6 b_1 0 2 [.int .i64 1, .slice (some ⟨b_, 0, none⟩) 1 1] hc (fun w3 hw => ?_)
   replace h := h w3 hw
   clear hw
   refine Ze [(1, pv_ b_1)] ?_
   change WpE _ _ c28_6 _ _ _
   refine Zt r28_7 c28_9 ?_
   refine Zn P1 1 [(1, [], pv_ b_1), (7, [], .agg #[.string (ByteArray.mk #[98]), .string (ByteArray.mk #[50]), .bool false])] ?_
   refine Zw (some 8) (fun bb => .slice (some ⟨bb, 0, none⟩) 1 1) (Obj.cells ([.string (ByteArray.mk #[98]), .string (ByteArray.mk #[50]), .bool false]).toArray ty_api_Write (0, 0)) (fun b_2 w4 hb hw => ?_)
   replace h := h b_2 w4 hb hw
   clear hb hw
   refine Zn P1 3 [(1, [], pv_ b_1), (9, [], .agg #[.int .i64 2, .slice (some ⟨b_2, 0, none⟩) 1 1])] ?_
   refine Zw (some 2) (fun bb => pv_ bb) (Obj.cells ([.int .i64 0, .slice none 0 0]).toArray ty_api_Txn (0, 0)) (fun b_3 w5 hb hw => ?_)
   replace h := h b_3 w5 hb hw
   clear hb hw
   refine Zn [] 4 [(1, [], pv_ b_1), (2, [], pv_ b_3), (9, [], .agg #[.int .i64 2, .slice (some ⟨b_2, 0, none⟩) 1 1])] ?_
   obtain ⟨hc, h⟩ := h
   refine Zo 49 2 9 b_3 0 2 [.int .i64 2, .slice (some ⟨b_2, 0, none⟩) 1 1] hc (fun w6 hw => ?_)
   replace h := h w6 hw
   clear hw
   refine Ze [(1, pv_ b_1), (2, pv_ b_3)] ?_
   change WpE _ _ c28_9 _ _ _
   refine Zt r28_10 c28_12 ?_
   refine Zn P2 2 [(1, [], pv_ b_1), (2, [], pv_ b_3), (10, [], .agg #[.string (ByteArray.mk #[97]), .string (ByteArray.mk #[51]), .bool false]), (11, [], .agg #[.string (ByteArray.mk #[98]), .string ByteArray.empty, .bool true])] ?_
   refine Zw (some 12) (fun bb => .slice (some ⟨bb, 0, none⟩) 2 2) (Obj.cells ([.string (ByteArray.mk #[97]), .string (ByteArray.mk #[51]), .bool false, .string (ByteArray.mk #[98]), .string ByteArray.empty, .bool true]).toArray ty_api_Write (0, 0)) (fun b_4 w7 hb hw => ?_)
   replace h := h b_4 w7 hb hw
   clear hb hw
   refine Zn P1 4 [(1, [], pv_ b_1), (2, [], pv_ b_3), (13, [], .agg #[.int .i64 3, .slice (some ⟨b_4, 0, none⟩) 2 2])] ?_
   refine Zw (some 3) (fun bb => pv_ bb) (Obj.cells ([.int .i64 0, .slice none 0 0]).toArray ty_api_Txn (0, 0)) (fun b_5 w8 hb hw => ?_)
   replace h := h b_5 w8 hb hw
   clear hb hw
   refine Zn [] 5 [(1, [], pv_ b_1), (2, [], pv_ b_3), (3, [], pv_ b_5), (13, [], .agg #[.int .i64 3, .slice (some ⟨b_4, 0, none⟩) 2 2])] ?_
   obtain ⟨hc, h⟩ := h
   refine Zo 49 3 13 b_5 0 2 [.int .i64 3, .slice (some ⟨b_4, 0, none⟩) 2 2] hc (fun w9 hw => ?_)
   replace h := h w9 hw
   clear hw
   refine Ze [(1, pv_ b_1), (2, pv_ b_3), (3, pv_ b_5)] ?_
   change WpE _ _ c28_12 _ _ _
   refine Zt r28_13 c28_15 ?_
   refine Zn [] 0 [(1, [], pv_ b_1), (2, [], pv_ b_3), (3, [], pv_ b_5)] ?_
   obtain ⟨v14, hc, h⟩ := h
   refine reg_loadN (t := 49) (a := (Operand.tmp 1)) (b := b_1) (o := 0) (ty := 49) (dst := some 14) [Value.int .i64 v14.Number, sv_ v14.Writes] (by kernel_rfl) (by kernel_rfl) (by kernel_rfl) (k := 2) (by kernel_rfl) (by kernel_rfl) hc ?_
   refine Zn [] 1 [(2, [], pv_ b_3), (3, [], pv_ b_5), (14, [], .agg #[.int .i64 v14.Number, sv_ v14.Writes])] ?_
   obtain ⟨v15, hc, h⟩ := h
   refine reg_loadN (t := 49) (a := (Operand.tmp 2)) (b := b_3) (o := 0) (ty := 49) (dst := some 15) [Value.int .i64 v15.Number, sv_ v15.Writes] (by kernel_rfl) (by kernel_rfl) (by kernel_rfl) (k := 2) (by kernel_rfl) (by kernel_rfl) hc ?_
   refine Zn [] 2 [(3, [], pv_ b_5), (14, [], .agg #[.int .i64 v14.Number, sv_ v14.Writes]), (15, [], .agg #[.int .i64 v15.Number, sv_ v15.Writes])] ?_
   obtain ⟨v16, hc, h⟩ := h
   refine reg_loadN (t := 49) (a := (Operand.tmp 3)) (b := b_5) (o := 0) (ty := 49) (dst := some 16) [Value.int .i64 v16.Number, sv_ v16.Writes] (by kernel_rfl) (by kernel_rfl) (by kernel_rfl) (k := 2) (by kernel_rfl) (by kernel_rfl) hc ?_
   refine Zn [] 3 [(14, [], .agg #[.int .i64 v14.Number, sv_ v14.Writes]), (15, [], .agg #[.int .i64 v15.Number, sv_ v15.Writes]), (16, [], .agg #[.int .i64 v16.Number, sv_ v16.Writes])] ?_
   refine Zw (some 17) (fun bb => .slice (some ⟨bb, 0, none⟩) 3 3) (Obj.cells ([.int .i64 v14.Number, sv_ v14.Writes, .int .i64 v15.Number, sv_ v15.Writes, .int .i64 v16.Number, sv_ v16.Writes]).toArray ty_api_Txn (0, 0)) (fun b_6 w10 hb hw => ?_)
   replace h := h b_6 w10 hb hw
   clear hb hw
   refine Zf P1 [(0, .slice (some ⟨b_6, 0, none⟩) 3 3)] ?_
   change WpE _ _ c28_15 _ _ _
   refine wpE_ret (by kernel_rfl) ?_
   repeat (first | refine seqQ_ret ?_ | refine blockQ_ret ?_ | refine loopQ_ret ?_ | refine cutQ_ret ?_)
   exact retS (rs := [(ResultVar.tmp 0)]) (v := Value.slice (some ⟨b_6, 0, none⟩) 3 3) (by kernel_rfl) (⟨by kernel_rfl, trivial⟩) ⟨(Slc.mk (some ⟨b_6, 0, none⟩) 3 3), rfl, h⟩
 · rintro e w' ⟨v, rfl, r0, rfl, h⟩; exact ⟨r0, rfl, h⟩
end
end Go.Proofs.YtpedclhflmhakaaGreatDoor
