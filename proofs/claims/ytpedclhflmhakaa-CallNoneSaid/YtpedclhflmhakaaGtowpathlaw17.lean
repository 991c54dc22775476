/- WRITTEN BY PROGRAM (dec.py): for each Go function the clean formula F, the call's contract C, and the proof S that F gives C. -/
import Derived.Test.YtpedclhflmhakaaRows
import Derived.Test.YtpedclhflmhakaaGF
namespace Go.Proofs.Ytpedclhflmhakaa
open Go
set_option linter.unusedVariables false
set_option maxRecDepth 100000
set_option maxHeartbeats 4000000
noncomputable section

/-! ### towpath/towpathlaw17.lives (function 30) -/
def c30_0 := cb_ Try.f30
def c30_3 := cr_ c30_0
def c30_4 := cl_ c30_3
def r30_4 := co_ c30_4
def c30_6 := cr_ c30_3
def c30_7 := cl_ c30_6
def r30_7 := co_ c30_7
def c30_9 := cr_ c30_6
def c30_10 := cl_ c30_9
def c30_11 := cl_ c30_10
def r30_11 := co_ c30_11
def c30_13 := cr_ c30_10
def c30_14 := cl_ c30_13
def c30_17 := cr_ c30_14
def c30_18 := cr_ c30_13
def c30_19 := cr_ c30_9
def c30_20 := cl_ c30_19
def r30_20 := co_ c30_20
def c30_22 := cr_ c30_19
def c30_23 := cl_ c30_22
def c30_24 := cl_ c30_23
def r30_24 := co_ c30_24
def c30_26 := cr_ c30_23
def c30_27 := cl_ c30_26
def c30_30 := cr_ c30_27
def c30_31 := cr_ c30_26
def c30_32 := cr_ c30_22
def c30_33 := cl_ c30_32
def r30_33 := co_ c30_33
def c30_35 := cr_ c30_32
def c30_36 := cl_ c30_35
def r30_36 := co_ c30_36
def c30_38 := cr_ c30_35
def c30_39 := cl_ c30_38
def r30_39 := co_ c30_39
def c30_41 := cr_ c30_38
def c30_42 := cl_ c30_41
def r30_42 := co_ c30_42
def c30_44 := cr_ c30_41

theorem S_towpathlaw17_lives {w : World} {R : Bool → World → Prop} (h : F_towpathlaw17_lives R w) : C_towpathlaw17_lives w R := by
 unfold F_towpathlaw17_lives at h
 unfold C_towpathlaw17_lives
 refine Calls.mono (calls_of_wpE (args := []) (R := fun v w' => ∃ (r0 : Bool), v = Value.bool r0 ∧ R r0 w') Try.func30 (c := c30_0) (by kernel_rfl) 103 (by kernel_rfl) (by kernel_rfl) [] (by kernel_rfl) ?_) ?_
 · refine Zp c30_3 P1 [] ?_
   refine Zt r30_4 c30_6 ?_
   refine Zn P1 1 [(11, [], .agg #[.int .i64 1, .int .i64 2, .int .i64 4, .int .i64 1])] ?_
   refine Zw (some 1) (fun bb => pv_ bb) (Obj.cells ([.int .i64 0, .int .i64 0, .int .i64 0, .int .i64 0]).toArray ty_api_Config (0, 0)) (fun b_ w1 hb hw => ?_)
   replace h := h b_ w1 hb hw
   clear hb hw
   refine Zn [] 2 [(1, [], pv_ b_), (11, [], .agg #[.int .i64 1, .int .i64 2, .int .i64 4, .int .i64 1])] ?_
   obtain ⟨hc, h⟩ := h
   refine Zo 69 1 11 b_ 0 4 [.int .i64 1, .int .i64 2, .int .i64 4, .int .i64 1] hc (fun w2 hw => ?_)
   replace h := h w2 hw
   clear hw
   refine Ze [(1, pv_ b_)] ?_
   change WpE _ _ c30_6 _ _ _
   refine Zt r30_7 c30_9 ?_
   refine Zn [] 0 [(1, [], pv_ b_)] ?_
   obtain ⟨v13, hc, h⟩ := h
   refine reg_loadN (t := 69) (a := (Operand.tmp 1)) (b := b_) (o := 0) (ty := 69) (dst := some 13) [Value.int .i64 v13.Lanes, Value.int .i64 v13.Shards, Value.int .i64 v13.Window, Value.int .i64 v13.Queue] (by kernel_rfl) (by kernel_rfl) (by kernel_rfl) (k := 4) (by kernel_rfl) (by kernel_rfl) hc ?_
   refine Zn P1 2 [(13, [], .agg #[.int .i64 v13.Lanes, .int .i64 v13.Shards, .int .i64 v13.Window, .int .i64 v13.Queue]), (14, [], .agg #[.int .u8 3, .string ByteArray.empty, .string ByteArray.empty])] ?_
   refine Zm 31 #[.int .i64 (-2), .agg #[.int .i64 v13.Lanes, .int .i64 v13.Shards, .int .i64 v13.Window, .int .i64 v13.Queue], .agg #[.int .u8 3, .string ByteArray.empty, .string ByteArray.empty]] (some 15) (Calls.mono h ?_)
   rintro _ w3 ⟨t_, e, rfl, h⟩
   refine ⟨_, rfl, ?_⟩
   refine Zf (Pl 5) [(2, .pointer t_), (3, .int .i64 e)] ?_
   change WpE _ _ c30_9 _ _ _
   refine Zs c30_10 c30_19 ?_
   refine wpE_seq_cut (x := c30_11) (y := c30_13) (by kernel_rfl) (fun l w => ∃ (t24 : Bool), l = [(2, Value.pointer t_), (24, Value.bool t24)] ∧ F_towpathlaw17_lives_k0 R t_ t24 w) ?_ ?_
   · refine Zr r30_11 ?_
     refine Zn P4 4 [(2, [], .pointer t_), (20, [], .bool (e != 0)), (21, [(20, false)], .pointer t_)] ?_
     refine reg_split 20 (e != 0) (by kernel_rfl) (fun hb => ?_) (fun hb => ?_)
     · replace h := h.1 hb
       refine Zn [] 4 [(2, [], .pointer t_), (20, [], .bool true), (21, [], undef)] ?_
       refine Zf [.skip, .skip, .plain] [(2, .pointer t_), (24, .bool true)] ?_
       exact ⟨[(2, Value.pointer t_), (24, Value.bool true)], Sub.mk (by kernel_rfl), true, rfl, h⟩
     · replace h := h.2 hb
       refine Zn [] 4 [(2, [], .pointer t_), (20, [], .bool false), (21, [], .pointer t_)] ?_
       refine Zn [] 4 [(2, [], .pointer t_), (20, [], .bool false), (21, [], .pointer t_)] ?_
       refine Zm 32 #[.pointer t_, .int .i64 5, .int .i64 3, .slice none 0 0] (some 22) (Calls.mono h ?_)
       rintro _ w17 ⟨v22, rfl, h⟩
       refine ⟨_, rfl, ?_⟩
       refine Zf [.sure, .plain] [(2, .pointer t_), (24, .bool (v22 != 0))] ?_
       exact ⟨[(2, Value.pointer t_), (24, Value.bool (v22 != 0))], Sub.mk (by kernel_rfl), (v22 != 0), rfl, h⟩
   · rintro _ w4 ⟨t24, rfl, h⟩
     unfold F_towpathlaw17_lives_k0 at h
     refine Zc 24 t24 c30_14 c30_18 (fun hb => ?_) (fun hb => ?_)
     · replace h := h.1 hb
       refine Zp c30_17 P1 [(0, .bool false)] ?_
       refine wpE_ret (by kernel_rfl) ?_
       repeat (first | refine seqQ_ret ?_ | refine blockQ_ret ?_ | refine loopQ_ret ?_ | refine cutQ_ret ?_)
       exact retS (rs := [(ResultVar.tmp 0)]) (v := Value.bool false) (by kernel_rfl) (⟨by kernel_rfl, trivial⟩) ⟨false, rfl, h⟩
     · replace h := h.2 hb
       refine wpE_skip (by kernel_rfl) ?_
       change WpE _ _ c30_19 _ _ _
       refine Zt r30_20 c30_22 ?_
       refine Zn P1 1 [(2, [], .pointer t_), (26, [], .pointer t_)] ?_
       refine Zm 33 #[.pointer t_] (some 27) (Calls.mono h ?_)
       rintro _ w5 ⟨k_, v27_1, ok, rfl, h⟩
       refine ⟨_, rfl, ?_⟩
       refine Zn P4 6 [(2, [], .pointer t_), (28, [], .int .i64 k_), (29, [], .agg #[.int .u8 v27_1.Kind, .int .i64 v27_1.From, .int .i64 v27_1.Number, .string v27_1.Write.Key, .string v27_1.Write.Val, .bool v27_1.Write.Drop, .string v27_1.Key, .string v27_1.End, sv_ v27_1.Beyond]), (30, [], .bool ok)] ?_
       refine Zw (some 5) (fun bb => pv_ bb) (Obj.cells ([.int .u8 0, .int .i64 0, .int .i64 0, .string ByteArray.empty, .string ByteArray.empty, .bool false, .string ByteArray.empty, .string ByteArray.empty, .slice none 0 0]).toArray ty_api_Req (0, 0)) (fun b_1 w6 hb hw => ?_)
       replace h := h b_1 w6 hb hw
       clear hb hw
       refine Zn P1 8 [(2, [], .pointer t_), (4, [], .int .i64 k_), (5, [], pv_ b_1), (29, [], .agg #[.int .u8 v27_1.Kind, .int .i64 v27_1.From, .int .i64 v27_1.Number, .string v27_1.Write.Key, .string v27_1.Write.Val, .bool v27_1.Write.Drop, .string v27_1.Key, .string v27_1.End, sv_ v27_1.Beyond]), (30, [], .bool ok)] ?_
       obtain ⟨hc, h⟩ := h
       refine Zo 80 5 29 b_1 0 9 [.int .u8 v27_1.Kind, .int .i64 v27_1.From, .int .i64 v27_1.Number, .string v27_1.Write.Key, .string v27_1.Write.Val, .bool v27_1.Write.Drop, .string v27_1.Key, .string v27_1.End, sv_ v27_1.Beyond] hc (fun w7 hw => ?_)
       replace h := h w7 hw
       clear hw
       refine Zf P1 [(2, .pointer t_), (4, .int .i64 k_), (5, pv_ b_1), (6, .bool ok)] ?_
       change WpE _ _ c30_22 _ _ _
       refine Zs c30_23 c30_32 ?_
       refine wpE_seq_cut (x := c30_24) (y := c30_26) (by kernel_rfl) (fun l w => ∃ (t66 : Bool), l = [(2, Value.pointer t_), (66, Value.bool t66)] ∧ F_towpathlaw17_lives_k1 R t_ t66 w) ?_ ?_
       · refine Zr r30_24 ?_
         refine Zn [.plain, .plain, .plain, .plain, .plain, .pick, .plain, .plain] 8 [(2, [], .pointer t_), (5, [], pv_ b_1), (37, [], .bool ((k_ != 0) || (!ok))), (38, [(37, false)], pv_ b_1)] ?_
         refine reg_split 37 ((k_ != 0) || (!ok)) (by kernel_rfl) (fun hb => ?_) (fun hb => ?_)
         · replace h := h.1 hb
           refine Zn [] 8 [(2, [], .pointer t_), (5, [], pv_ b_1), (37, [], .bool true), (38, [], undef)] ?_
           refine Zf [.skip, .skip, .plain, .plain, .skip, .skip, .skip, .plain, .plain, .skip, .skip, .skip, .plain, .plain, .skip, .skip, .skip, .plain, .plain, .skip, .skip, .skip, .plain, .plain, .skip, .skip, .skip, .plain] [(2, .pointer t_), (66, .bool true)] ?_
           exact ⟨[(2, Value.pointer t_), (66, Value.bool true)], Sub.mk (by kernel_rfl), true, rfl, h⟩
         · replace h := h.2 hb
           refine Zn [] 8 [(2, [], .pointer t_), (5, [], pv_ b_1), (37, [], .bool false), (38, [], pv_ b_1)] ?_
           refine Zn [] 8 [(2, [], .pointer t_), (5, [], pv_ b_1), (37, [], .bool false), (38, [], pv_ b_1)] ?_
           obtain ⟨v39, hc, h⟩ := h
           refine Zl 76 38 b_1 0 76 39 hc ?_
           refine Zn [.sure, .plain, .plain, .plain] 13 [(2, [], .pointer t_), (5, [], pv_ b_1), (42, [], .bool (v39 != 4)), (43, [(42, false)], .pointer (some ⟨b_1, 1, none⟩))] ?_
           refine reg_split 42 (v39 != 4) (by kernel_rfl) (fun hb => ?_) (fun hb => ?_)
           · replace h := h.1 hb
             refine Zn [] 13 [(2, [], .pointer t_), (5, [], pv_ b_1), (42, [], .bool true), (43, [], undef)] ?_
             refine Zf [.skip, .skip, .plain, .plain, .skip, .skip, .skip, .plain, .plain, .skip, .skip, .skip, .plain, .plain, .skip, .skip, .skip, .plain, .plain, .skip, .skip, .skip, .plain] [(2, .pointer t_), (66, .bool true)] ?_
             exact ⟨[(2, Value.pointer t_), (66, Value.bool true)], Sub.mk (by kernel_rfl), true, rfl, h⟩
           · replace h := h.2 hb
             refine Zn [] 13 [(2, [], .pointer t_), (5, [], pv_ b_1), (42, [], .bool false), (43, [], .pointer (some ⟨b_1, 1, none⟩))] ?_
             refine Zn [] 13 [(2, [], .pointer t_), (5, [], pv_ b_1), (42, [], .bool false), (43, [], .pointer (some ⟨b_1, 1, none⟩))] ?_
             obtain ⟨v44, hc, h⟩ := h
             refine Zl 3 43 b_1 1 3 44 hc ?_
             refine Zn [.sure, .plain, .plain, .plain] 18 [(2, [], .pointer t_), (47, [], .bool (v44 != (-2))), (48, [(47, false)], .pointer (some ⟨b_1, 2, none⟩))] ?_
             refine reg_split 47 (v44 != (-2)) (by kernel_rfl) (fun hb => ?_) (fun hb => ?_)
             · replace h := h.1 hb
               refine Zn [] 18 [(2, [], .pointer t_), (47, [], .bool true), (48, [], undef)] ?_
               refine Zf [.skip, .skip, .plain, .plain, .skip, .skip, .skip, .plain, .plain, .skip, .skip, .skip, .plain, .plain, .skip, .skip, .skip, .plain] [(2, .pointer t_), (66, .bool true)] ?_
               exact ⟨[(2, Value.pointer t_), (66, Value.bool true)], Sub.mk (by kernel_rfl), true, rfl, h⟩
             · replace h := h.2 hb
               refine Zn [] 18 [(2, [], .pointer t_), (47, [], .bool false), (48, [], .pointer (some ⟨b_1, 2, none⟩))] ?_
               refine Zn [] 18 [(2, [], .pointer t_), (47, [], .bool false), (48, [], .pointer (some ⟨b_1, 2, none⟩))] ?_
               obtain ⟨v49, hc, h⟩ := h
               refine Zl 3 48 b_1 2 3 49 hc ?_
               refine Zn [.sure, .plain, .plain, .plain] 23 [(2, [], .pointer t_), (52, [], .bool (v49 != 3)), (53, [(52, false)], .pointer t_)] ?_
               refine reg_split 52 (v49 != 3) (by kernel_rfl) (fun hb => ?_) (fun hb => ?_)
               · replace h := h.1 hb
                 refine Zn [] 23 [(2, [], .pointer t_), (52, [], .bool true), (53, [], undef)] ?_
                 refine Zf [.skip, .skip, .plain, .plain, .skip, .skip, .skip, .plain, .plain, .skip, .skip, .skip, .plain] [(2, .pointer t_), (66, .bool true)] ?_
                 exact ⟨[(2, Value.pointer t_), (66, Value.bool true)], Sub.mk (by kernel_rfl), true, rfl, h⟩
               · replace h := h.2 hb
                 refine Zn [] 23 [(2, [], .pointer t_), (52, [], .bool false), (53, [], .pointer t_)] ?_
                 refine Zn [] 23 [(2, [], .pointer t_), (52, [], .bool false), (53, [], .pointer t_)] ?_
                 refine Zm 36 #[.pointer t_] (some 54) (Calls.mono h ?_)
                 rintro _ w14 ⟨v54, rfl, h⟩
                 refine ⟨_, rfl, ?_⟩
                 refine Zn [.sure, .plain, .plain, .plain] 28 [(2, [], .pointer t_), (57, [], .bool (v54 != 0)), (58, [(57, false)], .pointer t_)] ?_
                 refine reg_split 57 (v54 != 0) (by kernel_rfl) (fun hb => ?_) (fun hb => ?_)
                 · replace h := h.1 hb
                   refine Zn [] 28 [(2, [], .pointer t_), (57, [], .bool true), (58, [], undef)] ?_
                   refine Zf [.skip, .skip, .plain, .plain, .skip, .skip, .skip, .plain] [(2, .pointer t_), (66, .bool true)] ?_
                   exact ⟨[(2, Value.pointer t_), (66, Value.bool true)], Sub.mk (by kernel_rfl), true, rfl, h⟩
                 · replace h := h.2 hb
                   refine Zn [] 28 [(2, [], .pointer t_), (57, [], .bool false), (58, [], .pointer t_)] ?_
                   refine Zn [] 28 [(2, [], .pointer t_), (57, [], .bool false), (58, [], .pointer t_)] ?_
                   refine Zm 36 #[.pointer t_] (some 59) (Calls.mono h ?_)
                   rintro _ w15 ⟨v59, rfl, h⟩
                   refine ⟨_, rfl, ?_⟩
                   refine Zn [.sure, .plain, .plain, .plain] 33 [(2, [], .pointer t_), (62, [], .bool (v59 != 0)), (63, [(62, false)], .pointer t_)] ?_
                   refine reg_split 62 (v59 != 0) (by kernel_rfl) (fun hb => ?_) (fun hb => ?_)
                   · replace h := h.1 hb
                     refine Zn [] 33 [(2, [], .pointer t_), (62, [], .bool true), (63, [], undef)] ?_
                     refine Zf [.skip, .skip, .plain] [(2, .pointer t_), (66, .bool true)] ?_
                     exact ⟨[(2, Value.pointer t_), (66, Value.bool true)], Sub.mk (by kernel_rfl), true, rfl, h⟩
                   · replace h := h.2 hb
                     refine Zn [] 33 [(2, [], .pointer t_), (62, [], .bool false), (63, [], .pointer t_)] ?_
                     refine Zn [] 33 [(2, [], .pointer t_), (62, [], .bool false), (63, [], .pointer t_)] ?_
                     refine Zm 36 #[.pointer t_] (some 64) (Calls.mono h ?_)
                     rintro _ w16 ⟨v64, rfl, h⟩
                     refine ⟨_, rfl, ?_⟩
                     refine Zf [.sure, .plain] [(2, .pointer t_), (66, .bool (v64 != 9))] ?_
                     exact ⟨[(2, Value.pointer t_), (66, Value.bool (v64 != 9))], Sub.mk (by kernel_rfl), (v64 != 9), rfl, h⟩
       · rintro _ w8 ⟨t66, rfl, h⟩
         unfold F_towpathlaw17_lives_k1 at h
         refine Zc 66 t66 c30_27 c30_31 (fun hb => ?_) (fun hb => ?_)
         · replace h := h.1 hb
           refine Zp c30_30 P1 [(0, .bool false)] ?_
           refine wpE_ret (by kernel_rfl) ?_
           repeat (first | refine seqQ_ret ?_ | refine blockQ_ret ?_ | refine loopQ_ret ?_ | refine cutQ_ret ?_)
           exact retS (rs := [(ResultVar.tmp 0)]) (v := Value.bool false) (by kernel_rfl) (⟨by kernel_rfl, trivial⟩) ⟨false, rfl, h⟩
         · replace h := h.2 hb
           refine wpE_skip (by kernel_rfl) ?_
           change WpE _ _ c30_32 _ _ _
           refine Zt r30_33 c30_35 ?_
           refine Zn P2 2 [(2, [], .pointer t_), (67, [], .pointer t_), (68, [], .agg #[.int .i64 (-2), .bool false, .slice none 0 0, .slice none 0 0, .int .i64 2])] ?_
           refine Zm 60 #[.pointer t_, .agg #[.int .i64 (-2), .bool false, .slice none 0 0, .slice none 0 0, .int .i64 2]] (some 69) (Calls.mono h ?_)
           rintro _ w9 ⟨v69, rfl, h⟩
           refine ⟨_, rfl, ?_⟩
           refine Zf P1 [(2, .pointer t_), (3, .int .i64 v69)] ?_
           change WpE _ _ c30_35 _ _ _
           refine Zt r30_36 c30_38 ?_
           refine Zn P2 2 [(2, [], .pointer t_), (3, [], .int .i64 v69), (70, [], .pointer t_), (71, [], .agg #[.int .i64 (-2), .bool false, .slice none 0 0, .slice none 0 0, .int .i64 1])] ?_
           refine Zm 60 #[.pointer t_, .agg #[.int .i64 (-2), .bool false, .slice none 0 0, .slice none 0 0, .int .i64 1]] (some 72) (Calls.mono h ?_)
           rintro _ w10 ⟨v72, rfl, h⟩
           refine ⟨_, rfl, ?_⟩
           refine Zf P1 [(2, .pointer t_), (3, .int .i64 v69), (7, .int .i64 v72)] ?_
           change WpE _ _ c30_38 _ _ _
           refine Zt r30_39 c30_41 ?_
           refine Zn P1 1 [(3, [], .int .i64 v69), (7, [], .int .i64 v72), (74, [], .pointer t_)] ?_
           refine Zm 61 #[.pointer t_] (some 75) (Calls.mono h ?_)
           rintro _ w11 ⟨v75, v75_1, g, rfl, h⟩
           refine ⟨_, rfl, ?_⟩
           refine Zn P4 6 [(3, [], .int .i64 v69), (7, [], .int .i64 v72), (76, [], .agg #[.int .i64 v75.Code, .int .i64 v75.Mark, .bool v75.OK, sv_ v75.Entries, .int .i64 v75.Count]), (77, [], sv_ v75_1), (78, [], .int .i64 g)] ?_
           refine Zw (some 8) (fun bb => pv_ bb) (Obj.cells ([.int .i64 0, .int .i64 0, .bool false, .slice none 0 0, .int .i64 0]).toArray ty_api_Answer (0, 0)) (fun b_2 w12 hb hw => ?_)
           replace h := h b_2 w12 hb hw
           clear hb hw
           refine Zn [] 7 [(3, [], .int .i64 v69), (7, [], .int .i64 v72), (8, [], pv_ b_2), (76, [], .agg #[.int .i64 v75.Code, .int .i64 v75.Mark, .bool v75.OK, sv_ v75.Entries, .int .i64 v75.Count]), (77, [], sv_ v75_1), (78, [], .int .i64 g)] ?_
           obtain ⟨hc, h⟩ := h
           refine Zo 125 8 76 b_2 0 5 [.int .i64 v75.Code, .int .i64 v75.Mark, .bool v75.OK, sv_ v75.Entries, .int .i64 v75.Count] hc (fun w13 hw => ?_)
           replace h := h w13 hw
           clear hw
           refine Zf P2 [(3, .int .i64 v69), (7, .int .i64 v72), (8, pv_ b_2), (10, .int .i64 g)] ?_
           change WpE _ _ c30_41 _ _ _
           refine Zt r30_42 c30_44 ?_
           refine Zn [.plain, .plain, .plain, .plain, .plain, .pick, .plain, .plain, .plain, .pick, .plain, .plain] 12 [(8, [], pv_ b_2), (89, [], .bool (((v69 == 0) && (v72 == 0)) && (g == 0))), (90, [(89, true)], .pointer (some ⟨b_2, 4, none⟩))] ?_
           refine reg_split 89 (((v69 == 0) && (v72 == 0)) && (g == 0)) (by kernel_rfl) (fun hb => ?_) (fun hb => ?_)
           · replace h := h.1 hb
             refine Zn [] 12 [(8, [], pv_ b_2), (89, [], .bool true), (90, [], .pointer (some ⟨b_2, 4, none⟩))] ?_
             refine Zn [] 12 [(8, [], pv_ b_2), (89, [], .bool true), (90, [], .pointer (some ⟨b_2, 4, none⟩))] ?_
             obtain ⟨v91, hc, h⟩ := h
             refine Zl 3 90 b_2 4 3 91 hc ?_
             refine Zn [.sure, .plain, .plain, .plain] 17 [(8, [], pv_ b_2), (94, [], .bool (v91 == 3)), (95, [(94, true)], .pointer (some ⟨b_2, 1, none⟩))] ?_
             refine reg_split 94 (v91 == 3) (by kernel_rfl) (fun hb => ?_) (fun hb => ?_)
             · replace h := h.1 hb
               refine Zn [] 17 [(8, [], pv_ b_2), (94, [], .bool true), (95, [], .pointer (some ⟨b_2, 1, none⟩))] ?_
               refine Zn [] 17 [(8, [], pv_ b_2), (94, [], .bool true), (95, [], .pointer (some ⟨b_2, 1, none⟩))] ?_
               obtain ⟨v96, hc, h⟩ := h
               refine Zl 3 95 b_2 1 3 96 hc ?_
               refine Zn [.sure, .plain, .plain, .plain] 22 [(99, [], .bool (v96 == 5)), (100, [(99, true)], .pointer (some ⟨b_2, 2, none⟩))] ?_
               refine reg_split 99 (v96 == 5) (by kernel_rfl) (fun hb => ?_) (fun hb => ?_)
               · replace h := h.1 hb
                 refine Zn [] 22 [(99, [], .bool true), (100, [], .pointer (some ⟨b_2, 2, none⟩))] ?_
                 refine Zn [] 22 [(99, [], .bool true), (100, [], .pointer (some ⟨b_2, 2, none⟩))] ?_
                 obtain ⟨v101, hc, h⟩ := h
                 refine Zl 4 100 b_2 2 4 101 hc ?_
                 refine Zf P2 [(0, .bool v101)] ?_
                 change WpE _ _ c30_44 _ _ _
                 refine wpE_ret (by kernel_rfl) ?_
                 repeat (first | refine seqQ_ret ?_ | refine blockQ_ret ?_ | refine loopQ_ret ?_ | refine cutQ_ret ?_)
                 exact retS (rs := [(ResultVar.tmp 0)]) (v := Value.bool v101) (by kernel_rfl) (⟨by kernel_rfl, trivial⟩) ⟨v101, rfl, h⟩
               · replace h := h.2 hb
                 refine Zn [] 22 [(99, [], .bool false), (100, [], undef)] ?_
                 refine Zf [.skip, .plain, .plain] [(0, .bool false)] ?_
                 change WpE _ _ c30_44 _ _ _
                 refine wpE_ret (by kernel_rfl) ?_
                 repeat (first | refine seqQ_ret ?_ | refine blockQ_ret ?_ | refine loopQ_ret ?_ | refine cutQ_ret ?_)
                 exact retS (rs := [(ResultVar.tmp 0)]) (v := Value.bool false) (by kernel_rfl) (⟨by kernel_rfl, trivial⟩) ⟨false, rfl, h⟩
             · replace h := h.2 hb
               refine Zn [] 17 [(8, [], pv_ b_2), (94, [], .bool false), (95, [], undef)] ?_
               refine Zf [.skip, .skip, .plain, .plain, .skip, .skip, .plain, .plain] [(0, .bool false)] ?_
               change WpE _ _ c30_44 _ _ _
               refine wpE_ret (by kernel_rfl) ?_
               repeat (first | refine seqQ_ret ?_ | refine blockQ_ret ?_ | refine loopQ_ret ?_ | refine cutQ_ret ?_)
               exact retS (rs := [(ResultVar.tmp 0)]) (v := Value.bool false) (by kernel_rfl) (⟨by kernel_rfl, trivial⟩) ⟨false, rfl, h⟩
           · replace h := h.2 hb
             refine Zn [] 12 [(8, [], pv_ b_2), (89, [], .bool false), (90, [], undef)] ?_
             refine Zf [.skip, .skip, .plain, .plain, .skip, .skip, .skip, .plain, .plain, .skip, .skip, .plain, .plain] [(0, .bool false)] ?_
             change WpE _ _ c30_44 _ _ _
             refine wpE_ret (by kernel_rfl) ?_
             repeat (first | refine seqQ_ret ?_ | refine blockQ_ret ?_ | refine loopQ_ret ?_ | refine cutQ_ret ?_)
             exact retS (rs := [(ResultVar.tmp 0)]) (v := Value.bool false) (by kernel_rfl) (⟨by kernel_rfl, trivial⟩) ⟨false, rfl, h⟩
 · rintro e w' ⟨v, rfl, r0, rfl, h⟩; exact ⟨r0, rfl, h⟩

/-! ### towpath/towpathlaw17.asks (function 38) -/
def c38_0 := cb_ Try.f38
def c38_1 := cl_ c38_0
def r38_1 := co_ c38_1
def c38_3 := cr_ c38_0
def c38_4 := cl_ c38_3
def c38_5 := cl_ c38_4
def r38_5 := co_ c38_5
def c38_7 := cr_ c38_4
def c38_8 := cl_ c38_7
def c38_11 := cr_ c38_8
def c38_12 := cl_ c38_11
def c38_13 := cl_ c38_12
def r38_13 := co_ c38_13
def c38_15 := cr_ c38_12
def c38_16 := cl_ c38_15
def r38_16 := co_ c38_16
def c38_18 := cr_ c38_15
def c38_19 := cl_ c38_18
def r38_19 := co_ c38_19
def c38_21 := cr_ c38_18
def c38_22 := cl_ c38_21
def c38_25 := cr_ c38_22
def c38_26 := cl_ c38_25
def c38_27 := cl_ c38_26
def c38_28 := cl_ c38_27
def c38_31 := cr_ c38_28
def c38_32 := cl_ c38_31
def c38_33 := cr_ c38_31
def c38_34 := cr_ c38_27
def c38_35 := cl_ c38_34
def c38_36 := cl_ c38_35
def r38_36 := co_ c38_36
def c38_38 := cr_ c38_34
def r38_38 := co_ c38_38
def c38_40 := cr_ c38_21
def c38_43 := cr_ c38_40
def c38_44 := cr_ c38_11
def c38_47 := cr_ c38_44
def c38_48 := cl_ c38_47
def c38_49 := cl_ c38_48
def r38_49 := co_ c38_49
def c38_51 := cr_ c38_48
def c38_52 := cl_ c38_51
def r38_52 := co_ c38_52
def c38_54 := cr_ c38_51
def c38_55 := cl_ c38_54
def r38_55 := co_ c38_55
def c38_57 := cr_ c38_54
def c38_58 := cl_ c38_57
def c38_61 := cr_ c38_58
def c38_62 := cl_ c38_61
def c38_63 := cl_ c38_62
def c38_64 := cl_ c38_63
def c38_65 := cl_ c38_64
def r38_65 := co_ c38_65
def c38_67 := cr_ c38_64
def c38_68 := cl_ c38_67
def c38_69 := cr_ c38_67
def c38_70 := cr_ c38_63
def c38_71 := cl_ c38_70
def c38_72 := cl_ c38_71
def r38_72 := co_ c38_72
def c38_74 := cr_ c38_70
def r38_74 := co_ c38_74
def c38_76 := cr_ c38_57
def c38_77 := cl_ c38_76
def c38_80 := cr_ c38_77
def c38_81 := cl_ c38_80
def c38_82 := cl_ c38_81
def c38_83 := cl_ c38_82
def c38_84 := cl_ c38_83
def r38_84 := co_ c38_84
def c38_86 := cr_ c38_83
def c38_87 := cl_ c38_86
def c38_88 := cr_ c38_86
def c38_89 := cr_ c38_82
def c38_90 := cl_ c38_89
def c38_91 := cl_ c38_90
def c38_92 := cl_ c38_91
def c38_95 := cr_ c38_92
def c38_96 := cl_ c38_95
def c38_97 := cl_ c38_96
def c38_98 := cl_ c38_97
def c38_99 := cl_ c38_98
def r38_99 := co_ c38_99
def c38_101 := cr_ c38_98
def c38_102 := cl_ c38_101
def c38_103 := cr_ c38_101
def c38_104 := cr_ c38_97
def c38_105 := cl_ c38_104
def c38_106 := cl_ c38_105
def r38_106 := co_ c38_106
def c38_108 := cr_ c38_104
def r38_108 := co_ c38_108
def c38_110 := cr_ c38_91
def r38_110 := co_ c38_110
def c38_112 := cr_ c38_89
def r38_112 := co_ c38_112
def c38_114 := cr_ c38_76
def c38_117 := cr_ c38_114
def c38_118 := cr_ c38_47
def c38_119 := cr_ c38_3
def c38_120 := cl_ c38_119
def r38_120 := co_ c38_120
def c38_122 := cr_ c38_119

theorem S_towpathlaw17_asks {t_ : Option Addr} {x : Option Addr} {a_ : T_towpathlaw17_Ask} {w : World} {R : Bool → World → Prop} (h : F_towpathlaw17_asks t_ x a_ R w) : C_towpathlaw17_asks t_ x a_ w R := by
 unfold F_towpathlaw17_asks at h
 unfold C_towpathlaw17_asks
 refine Calls.mono (calls_of_wpE (args := [Value.pointer t_, Value.pointer x, Value.agg #[Value.int .u8 a_.Kind, Value.int .i64 a_.Mark, Value.int .i64 a_.Least, sv_ a_.Beyond, Value.int .i64 a_.Resp.To, Value.bool a_.Resp.OK, sv_ a_.Resp.Entries, sv_ a_.Resp.Held, Value.int .i64 a_.Resp.Count]]) (R := fun v w' => ∃ (r0 : Bool), v = Value.bool r0 ∧ R r0 w') Try.func38 (c := c38_0) (by kernel_rfl) 127 (by kernel_rfl) (by kernel_rfl) [(0, Value.pointer t_), (1, Value.pointer x), (2, Value.agg #[Value.int .u8 a_.Kind, Value.int .i64 a_.Mark, Value.int .i64 a_.Least, sv_ a_.Beyond, Value.int .i64 a_.Resp.To, Value.bool a_.Resp.OK, sv_ a_.Resp.Entries, sv_ a_.Resp.Held, Value.int .i64 a_.Resp.Count])] (by kernel_rfl) ?_) ?_
 · refine Zt r38_1 c38_3 ?_
   refine Zn [] 0 [(0, [], .pointer t_), (1, [], .pointer x), (2, [], .agg #[.int .u8 a_.Kind, .int .i64 a_.Mark, .int .i64 a_.Least, sv_ a_.Beyond, .int .i64 a_.Resp.To, .bool a_.Resp.OK, sv_ a_.Resp.Entries, sv_ a_.Resp.Held, .int .i64 a_.Resp.Count])] ?_
   refine Zw (some 5) (fun bb => pv_ bb) (Obj.cells ([.int .u8 a_.Kind, .int .i64 a_.Mark, .int .i64 a_.Least, sv_ a_.Beyond, .int .i64 a_.Resp.To, .bool a_.Resp.OK, sv_ a_.Resp.Entries, sv_ a_.Resp.Held, .int .i64 a_.Resp.Count]).toArray ty_towpathlaw17_Ask (0, 0)) (fun b_ w1 hb hw => ?_)
   replace h := h b_ w1 hb hw
   clear hb hw
   refine Zf P1 [(0, .pointer t_), (1, .pointer x), (5, pv_ b_)] ?_
   change WpE _ _ c38_3 _ _ _
   refine Zs c38_4 c38_119 ?_
   refine Zt r38_5 c38_7 ?_
   refine Zn P1 1 [(0, [], .pointer t_), (1, [], .pointer x), (5, [], pv_ b_), (17, [], pv_ b_)] ?_
   obtain ⟨v18, hc, h⟩ := h
   refine Zl 91 17 b_ 0 91 18 hc ?_
   refine Ze [(0, .pointer t_), (1, .pointer x), (5, pv_ b_), (18, .int .u8 v18)] ?_
   change WpE _ _ c38_7 _ _ _
   refine Zb 0 c38_8 ?_
   refine Zp c38_11 P2 [(0, .pointer t_), (1, .pointer x), (5, pv_ b_), (18, .int .u8 v18), (19, .bool (v18 == 0))] ?_
   refine Zc 19 (v18 == 0) c38_12 c38_44 (fun hb => ?_) (fun hb => ?_)
   · replace h := h.1 hb
     refine Zt r38_13 c38_15 ?_
     refine Zn P1 1 [(0, [], .pointer t_), (1, [], .pointer x), (5, [], pv_ b_), (21, [], .pointer (some ⟨b_, 3, none⟩))] ?_
     obtain ⟨v22, hc, h⟩ := h
     refine Zl 23 21 b_ 3 23 22 hc ?_
     refine Zn [] 2 [(0, [], .pointer t_), (1, [], .pointer x), (5, [], pv_ b_), (22, [], sv_ v22)] ?_
     refine Zm 42 #[sv_ v22] (some 23) (Calls.mono h ?_)
     rintro _ w2 ⟨v23, rfl, h⟩
     refine ⟨_, rfl, ?_⟩
     refine Zf P1 [(0, .pointer t_), (1, .pointer x), (5, pv_ b_), (7, sv_ v23)] ?_
     change WpE _ _ c38_15 _ _ _
     refine Zt r38_16 c38_18 ?_
     refine Zn P2 2 [(1, [], .pointer x), (5, [], pv_ b_), (7, [], sv_ v23), (24, [], .pointer t_), (25, [], .pointer (some ⟨b_, 1, none⟩))] ?_
     obtain ⟨v26, hc, h⟩ := h
     refine Zl 3 25 b_ 1 3 26 hc ?_
     refine Zn P1 4 [(1, [], .pointer x), (5, [], pv_ b_), (7, [], sv_ v23), (24, [], .pointer t_), (26, [], .int .i64 v26), (27, [], .pointer (some ⟨b_, 2, none⟩))] ?_
     obtain ⟨v28, hc, h⟩ := h
     refine Zl 3 27 b_ 2 3 28 hc ?_
     refine Zn P1 6 [(1, [], .pointer x), (5, [], pv_ b_), (7, [], sv_ v23), (24, [], .pointer t_), (26, [], .int .i64 v26), (28, [], .int .i64 v28), (29, [], sv_ v23)] ?_
     refine Zm 32 #[.pointer t_, .int .i64 v26, .int .i64 v28, sv_ v23] (some 30) (Calls.mono h ?_)
     rintro _ w3 ⟨v30, rfl, h⟩
     refine ⟨_, rfl, ?_⟩
     refine Zf P1 [(1, .pointer x), (5, pv_ b_), (7, sv_ v23), (8, .int .i64 v30)] ?_
     change WpE _ _ c38_18 _ _ _
     refine wpE_seq_cut (x := c38_19) (y := c38_21) (by kernel_rfl) (fun l w => ∃ (ok : Bool), l = [(7, sv_ v23), (9, Value.bool ok)] ∧ F_towpathlaw17_asks_k0 R v23 ok w) ?_ ?_
     · refine Zr r38_19 ?_
       refine Zn P3 3 [(5, [], pv_ b_), (7, [], sv_ v23), (31, [], .int .i64 v30), (32, [], .pointer x), (33, [], .pointer (some ⟨b_, 1, none⟩))] ?_
       obtain ⟨v34, hc, h⟩ := h
       refine Zl 3 33 b_ 1 3 34 hc ?_
       refine Zn P1 5 [(5, [], pv_ b_), (7, [], sv_ v23), (31, [], .int .i64 v30), (32, [], .pointer x), (34, [], .int .i64 v34), (35, [], .pointer (some ⟨b_, 2, none⟩))] ?_
       obtain ⟨v36, hc, h⟩ := h
       refine Zl 3 35 b_ 2 3 36 hc ?_
       refine Zn P1 7 [(5, [], pv_ b_), (7, [], sv_ v23), (31, [], .int .i64 v30), (32, [], .pointer x), (34, [], .int .i64 v34), (36, [], .int .i64 v36), (37, [], .pointer (some ⟨b_, 3, none⟩))] ?_
       obtain ⟨v38, hc, h⟩ := h
       refine Zl 23 37 b_ 3 23 38 hc ?_
       refine Zn [] 8 [(5, [], pv_ b_), (7, [], sv_ v23), (31, [], .int .i64 v30), (32, [], .pointer x), (34, [], .int .i64 v34), (36, [], .int .i64 v36), (38, [], sv_ v38)] ?_
       refine Zm 68 #[.pointer x, .int .i64 v34, .int .i64 v36, sv_ v38] (some 39) (Calls.mono h ?_)
       rintro _ w7 ⟨v39, rfl, h⟩
       refine ⟨_, rfl, ?_⟩
       refine Zn P4 13 [(7, [], sv_ v23), (41, [], .bool (v30 == v39)), (42, [(41, true)], sv_ v23), (43, [(41, true)], .pointer (some ⟨b_, 3, none⟩))] ?_
       refine reg_split 41 (v30 == v39) (by kernel_rfl) (fun hb => ?_) (fun hb => ?_)
       · replace h := h.1 hb
         refine Zn [] 13 [(7, [], sv_ v23), (41, [], .bool true), (42, [], sv_ v23), (43, [], .pointer (some ⟨b_, 3, none⟩))] ?_
         refine Zn [] 13 [(7, [], sv_ v23), (41, [], .bool true), (42, [], sv_ v23), (43, [], .pointer (some ⟨b_, 3, none⟩))] ?_
         obtain ⟨v44, hc, h⟩ := h
         refine Zl 23 43 b_ 3 23 44 hc ?_
         refine Zn [] 14 [(7, [], sv_ v23), (41, [], .bool true), (42, [], sv_ v23), (44, [], sv_ v44)] ?_
         refine Zm 44 #[sv_ v23, sv_ v44] (some 45) (Calls.mono h ?_)
         rintro _ w8 ⟨v45, rfl, h⟩
         refine ⟨_, rfl, ?_⟩
         refine Zf P2 [(7, sv_ v23), (9, .bool v45)] ?_
         exact ⟨[(7, sv_ v23), (9, Value.bool v45)], Sub.mk (by kernel_rfl), v45, rfl, h⟩
       · replace h := h.2 hb
         refine Zn [] 13 [(7, [], sv_ v23), (41, [], .bool false), (42, [], undef), (43, [], undef)] ?_
         refine Zf [.skip, .skip, .plain, .plain] [(7, sv_ v23), (9, .bool false)] ?_
         exact ⟨[(7, sv_ v23), (9, Value.bool false)], Sub.mk (by kernel_rfl), false, rfl, h⟩
     · rintro _ w4 ⟨ok, rfl, h⟩
       unfold F_towpathlaw17_asks_k0 at h
       refine Zs c38_22 c38_40 ?_
       refine Zp c38_25 P1 [(7, sv_ v23), (9, .bool ok), (10, .int .i64 0)] ?_
       refine Zb 1 c38_26 ?_
       obtain ⟨I, μ, h0, hr⟩ := h
       refine wpE_loop (x := c38_27) (by kernel_rfl) (fun m l w => ∃ (i : Int), l = [(7, sv_ v23), (9, Value.bool ok), (10, Value.int .i64 i)] ∧ I i w ∧ μ i w = m) (l' := [(7, sv_ v23), (9, Value.bool ok), (10, Value.int .i64 0)]) (Sub.mk (by kernel_rfl)) ⟨0, rfl, h0, rfl⟩ ?_
       rintro _ _ w5 ⟨i, rfl, hI, rfl⟩
       obtain ⟨again_, again__h, h⟩ : ∃ again_ : Int → World → Prop, (∀ i' w', again_ i' w' → I i' w' ∧ μ i' w' < μ i w5) ∧ F_towpathlaw17_asks_L1 R v23 ok again_ i w5 := ⟨_, fun _ _ h => h, hr i w5 hI⟩
       clear h0 hI
       unfold F_towpathlaw17_asks_L1 at h
       refine Zs c38_28 c38_34 ?_
       refine Zp c38_31 P4 [(7, sv_ v23), (9, .bool ok), (10, .int .i64 i), (50, .bool (decide (i < ((v23.len : Nat) : Int))))] ?_
       refine Zc 50 (decide (i < ((v23.len : Nat) : Int))) c38_32 c38_33 (fun hb => ?_) (fun hb => ?_)
       · replace h := h.1 hb
         refine wpE_skip (by kernel_rfl) ?_
         change WpE _ _ c38_34 _ _ _
         refine Zs c38_35 c38_38 ?_
         refine Zb 2 c38_36 ?_
         refine Zr r38_36 ?_
         refine Zn P2 2 [(7, [], sv_ v23), (9, [], .bool ok), (10, [], .int .i64 i), (53, [], sv_ v23), (54, [], .int .i64 i)] ?_
         obtain ⟨hp_79, h⟩ := h
         refine Zv (fun pp => [(7, [], sv_ v23), (9, [], .bool ok), (10, [], .int .i64 i), (53, [], .slice pp v23.len v23.cap), (54, [], .int .i64 i)]) hp_79 ?_
         obtain ⟨h0, h1, h⟩ := h
         refine Zi 23 3 53 54 (pblk v23.ptr) (poff v23.ptr) v23.len v23.cap i 55 0 h0 h1 ?_
         refine Zn [] 3 [(7, [], sv_ v23), (9, [], .bool ok), (10, [], .int .i64 i), (55, [], .pointer (some ⟨(pblk v23.ptr), (poff v23.ptr) + i.toNat, none⟩))] ?_
         obtain ⟨hc, h⟩ := h
         refine reg_store (t := 3) (a := (Operand.tmp 55)) (x := (Operand.const (Value.int Go.IntKind.i64 (-77)))) (b := (pblk v23.ptr)) (o := ((poff v23.ptr) + i.toNat)) (ty := 0) (dst := none) [Value.int .i64 (-77)] (by kernel_rfl) (by kernel_rfl) (by kernel_rfl) (k := 1) (by kernel_rfl) (by kernel_rfl) (by kernel_rfl) hc (fun w6 hw => ?_)
         replace h := h w6 hw
         clear hw
         refine Ze [(7, sv_ v23), (9, .bool ok), (10, .int .i64 i)] ?_
         change WpE _ _ c38_38 _ _ _
         refine Zr r38_38 ?_
         refine Zf P3 [(7, sv_ v23), (9, .bool ok), (10, .int .i64 (IntKind.i64.wrap (i + 1)))] ?_
         have hb_ := again__h _ _ h
         exact ⟨_, hb_.2, [(7, sv_ v23), (9, Value.bool ok), (10, Value.int .i64 (IntKind.i64.wrap (i + 1)))], Sub.mk (by kernel_rfl), (IntKind.i64.wrap (i + 1)), rfl, hb_.1, rfl⟩
       · replace h := h.2 hb
         refine wpE_exit (id := 1) (by kernel_rfl) ?_
         change WpE _ _ c38_40 _ _ _
         refine Zp c38_43 P2 [(6, .bool ok)] ?_
         refine wpE_ret (by kernel_rfl) ?_
         repeat (first | refine seqQ_ret ?_ | refine blockQ_ret ?_ | refine loopQ_ret ?_ | refine cutQ_ret ?_)
         exact retS (rs := [(ResultVar.tmp 6)]) (v := Value.bool ok) (by kernel_rfl) (⟨by kernel_rfl, trivial⟩) ⟨ok, rfl, h⟩
   · replace h := h.2 hb
     refine Zp c38_47 P2 [(0, .pointer t_), (1, .pointer x), (5, pv_ b_), (57, .bool (v18 == 2))] ?_
     refine Zc 57 (v18 == 2) c38_48 c38_118 (fun hb => ?_) (fun hb => ?_)
     · replace h := h.1 hb
       refine Zt r38_49 c38_51 ?_
       refine Zn P1 1 [(0, [], .pointer t_), (1, [], .pointer x), (5, [], pv_ b_), (59, [], .pointer (some ⟨b_, 4, none⟩))] ?_
       obtain ⟨v60, hc, h⟩ := h
       refine reg_loadN (t := 95) (a := (Operand.tmp 59)) (b := b_) (o := 4) (ty := 95) (dst := some 60) [Value.int .i64 v60.To, Value.bool v60.OK, sv_ v60.Entries, sv_ v60.Held, Value.int .i64 v60.Count] (by kernel_rfl) (by kernel_rfl) (by kernel_rfl) (k := 5) (by kernel_rfl) (by kernel_rfl) hc ?_
       refine Zn [] 2 [(0, [], .pointer t_), (1, [], .pointer x), (5, [], pv_ b_), (60, [], .agg #[.int .i64 v60.To, .bool v60.OK, sv_ v60.Entries, sv_ v60.Held, .int .i64 v60.Count])] ?_
       refine Zm 69 #[.agg #[.int .i64 v60.To, .bool v60.OK, sv_ v60.Entries, sv_ v60.Held, .int .i64 v60.Count]] (some 61) (Calls.mono h ?_)
       rintro _ w9 ⟨v61, rfl, h⟩
       refine ⟨_, rfl, ?_⟩
       refine Zn [] 3 [(0, [], .pointer t_), (1, [], .pointer x), (5, [], pv_ b_), (61, [], .agg #[.int .i64 v61.To, .bool v61.OK, sv_ v61.Entries, sv_ v61.Held, .int .i64 v61.Count])] ?_
       refine Zw (some 11) (fun bb => pv_ bb) (Obj.cells ([.int .i64 0, .bool false, .slice none 0 0, .slice none 0 0, .int .i64 0]).toArray ty_api_Resp (0, 0)) (fun b_1 w10 hb hw => ?_)
       replace h := h b_1 w10 hb hw
       clear hb hw
       refine Zn [] 4 [(0, [], .pointer t_), (1, [], .pointer x), (5, [], pv_ b_), (11, [], pv_ b_1), (61, [], .agg #[.int .i64 v61.To, .bool v61.OK, sv_ v61.Entries, sv_ v61.Held, .int .i64 v61.Count])] ?_
       obtain ⟨hc, h⟩ := h
       refine Zo 95 11 61 b_1 0 5 [.int .i64 v61.To, .bool v61.OK, sv_ v61.Entries, sv_ v61.Held, .int .i64 v61.Count] hc (fun w11 hw => ?_)
       replace h := h w11 hw
       clear hw
       refine Ze [(0, .pointer t_), (1, .pointer x), (5, pv_ b_), (11, pv_ b_1)] ?_
       change WpE _ _ c38_51 _ _ _
       refine Zt r38_52 c38_54 ?_
       refine Zn P1 1 [(1, [], .pointer x), (5, [], pv_ b_), (11, [], pv_ b_1), (62, [], .pointer t_)] ?_
       obtain ⟨v63, hc, h⟩ := h
       refine reg_loadN (t := 95) (a := (Operand.tmp 11)) (b := b_1) (o := 0) (ty := 95) (dst := some 63) [Value.int .i64 v63.To, Value.bool v63.OK, sv_ v63.Entries, sv_ v63.Held, Value.int .i64 v63.Count] (by kernel_rfl) (by kernel_rfl) (by kernel_rfl) (k := 5) (by kernel_rfl) (by kernel_rfl) hc ?_
       refine Zn [] 2 [(1, [], .pointer x), (5, [], pv_ b_), (11, [], pv_ b_1), (62, [], .pointer t_), (63, [], .agg #[.int .i64 v63.To, .bool v63.OK, sv_ v63.Entries, sv_ v63.Held, .int .i64 v63.Count])] ?_
       refine Zm 60 #[.pointer t_, .agg #[.int .i64 v63.To, .bool v63.OK, sv_ v63.Entries, sv_ v63.Held, .int .i64 v63.Count]] (some 64) (Calls.mono h ?_)
       rintro _ w12 ⟨v64, rfl, h⟩
       refine ⟨_, rfl, ?_⟩
       refine Zf P1 [(1, .pointer x), (5, pv_ b_), (11, pv_ b_1), (12, .int .i64 v64)] ?_
       change WpE _ _ c38_54 _ _ _
       refine wpE_seq_cut (x := c38_55) (y := c38_57) (by kernel_rfl) (fun l w => ∃ (ok1 : Bool), l = [(11, pv_ b_1), (13, Value.bool ok1)] ∧ F_towpathlaw17_asks_k2 R b_1 ok1 w) ?_ ?_
       · refine Zr r38_55 ?_
         refine Zn P3 3 [(5, [], pv_ b_), (11, [], pv_ b_1), (65, [], .int .i64 v64), (66, [], .pointer x), (67, [], .pointer (some ⟨b_, 4, none⟩))] ?_
         obtain ⟨v68, hc, h⟩ := h
         refine reg_loadN (t := 95) (a := (Operand.tmp 67)) (b := b_) (o := 4) (ty := 95) (dst := some 68) [Value.int .i64 v68.To, Value.bool v68.OK, sv_ v68.Entries, sv_ v68.Held, Value.int .i64 v68.Count] (by kernel_rfl) (by kernel_rfl) (by kernel_rfl) (k := 5) (by kernel_rfl) (by kernel_rfl) hc ?_
         refine Zn [] 4 [(5, [], pv_ b_), (11, [], pv_ b_1), (65, [], .int .i64 v64), (66, [], .pointer x), (68, [], .agg #[.int .i64 v68.To, .bool v68.OK, sv_ v68.Entries, sv_ v68.Held, .int .i64 v68.Count])] ?_
         refine Zm 70 #[.pointer x, .agg #[.int .i64 v68.To, .bool v68.OK, sv_ v68.Entries, sv_ v68.Held, .int .i64 v68.Count]] (some 69) (Calls.mono h ?_)
         rintro _ w20 ⟨v69, rfl, h⟩
         refine ⟨_, rfl, ?_⟩
         refine Zn P2 7 [(5, [], pv_ b_), (11, [], pv_ b_1), (71, [], .bool (v64 == v69))] ?_
         refine reg_split 71 (v64 == v69) (by kernel_rfl) (fun hb => ?_) (fun hb => ?_)
         · replace h := h.1 hb
           refine Zn [] 7 [(5, [], pv_ b_), (11, [], pv_ b_1), (71, [], .bool true)] ?_
           refine Zn [] 7 [(5, [], pv_ b_), (11, [], pv_ b_1), (71, [], .bool true)] ?_
           obtain ⟨v72, hc, h⟩ := h
           refine reg_loadN (t := 95) (a := (Operand.tmp 11)) (b := b_1) (o := 0) (ty := 95) (dst := some 72) [Value.int .i64 v72.To, Value.bool v72.OK, sv_ v72.Entries, sv_ v72.Held, Value.int .i64 v72.Count] (by kernel_rfl) (by kernel_rfl) (by kernel_rfl) (k := 5) (by kernel_rfl) (by kernel_rfl) hc ?_
           refine Zn [.sure] 9 [(11, [], pv_ b_1), (71, [], .bool true), (72, [], .agg #[.int .i64 v72.To, .bool v72.OK, sv_ v72.Entries, sv_ v72.Held, .int .i64 v72.Count]), (73, [], .pointer (some ⟨b_, 4, none⟩))] ?_
           obtain ⟨v74, hc, h⟩ := h
           refine reg_loadN (t := 95) (a := (Operand.tmp 73)) (b := b_) (o := 4) (ty := 95) (dst := some 74) [Value.int .i64 v74.To, Value.bool v74.OK, sv_ v74.Entries, sv_ v74.Held, Value.int .i64 v74.Count] (by kernel_rfl) (by kernel_rfl) (by kernel_rfl) (k := 5) (by kernel_rfl) (by kernel_rfl) hc ?_
           refine Zn [] 10 [(11, [], pv_ b_1), (71, [], .bool true), (72, [], .agg #[.int .i64 v72.To, .bool v72.OK, sv_ v72.Entries, sv_ v72.Held, .int .i64 v72.Count]), (74, [], .agg #[.int .i64 v74.To, .bool v74.OK, sv_ v74.Entries, sv_ v74.Held, .int .i64 v74.Count])] ?_
           refine Zm 71 #[.agg #[.int .i64 v72.To, .bool v72.OK, sv_ v72.Entries, sv_ v72.Held, .int .i64 v72.Count], .agg #[.int .i64 v74.To, .bool v74.OK, sv_ v74.Entries, sv_ v74.Held, .int .i64 v74.Count]] (some 75) (Calls.mono h ?_)
           rintro _ w21 ⟨v75, rfl, h⟩
           refine ⟨_, rfl, ?_⟩
           refine Zf P2 [(11, pv_ b_1), (13, .bool v75)] ?_
           exact ⟨[(11, pv_ b_1), (13, Value.bool v75)], Sub.mk (by kernel_rfl), v75, rfl, h⟩
         · replace h := h.2 hb
           refine Zn [] 7 [(5, [], pv_ b_), (11, [], pv_ b_1), (71, [], .bool false)] ?_
           refine Zf [.skip, .skip, .skip, .skip, .plain, .plain] [(11, pv_ b_1), (13, .bool false)] ?_
           exact ⟨[(11, pv_ b_1), (13, Value.bool false)], Sub.mk (by kernel_rfl), false, rfl, h⟩
       · rintro _ w13 ⟨ok1, rfl, h⟩
         unfold F_towpathlaw17_asks_k2 at h
         refine Zs c38_58 c38_76 ?_
         refine Zp c38_61 P1 [(11, pv_ b_1), (13, .bool ok1), (14, .int .i64 0)] ?_
         refine Zb 3 c38_62 ?_
         obtain ⟨I, μ, h0, hr⟩ := h
         refine wpE_loop (x := c38_63) (by kernel_rfl) (fun m l w => ∃ (i1 : Int), l = [(11, pv_ b_1), (13, Value.bool ok1), (14, Value.int .i64 i1)] ∧ I i1 w ∧ μ i1 w = m) (l' := [(11, pv_ b_1), (13, Value.bool ok1), (14, Value.int .i64 0)]) (Sub.mk (by kernel_rfl)) ⟨0, rfl, h0, rfl⟩ ?_
         rintro _ _ w14 ⟨i1, rfl, hI, rfl⟩
         obtain ⟨again_1, again_1_h, h⟩ : ∃ again_1 : Int → World → Prop, (∀ i1' w', again_1 i1' w' → I i1' w' ∧ μ i1' w' < μ i1 w14) ∧ F_towpathlaw17_asks_L3 R b_1 ok1 again_1 i1 w14 := ⟨_, fun _ _ h => h, hr i1 w14 hI⟩
         clear h0 hI
         unfold F_towpathlaw17_asks_L3 at h
         refine Zs c38_64 c38_70 ?_
         refine Zt r38_65 c38_67 ?_
         refine Zn P2 2 [(11, [], pv_ b_1), (13, [], .bool ok1), (14, [], .int .i64 i1), (77, [], .int .i64 i1), (78, [], .pointer (some ⟨b_1, 2, none⟩))] ?_
         obtain ⟨v79, hc, h⟩ := h
         refine Zl 92 78 b_1 2 92 79 hc ?_
         refine Zf P2 [(11, pv_ b_1), (13, .bool ok1), (14, .int .i64 i1), (81, .bool (decide (i1 < ((v79.len : Nat) : Int))))] ?_
         change WpE _ _ c38_67 _ _ _
         refine Zc 81 (decide (i1 < ((v79.len : Nat) : Int))) c38_68 c38_69 (fun hb => ?_) (fun hb => ?_)
         · replace h := h.1 hb
           refine wpE_skip (by kernel_rfl) ?_
           change WpE _ _ c38_70 _ _ _
           refine Zs c38_71 c38_74 ?_
           refine Zb 4 c38_72 ?_
           refine Zr r38_72 ?_
           refine Zn P1 1 [(11, [], pv_ b_1), (13, [], .bool ok1), (14, [], .int .i64 i1), (84, [], .pointer (some ⟨b_1, 2, none⟩))] ?_
           obtain ⟨v85, hc, h⟩ := h
           refine Zl 92 84 b_1 2 92 85 hc ?_
           refine Zn P2 4 [(11, [], pv_ b_1), (13, [], .bool ok1), (14, [], .int .i64 i1), (85, [], sv_ v85), (86, [], .int .i64 i1), (87, [], .agg #[.string (ByteArray.mk #[115, 112, 111, 105, 108, 116]), .string ByteArray.empty])] ?_
           obtain ⟨hp_83, h⟩ := h
           refine Zv (fun pp => [(11, [], pv_ b_1), (13, [], .bool ok1), (14, [], .int .i64 i1), (85, [], .slice pp v85.len v85.cap), (86, [], .int .i64 i1), (87, [], .agg #[.string (ByteArray.mk #[115, 112, 111, 105, 108, 116]), .string ByteArray.empty])]) hp_83 ?_
           obtain ⟨h0, h1, h⟩ := h
           refine Zj 92 140 85 86 (pblk v85.ptr) (poff v85.ptr) v85.len v85.cap i1 2 88 0 h0 h1 ?_
           refine Zn [] 5 [(11, [], pv_ b_1), (13, [], .bool ok1), (14, [], .int .i64 i1), (87, [], .agg #[.string (ByteArray.mk #[115, 112, 111, 105, 108, 116]), .string ByteArray.empty]), (88, [], .pointer (some ⟨(pblk v85.ptr), (poff v85.ptr) + i1.toNat * 2, none⟩))] ?_
           obtain ⟨hc, h⟩ := h
           refine Zo 140 88 87 (pblk v85.ptr) ((poff v85.ptr) + i1.toNat * 2) 2 [.string (ByteArray.mk #[115, 112, 111, 105, 108, 116]), .string ByteArray.empty] hc (fun w15 hw => ?_)
           replace h := h w15 hw
           clear hw
           refine Ze [(11, pv_ b_1), (13, .bool ok1), (14, .int .i64 i1)] ?_
           change WpE _ _ c38_74 _ _ _
           refine Zr r38_74 ?_
           refine Zf P3 [(11, pv_ b_1), (13, .bool ok1), (14, .int .i64 (IntKind.i64.wrap (i1 + 1)))] ?_
           have hb_ := again_1_h _ _ h
           exact ⟨_, hb_.2, [(11, pv_ b_1), (13, Value.bool ok1), (14, Value.int .i64 (IntKind.i64.wrap (i1 + 1)))], Sub.mk (by kernel_rfl), (IntKind.i64.wrap (i1 + 1)), rfl, hb_.1, rfl⟩
         · replace h := h.2 hb
           refine wpE_exit (id := 3) (by kernel_rfl) ?_
           change WpE _ _ c38_76 _ _ _
           refine Zs c38_77 c38_114 ?_
           refine Zp c38_80 P1 [(11, pv_ b_1), (13, .bool ok1), (15, .int .i64 0)] ?_
           refine Zb 5 c38_81 ?_
           obtain ⟨I, μ, h0, hr⟩ := h
           refine wpE_loop (x := c38_82) (by kernel_rfl) (fun m l w => ∃ (i2 : Int), l = [(11, pv_ b_1), (13, Value.bool ok1), (15, Value.int .i64 i2)] ∧ I i2 w ∧ μ i2 w = m) (l' := [(11, pv_ b_1), (13, Value.bool ok1), (15, Value.int .i64 0)]) (Sub.mk (by kernel_rfl)) ⟨0, rfl, h0, rfl⟩ ?_
           rintro _ _ w16 ⟨i2, rfl, hI, rfl⟩
           obtain ⟨again_2, again_2_h, h⟩ : ∃ again_2 : Int → World → Prop, (∀ i2' w', again_2 i2' w' → I i2' w' ∧ μ i2' w' < μ i2 w16) ∧ F_towpathlaw17_asks_L4 R b_1 ok1 again_2 i2 w16 := ⟨_, fun _ _ h => h, hr i2 w16 hI⟩
           clear h0 hI
           unfold F_towpathlaw17_asks_L4 at h
           refine Zs c38_83 c38_89 ?_
           refine Zt r38_84 c38_86 ?_
           refine Zn P2 2 [(11, [], pv_ b_1), (13, [], .bool ok1), (15, [], .int .i64 i2), (89, [], .int .i64 i2), (90, [], .pointer (some ⟨b_1, 3, none⟩))] ?_
           obtain ⟨v91, hc, h⟩ := h
           refine Zl 93 90 b_1 3 93 91 hc ?_
           refine Zf P2 [(11, pv_ b_1), (13, .bool ok1), (15, .int .i64 i2), (93, .bool (decide (i2 < ((v91.len : Nat) : Int))))] ?_
           change WpE _ _ c38_86 _ _ _
           refine Zc 93 (decide (i2 < ((v91.len : Nat) : Int))) c38_87 c38_88 (fun hb => ?_) (fun hb => ?_)
           · replace h := h.1 hb
             refine wpE_skip (by kernel_rfl) ?_
             change WpE _ _ c38_89 _ _ _
             refine Zs c38_90 c38_112 ?_
             refine Zb 6 c38_91 ?_
             refine Zs c38_92 c38_110 ?_
             refine Zp c38_95 P1 [(11, pv_ b_1), (13, .bool ok1), (15, .int .i64 i2), (16, .int .i64 0)] ?_
             refine Zb 7 c38_96 ?_
             obtain ⟨I, μ, h0, hr⟩ := h
             refine wpE_loop (x := c38_97) (by kernel_rfl) (fun m l w => ∃ (k_ : Int), l = [(11, pv_ b_1), (13, Value.bool ok1), (15, Value.int .i64 i2), (16, Value.int .i64 k_)] ∧ I k_ w ∧ μ k_ w = m) (l' := [(11, pv_ b_1), (13, Value.bool ok1), (15, Value.int .i64 i2), (16, Value.int .i64 0)]) (Sub.mk (by kernel_rfl)) ⟨0, rfl, h0, rfl⟩ ?_
             rintro _ _ w17 ⟨k_, rfl, hI, rfl⟩
             obtain ⟨again_3, again_3_h, h⟩ : ∃ again_3 : Int → World → Prop, (∀ k_' w', again_3 k_' w' → I k_' w' ∧ μ k_' w' < μ k_ w17) ∧ F_towpathlaw17_asks_L5 b_1 i2 again_2 again_3 k_ w17 := ⟨_, fun _ _ h => h, hr k_ w17 hI⟩
             clear h0 hI
             unfold F_towpathlaw17_asks_L5 at h
             refine Zs c38_98 c38_104 ?_
             refine Zt r38_99 c38_101 ?_
             refine Zn P2 2 [(11, [], pv_ b_1), (13, [], .bool ok1), (15, [], .int .i64 i2), (16, [], .int .i64 k_), (96, [], .int .i64 k_), (97, [], .pointer (some ⟨b_1, 3, none⟩))] ?_
             obtain ⟨v98, hc, h⟩ := h
             refine Zl 93 97 b_1 3 93 98 hc ?_
             refine Zn P1 4 [(11, [], pv_ b_1), (13, [], .bool ok1), (15, [], .int .i64 i2), (16, [], .int .i64 k_), (96, [], .int .i64 k_), (98, [], sv_ v98), (99, [], .int .i64 i2)] ?_
             obtain ⟨hp_146, h⟩ := h
             refine Zv (fun pp => [(11, [], pv_ b_1), (13, [], .bool ok1), (15, [], .int .i64 i2), (16, [], .int .i64 k_), (96, [], .int .i64 k_), (98, [], .slice pp v98.len v98.cap), (99, [], .int .i64 i2)]) hp_146 ?_
             obtain ⟨h0, h1, h⟩ := h
             refine Zj 93 143 98 99 (pblk v98.ptr) (poff v98.ptr) v98.len v98.cap i2 2 100 0 h0 h1 ?_
             refine Zn P1 6 [(11, [], pv_ b_1), (13, [], .bool ok1), (15, [], .int .i64 i2), (16, [], .int .i64 k_), (96, [], .int .i64 k_), (101, [], .pointer (some ⟨(pblk v98.ptr), ((poff v98.ptr) + i2.toNat * 2) + 1, none⟩))] ?_
             obtain ⟨v102, hc, h⟩ := h
             refine Zl 141 101 (pblk v98.ptr) (((poff v98.ptr) + i2.toNat * 2) + 1) 141 102 hc ?_
             refine Zf P2 [(11, pv_ b_1), (13, .bool ok1), (15, .int .i64 i2), (16, .int .i64 k_), (104, .bool (decide (k_ < ((v102.len : Nat) : Int))))] ?_
             change WpE _ _ c38_101 _ _ _
             refine Zc 104 (decide (k_ < ((v102.len : Nat) : Int))) c38_102 c38_103 (fun hb => ?_) (fun hb => ?_)
             · replace h := h.1 hb
               refine wpE_skip (by kernel_rfl) ?_
               change WpE _ _ c38_104 _ _ _
               refine Zs c38_105 c38_108 ?_
               refine Zb 8 c38_106 ?_
               refine Zr r38_106 ?_
               refine Zn P1 1 [(11, [], pv_ b_1), (13, [], .bool ok1), (15, [], .int .i64 i2), (16, [], .int .i64 k_), (107, [], .pointer (some ⟨b_1, 3, none⟩))] ?_
               obtain ⟨v108, hc, h⟩ := h
               refine Zl 93 107 b_1 3 93 108 hc ?_
               refine Zn P1 3 [(11, [], pv_ b_1), (13, [], .bool ok1), (15, [], .int .i64 i2), (16, [], .int .i64 k_), (108, [], sv_ v108), (109, [], .int .i64 i2)] ?_
               obtain ⟨hp_149, h⟩ := h
               refine Zv (fun pp => [(11, [], pv_ b_1), (13, [], .bool ok1), (15, [], .int .i64 i2), (16, [], .int .i64 k_), (108, [], .slice pp v108.len v108.cap), (109, [], .int .i64 i2)]) hp_149 ?_
               obtain ⟨h0, h1, h⟩ := h
               refine Zj 93 143 108 109 (pblk v108.ptr) (poff v108.ptr) v108.len v108.cap i2 2 110 0 h0 h1 ?_
               refine Zn P1 5 [(11, [], pv_ b_1), (13, [], .bool ok1), (15, [], .int .i64 i2), (16, [], .int .i64 k_), (111, [], .pointer (some ⟨(pblk v108.ptr), ((poff v108.ptr) + i2.toNat * 2) + 1, none⟩))] ?_
               obtain ⟨v112, hc, h⟩ := h
               refine Zl 141 111 (pblk v108.ptr) (((poff v108.ptr) + i2.toNat * 2) + 1) 141 112 hc ?_
               refine Zn P2 8 [(11, [], pv_ b_1), (13, [], .bool ok1), (15, [], .int .i64 i2), (16, [], .int .i64 k_), (112, [], sv_ v112), (113, [], .int .i64 k_), (114, [], .agg #[.int .i64 (-77), .string ByteArray.empty, .bool false])] ?_
               obtain ⟨hp_150, h⟩ := h
               refine Zv (fun pp => [(11, [], pv_ b_1), (13, [], .bool ok1), (15, [], .int .i64 i2), (16, [], .int .i64 k_), (112, [], .slice pp v112.len v112.cap), (113, [], .int .i64 k_), (114, [], .agg #[.int .i64 (-77), .string ByteArray.empty, .bool false])]) hp_150 ?_
               obtain ⟨h0, h1, h⟩ := h
               refine Zj 141 145 112 113 (pblk v112.ptr) (poff v112.ptr) v112.len v112.cap k_ 3 115 0 h0 h1 ?_
               refine Zn [] 9 [(11, [], pv_ b_1), (13, [], .bool ok1), (15, [], .int .i64 i2), (16, [], .int .i64 k_), (114, [], .agg #[.int .i64 (-77), .string ByteArray.empty, .bool false]), (115, [], .pointer (some ⟨(pblk v112.ptr), (poff v112.ptr) + k_.toNat * 3, none⟩))] ?_
               obtain ⟨hc, h⟩ := h
               refine Zo 145 115 114 (pblk v112.ptr) ((poff v112.ptr) + k_.toNat * 3) 3 [.int .i64 (-77), .string ByteArray.empty, .bool false] hc (fun w18 hw => ?_)
               replace h := h w18 hw
               clear hw
               refine Ze [(11, pv_ b_1), (13, .bool ok1), (15, .int .i64 i2), (16, .int .i64 k_)] ?_
               change WpE _ _ c38_108 _ _ _
               refine Zr r38_108 ?_
               refine Zf P3 [(11, pv_ b_1), (13, .bool ok1), (15, .int .i64 i2), (16, .int .i64 (IntKind.i64.wrap (k_ + 1)))] ?_
               have hb_ := again_3_h _ _ h
               exact ⟨_, hb_.2, [(11, pv_ b_1), (13, Value.bool ok1), (15, Value.int .i64 i2), (16, Value.int .i64 (IntKind.i64.wrap (k_ + 1)))], Sub.mk (by kernel_rfl), (IntKind.i64.wrap (k_ + 1)), rfl, hb_.1, rfl⟩
             · replace h := h.2 hb
               refine wpE_exit (id := 7) (by kernel_rfl) ?_
               change WpE _ _ c38_110 _ _ _
               refine Zr r38_110 ?_
               refine Zn P1 1 [(11, [], pv_ b_1), (13, [], .bool ok1), (15, [], .int .i64 i2), (116, [], .pointer (some ⟨b_1, 3, none⟩))] ?_
               obtain ⟨v117, hc, h⟩ := h
               refine Zl 93 116 b_1 3 93 117 hc ?_
               refine Zn P2 4 [(11, [], pv_ b_1), (13, [], .bool ok1), (15, [], .int .i64 i2), (117, [], sv_ v117), (118, [], .int .i64 i2), (119, [], .agg #[.string ByteArray.empty, .slice none 0 0])] ?_
               obtain ⟨hp_151, h⟩ := h
               refine Zv (fun pp => [(11, [], pv_ b_1), (13, [], .bool ok1), (15, [], .int .i64 i2), (117, [], .slice pp v117.len v117.cap), (118, [], .int .i64 i2), (119, [], .agg #[.string ByteArray.empty, .slice none 0 0])]) hp_151 ?_
               obtain ⟨h0, h1, h⟩ := h
               refine Zj 93 143 117 118 (pblk v117.ptr) (poff v117.ptr) v117.len v117.cap i2 2 120 0 h0 h1 ?_
               refine Zn [] 5 [(11, [], pv_ b_1), (13, [], .bool ok1), (15, [], .int .i64 i2), (119, [], .agg #[.string ByteArray.empty, .slice none 0 0]), (120, [], .pointer (some ⟨(pblk v117.ptr), (poff v117.ptr) + i2.toNat * 2, none⟩))] ?_
               obtain ⟨hc, h⟩ := h
               refine Zo 143 120 119 (pblk v117.ptr) ((poff v117.ptr) + i2.toNat * 2) 2 [.string ByteArray.empty, .slice none 0 0] hc (fun w19 hw => ?_)
               replace h := h w19 hw
               clear hw
               refine Ze [(11, pv_ b_1), (13, .bool ok1), (15, .int .i64 i2)] ?_
               change WpE _ _ c38_112 _ _ _
               refine Zr r38_112 ?_
               refine Zf P3 [(11, pv_ b_1), (13, .bool ok1), (15, .int .i64 (IntKind.i64.wrap (i2 + 1)))] ?_
               have hb_ := again_2_h _ _ h
               exact ⟨_, hb_.2, [(11, pv_ b_1), (13, Value.bool ok1), (15, Value.int .i64 (IntKind.i64.wrap (i2 + 1)))], Sub.mk (by kernel_rfl), (IntKind.i64.wrap (i2 + 1)), rfl, hb_.1, rfl⟩
           · replace h := h.2 hb
             refine wpE_exit (id := 5) (by kernel_rfl) ?_
             change WpE _ _ c38_114 _ _ _
             refine Zp c38_117 P2 [(6, .bool ok1)] ?_
             refine wpE_ret (by kernel_rfl) ?_
             repeat (first | refine seqQ_ret ?_ | refine blockQ_ret ?_ | refine loopQ_ret ?_ | refine cutQ_ret ?_)
             exact retS (rs := [(ResultVar.tmp 6)]) (v := Value.bool ok1) (by kernel_rfl) (⟨by kernel_rfl, trivial⟩) ⟨ok1, rfl, h⟩
     · replace h := h.2 hb
       refine wpE_skip (by kernel_rfl) ?_
       change WpE _ _ c38_119 _ _ _
       refine Zt r38_120 c38_122 ?_
       refine Zn P1 1 [(1, [], .pointer x), (122, [], .pointer t_)] ?_
       refine Zm 36 #[.pointer t_] (some 123) (Calls.mono h ?_)
       rintro _ w22 ⟨v123, rfl, h⟩
       refine ⟨_, rfl, ?_⟩
       refine Zn P1 3 [(123, [], .int .i64 v123), (124, [], .pointer x)] ?_
       refine Zm 72 #[.pointer x] (some 125) (Calls.mono h ?_)
       rintro _ w23 ⟨v125, rfl, h⟩
       refine ⟨_, rfl, ?_⟩
       refine Zf P2 [(6, .bool (v123 == v125))] ?_
       change WpE _ _ c38_122 _ _ _
       refine wpE_ret (by kernel_rfl) ?_
       repeat (first | refine seqQ_ret ?_ | refine blockQ_ret ?_ | refine loopQ_ret ?_ | refine cutQ_ret ?_)
       exact retS (rs := [(ResultVar.tmp 6)]) (v := Value.bool (v123 == v125)) (by kernel_rfl) (⟨by kernel_rfl, trivial⟩) ⟨(v123 == v125), rfl, h⟩
 · rintro e w' ⟨v, rfl, r0, rfl, h⟩; exact ⟨r0, rfl, h⟩

/-! ### towpath/towpathlaw17.stands (function 39) -/
def c39_0 := cb_ Try.f39
def c39_3 := cr_ c39_0
def c39_4 := cl_ c39_3
def r39_4 := co_ c39_4
def c39_6 := cr_ c39_3
def c39_7 := cl_ c39_6
def r39_7 := co_ c39_7
def c39_9 := cr_ c39_6
def c39_10 := cl_ c39_9
def c39_11 := cl_ c39_10
def r39_11 := co_ c39_11
def c39_13 := cr_ c39_10
def c39_14 := cl_ c39_13
def c39_17 := cr_ c39_14
def c39_18 := cr_ c39_13
def c39_19 := cr_ c39_9
def c39_20 := cl_ c39_19
def r39_20 := co_ c39_20
def c39_22 := cr_ c39_19
def c39_23 := cl_ c39_22
def r39_23 := co_ c39_23
def c39_25 := cr_ c39_22
def c39_26 := cl_ c39_25
def r39_26 := co_ c39_26
def c39_28 := cr_ c39_25
def c39_29 := cl_ c39_28
def r39_29 := co_ c39_29
def c39_31 := cr_ c39_28
def c39_32 := cl_ c39_31
def r39_32 := co_ c39_32
def c39_34 := cr_ c39_31

theorem S_towpathlaw17_stands {t_ : Option Addr} {x : Option Addr} {w : World} {R : Bool → World → Prop} (h : F_towpathlaw17_stands t_ x R w) : C_towpathlaw17_stands t_ x w R := by
 unfold F_towpathlaw17_stands at h
 unfold C_towpathlaw17_stands
 refine Calls.mono (calls_of_wpE (args := [Value.pointer t_, Value.pointer x]) (R := fun v w' => ∃ (r0 : Bool), v = Value.bool r0 ∧ R r0 w') Try.func39 (c := c39_0) (by kernel_rfl) 99 (by kernel_rfl) (by kernel_rfl) [(0, Value.pointer t_), (1, Value.pointer x)] (by kernel_rfl) ?_) ?_
 · refine Zp c39_3 P1 [(0, .pointer t_), (1, .pointer x)] ?_
   refine Zt r39_4 c39_6 ?_
   refine Zn P1 1 [(0, [], .pointer t_), (1, [], .pointer x), (22, [], .pointer t_)] ?_
   refine Zm 33 #[.pointer t_] (some 23) (Calls.mono h ?_)
   rintro _ w1 ⟨n_, v23_1, ok, rfl, h⟩
   refine ⟨_, rfl, ?_⟩
   refine Zn P4 6 [(0, [], .pointer t_), (1, [], .pointer x), (24, [], .int .i64 n_), (25, [], .agg #[.int .u8 v23_1.Kind, .int .i64 v23_1.From, .int .i64 v23_1.Number, .string v23_1.Write.Key, .string v23_1.Write.Val, .bool v23_1.Write.Drop, .string v23_1.Key, .string v23_1.End, sv_ v23_1.Beyond]), (26, [], .bool ok)] ?_
   refine Zw (some 6) (fun bb => pv_ bb) (Obj.cells ([.int .u8 0, .int .i64 0, .int .i64 0, .string ByteArray.empty, .string ByteArray.empty, .bool false, .string ByteArray.empty, .string ByteArray.empty, .slice none 0 0]).toArray ty_api_Req (0, 0)) (fun b_ w2 hb hw => ?_)
   replace h := h b_ w2 hb hw
   clear hb hw
   refine Zn P1 8 [(0, [], .pointer t_), (1, [], .pointer x), (5, [], .int .i64 n_), (6, [], pv_ b_), (25, [], .agg #[.int .u8 v23_1.Kind, .int .i64 v23_1.From, .int .i64 v23_1.Number, .string v23_1.Write.Key, .string v23_1.Write.Val, .bool v23_1.Write.Drop, .string v23_1.Key, .string v23_1.End, sv_ v23_1.Beyond]), (26, [], .bool ok)] ?_
   obtain ⟨hc, h⟩ := h
   refine Zo 80 6 25 b_ 0 9 [.int .u8 v23_1.Kind, .int .i64 v23_1.From, .int .i64 v23_1.Number, .string v23_1.Write.Key, .string v23_1.Write.Val, .bool v23_1.Write.Drop, .string v23_1.Key, .string v23_1.End, sv_ v23_1.Beyond] hc (fun w3 hw => ?_)
   replace h := h w3 hw
   clear hw
   refine Zf P1 [(0, .pointer t_), (1, .pointer x), (5, .int .i64 n_), (6, pv_ b_), (7, .bool ok)] ?_
   change WpE _ _ c39_6 _ _ _
   refine Zt r39_7 c39_9 ?_
   refine Zn P1 1 [(0, [], .pointer t_), (1, [], .pointer x), (5, [], .int .i64 n_), (6, [], pv_ b_), (7, [], .bool ok), (28, [], .pointer x)] ?_
   refine Zm 73 #[.pointer x] (some 29) (Calls.mono h ?_)
   rintro _ w4 ⟨m_, v29_1, is, rfl, h⟩
   refine ⟨_, rfl, ?_⟩
   refine Zn P4 6 [(0, [], .pointer t_), (1, [], .pointer x), (5, [], .int .i64 n_), (6, [], pv_ b_), (7, [], .bool ok), (30, [], .int .i64 m_), (31, [], .agg #[.int .u8 v29_1.Kind, .int .i64 v29_1.From, .int .i64 v29_1.Number, .string v29_1.Write.Key, .string v29_1.Write.Val, .bool v29_1.Write.Drop, .string v29_1.Key, .string v29_1.End, sv_ v29_1.Beyond]), (32, [], .bool is)] ?_
   refine Zw (some 9) (fun bb => pv_ bb) (Obj.cells ([.int .u8 0, .int .i64 0, .int .i64 0, .string ByteArray.empty, .string ByteArray.empty, .bool false, .string ByteArray.empty, .string ByteArray.empty, .slice none 0 0]).toArray ty_api_Req (0, 0)) (fun b_1 w5 hb hw => ?_)
   replace h := h b_1 w5 hb hw
   clear hb hw
   refine Zn P1 8 [(0, [], .pointer t_), (1, [], .pointer x), (5, [], .int .i64 n_), (6, [], pv_ b_), (7, [], .bool ok), (8, [], .int .i64 m_), (9, [], pv_ b_1), (31, [], .agg #[.int .u8 v29_1.Kind, .int .i64 v29_1.From, .int .i64 v29_1.Number, .string v29_1.Write.Key, .string v29_1.Write.Val, .bool v29_1.Write.Drop, .string v29_1.Key, .string v29_1.End, sv_ v29_1.Beyond]), (32, [], .bool is)] ?_
   obtain ⟨hc, h⟩ := h
   refine Zo 80 9 31 b_1 0 9 [.int .u8 v29_1.Kind, .int .i64 v29_1.From, .int .i64 v29_1.Number, .string v29_1.Write.Key, .string v29_1.Write.Val, .bool v29_1.Write.Drop, .string v29_1.Key, .string v29_1.End, sv_ v29_1.Beyond] hc (fun w6 hw => ?_)
   replace h := h w6 hw
   clear hw
   refine Zf P1 [(0, .pointer t_), (1, .pointer x), (5, .int .i64 n_), (6, pv_ b_), (7, .bool ok), (8, .int .i64 m_), (9, pv_ b_1), (10, .bool is)] ?_
   change WpE _ _ c39_9 _ _ _
   refine Zs c39_10 c39_19 ?_
   refine wpE_seq_cut (x := c39_11) (y := c39_13) (by kernel_rfl) (fun l w => ∃ (t53 : Bool), l = [(0, Value.pointer t_), (1, Value.pointer x), (53, Value.bool t53)] ∧ F_towpathlaw17_stands_k0 t_ x R t53 w) ?_ ?_
   · refine Zr r39_11 ?_
     refine Zn [.plain, .plain, .plain, .plain, .plain, .plain, .plain, .pick, .plain] 9 [(0, [], .pointer t_), (1, [], .pointer x), (6, [], pv_ b_), (9, [], pv_ b_1), (41, [], .bool ((n_ != m_) || (!(ok == is))))] ?_
     refine reg_split 41 ((n_ != m_) || (!(ok == is))) (by kernel_rfl) (fun hb => ?_) (fun hb => ?_)
     · replace h := h.1 hb
       refine Zn [] 9 [(0, [], .pointer t_), (1, [], .pointer x), (6, [], pv_ b_), (9, [], pv_ b_1), (41, [], .bool true)] ?_
       refine Zf [.skip, .skip, .skip, .skip, .plain, .plain, .skip, .skip, .skip, .skip, .skip, .plain] [(0, .pointer t_), (1, .pointer x), (53, .bool true)] ?_
       exact ⟨[(0, Value.pointer t_), (1, Value.pointer x), (53, Value.bool true)], Sub.mk (by kernel_rfl), true, rfl, h⟩
     · replace h := h.2 hb
       refine Zn [] 9 [(0, [], .pointer t_), (1, [], .pointer x), (6, [], pv_ b_), (9, [], pv_ b_1), (41, [], .bool false)] ?_
       refine Zn [] 9 [(0, [], .pointer t_), (1, [], .pointer x), (6, [], pv_ b_), (9, [], pv_ b_1), (41, [], .bool false)] ?_
       obtain ⟨v42, hc, h⟩ := h
       refine reg_loadN (t := 80) (a := (Operand.tmp 6)) (b := b_) (o := 0) (ty := 80) (dst := some 42) [Value.int .u8 v42.Kind, Value.int .i64 v42.From, Value.int .i64 v42.Number, Value.string v42.Write.Key, Value.string v42.Write.Val, Value.bool v42.Write.Drop, Value.string v42.Key, Value.string v42.End, sv_ v42.Beyond] (by kernel_rfl) (by kernel_rfl) (by kernel_rfl) (k := 9) (by kernel_rfl) (by kernel_rfl) hc ?_
       refine Zn [] 10 [(0, [], .pointer t_), (1, [], .pointer x), (9, [], pv_ b_1), (41, [], .bool false), (42, [], .agg #[.int .u8 v42.Kind, .int .i64 v42.From, .int .i64 v42.Number, .string v42.Write.Key, .string v42.Write.Val, .bool v42.Write.Drop, .string v42.Key, .string v42.End, sv_ v42.Beyond])] ?_
       obtain ⟨v43, hc, h⟩ := h
       refine reg_loadN (t := 80) (a := (Operand.tmp 9)) (b := b_1) (o := 0) (ty := 80) (dst := some 43) [Value.int .u8 v43.Kind, Value.int .i64 v43.From, Value.int .i64 v43.Number, Value.string v43.Write.Key, Value.string v43.Write.Val, Value.bool v43.Write.Drop, Value.string v43.Key, Value.string v43.End, sv_ v43.Beyond] (by kernel_rfl) (by kernel_rfl) (by kernel_rfl) (k := 9) (by kernel_rfl) (by kernel_rfl) hc ?_
       refine Zn [] 11 [(0, [], .pointer t_), (1, [], .pointer x), (41, [], .bool false), (42, [], .agg #[.int .u8 v42.Kind, .int .i64 v42.From, .int .i64 v42.Number, .string v42.Write.Key, .string v42.Write.Val, .bool v42.Write.Drop, .string v42.Key, .string v42.End, sv_ v42.Beyond]), (43, [], .agg #[.int .u8 v43.Kind, .int .i64 v43.From, .int .i64 v43.Number, .string v43.Write.Key, .string v43.Write.Val, .bool v43.Write.Drop, .string v43.Key, .string v43.End, sv_ v43.Beyond])] ?_
       refine Zm 34 #[.agg #[.int .u8 v42.Kind, .int .i64 v42.From, .int .i64 v42.Number, .string v42.Write.Key, .string v42.Write.Val, .bool v42.Write.Drop, .string v42.Key, .string v42.End, sv_ v42.Beyond], .agg #[.int .u8 v43.Kind, .int .i64 v43.From, .int .i64 v43.Number, .string v43.Write.Key, .string v43.Write.Val, .bool v43.Write.Drop, .string v43.Key, .string v43.End, sv_ v43.Beyond]] (some 44) (Calls.mono h ?_)
       rintro _ w18 ⟨v44, rfl, h⟩
       refine ⟨_, rfl, ?_⟩
       refine Zn [.sure, .plain, .plain, .plain] 16 [(0, [], .pointer t_), (1, [], .pointer x), (47, [], .bool (!v44)), (48, [(47, false)], .pointer t_)] ?_
       refine reg_split 47 (!v44) (by kernel_rfl) (fun hb => ?_) (fun hb => ?_)
       · replace h := h.1 hb
         refine Zn [] 16 [(0, [], .pointer t_), (1, [], .pointer x), (47, [], .bool true), (48, [], undef)] ?_
         refine Zf [.skip, .skip, .skip, .skip, .plain] [(0, .pointer t_), (1, .pointer x), (53, .bool true)] ?_
         exact ⟨[(0, Value.pointer t_), (1, Value.pointer x), (53, Value.bool true)], Sub.mk (by kernel_rfl), true, rfl, h⟩
       · replace h := h.2 hb
         refine Zn [] 16 [(0, [], .pointer t_), (1, [], .pointer x), (47, [], .bool false), (48, [], .pointer t_)] ?_
         refine Zn [] 16 [(0, [], .pointer t_), (1, [], .pointer x), (47, [], .bool false), (48, [], .pointer t_)] ?_
         refine Zm 35 #[.pointer t_] (some 49) (Calls.mono h ?_)
         rintro _ w19 ⟨v49, rfl, h⟩
         refine ⟨_, rfl, ?_⟩
         refine Zn [.sure] 18 [(0, [], .pointer t_), (1, [], .pointer x), (47, [], .bool false), (49, [], .bool v49), (50, [], .pointer x)] ?_
         refine Zm 74 #[.pointer x] (some 51) (Calls.mono h ?_)
         rintro _ w20 ⟨v51, rfl, h⟩
         refine ⟨_, rfl, ?_⟩
         refine Zf [.sure, .plain] [(0, .pointer t_), (1, .pointer x), (53, .bool (!(v49 == v51)))] ?_
         exact ⟨[(0, Value.pointer t_), (1, Value.pointer x), (53, Value.bool (!(v49 == v51)))], Sub.mk (by kernel_rfl), (!(v49 == v51)), rfl, h⟩
   · rintro _ w7 ⟨t53, rfl, h⟩
     unfold F_towpathlaw17_stands_k0 at h
     refine Zc 53 t53 c39_14 c39_18 (fun hb => ?_) (fun hb => ?_)
     · replace h := h.1 hb
       refine Zp c39_17 P1 [(4, .bool false)] ?_
       refine wpE_ret (by kernel_rfl) ?_
       repeat (first | refine seqQ_ret ?_ | refine blockQ_ret ?_ | refine loopQ_ret ?_ | refine cutQ_ret ?_)
       exact retS (rs := [(ResultVar.tmp 4)]) (v := Value.bool false) (by kernel_rfl) (⟨by kernel_rfl, trivial⟩) ⟨false, rfl, h⟩
     · replace h := h.2 hb
       refine wpE_skip (by kernel_rfl) ?_
       change WpE _ _ c39_19 _ _ _
       refine Zt r39_20 c39_22 ?_
       refine Zn P1 1 [(0, [], .pointer t_), (1, [], .pointer x), (55, [], .pointer t_)] ?_
       refine Zm 61 #[.pointer t_] (some 56) (Calls.mono h ?_)
       rintro _ w8 ⟨v56, l_, e, rfl, h⟩
       refine ⟨_, rfl, ?_⟩
       refine Zn P4 6 [(0, [], .pointer t_), (1, [], .pointer x), (57, [], .agg #[.int .i64 v56.Code, .int .i64 v56.Mark, .bool v56.OK, sv_ v56.Entries, .int .i64 v56.Count]), (58, [], sv_ l_), (59, [], .int .i64 e)] ?_
       refine Zw (some 11) (fun bb => pv_ bb) (Obj.cells ([.int .i64 0, .int .i64 0, .bool false, .slice none 0 0, .int .i64 0]).toArray ty_api_Answer (0, 0)) (fun b_2 w9 hb hw => ?_)
       replace h := h b_2 w9 hb hw
       clear hb hw
       refine Zn [] 7 [(0, [], .pointer t_), (1, [], .pointer x), (11, [], pv_ b_2), (57, [], .agg #[.int .i64 v56.Code, .int .i64 v56.Mark, .bool v56.OK, sv_ v56.Entries, .int .i64 v56.Count]), (58, [], sv_ l_), (59, [], .int .i64 e)] ?_
       obtain ⟨hc, h⟩ := h
       refine Zo 125 11 57 b_2 0 5 [.int .i64 v56.Code, .int .i64 v56.Mark, .bool v56.OK, sv_ v56.Entries, .int .i64 v56.Count] hc (fun w10 hw => ?_)
       replace h := h w10 hw
       clear hw
       refine Zf P2 [(0, .pointer t_), (1, .pointer x), (11, pv_ b_2), (12, sv_ l_), (13, .int .i64 e)] ?_
       change WpE _ _ c39_22 _ _ _
       refine Zt r39_23 c39_25 ?_
       refine Zn P1 1 [(0, [], .pointer t_), (1, [], .pointer x), (11, [], pv_ b_2), (12, [], sv_ l_), (13, [], .int .i64 e), (61, [], .pointer x)] ?_
       refine Zm 75 #[.pointer x] (some 62) (Calls.mono h ?_)
       rintro _ w11 ⟨v62, k_, f, rfl, h⟩
       refine ⟨_, rfl, ?_⟩
       refine Zn P4 6 [(0, [], .pointer t_), (1, [], .pointer x), (11, [], pv_ b_2), (12, [], sv_ l_), (13, [], .int .i64 e), (63, [], .agg #[.int .i64 v62.Code, .int .i64 v62.Mark, .bool v62.OK, sv_ v62.Entries, .int .i64 v62.Count]), (64, [], sv_ k_), (65, [], .int .i64 f)] ?_
       refine Zw (some 14) (fun bb => pv_ bb) (Obj.cells ([.int .i64 0, .int .i64 0, .bool false, .slice none 0 0, .int .i64 0]).toArray ty_api_Answer (0, 0)) (fun b_3 w12 hb hw => ?_)
       replace h := h b_3 w12 hb hw
       clear hb hw
       refine Zn [] 7 [(0, [], .pointer t_), (1, [], .pointer x), (11, [], pv_ b_2), (12, [], sv_ l_), (13, [], .int .i64 e), (14, [], pv_ b_3), (63, [], .agg #[.int .i64 v62.Code, .int .i64 v62.Mark, .bool v62.OK, sv_ v62.Entries, .int .i64 v62.Count]), (64, [], sv_ k_), (65, [], .int .i64 f)] ?_
       obtain ⟨hc, h⟩ := h
       refine Zo 125 14 63 b_3 0 5 [.int .i64 v62.Code, .int .i64 v62.Mark, .bool v62.OK, sv_ v62.Entries, .int .i64 v62.Count] hc (fun w13 hw => ?_)
       replace h := h w13 hw
       clear hw
       refine Zf P2 [(0, .pointer t_), (1, .pointer x), (11, pv_ b_2), (12, sv_ l_), (13, .int .i64 e), (14, pv_ b_3), (15, sv_ k_), (16, .int .i64 f)] ?_
       change WpE _ _ c39_25 _ _ _
       refine Zt r39_26 c39_28 ?_
       refine Zn P1 1 [(1, [], .pointer x), (11, [], pv_ b_2), (12, [], sv_ l_), (13, [], .int .i64 e), (14, [], pv_ b_3), (15, [], sv_ k_), (16, [], .int .i64 f), (67, [], .pointer t_)] ?_
       refine Zm 76 #[.pointer t_] (some 68) (Calls.mono h ?_)
       rintro _ w14 ⟨i, begun, rfl, h⟩
       refine ⟨_, rfl, ?_⟩
       refine Zf (Pl 5) [(1, .pointer x), (11, pv_ b_2), (12, sv_ l_), (13, .int .i64 e), (14, pv_ b_3), (15, sv_ k_), (16, .int .i64 f), (17, .int .i64 i), (18, .bool begun)] ?_
       change WpE _ _ c39_28 _ _ _
       refine Zt r39_29 c39_31 ?_
       refine Zn P1 1 [(11, [], pv_ b_2), (12, [], sv_ l_), (13, [], .int .i64 e), (14, [], pv_ b_3), (15, [], sv_ k_), (16, [], .int .i64 f), (17, [], .int .i64 i), (18, [], .bool begun), (72, [], .pointer x)] ?_
       refine Zm 77 #[.pointer x] (some 73) (Calls.mono h ?_)
       rintro _ w15 ⟨j, was, rfl, h⟩
       refine ⟨_, rfl, ?_⟩
       refine Zf (Pl 5) [(11, pv_ b_2), (12, sv_ l_), (13, .int .i64 e), (14, pv_ b_3), (15, sv_ k_), (16, .int .i64 f), (17, .int .i64 i), (18, .bool begun), (19, .int .i64 j), (20, .bool was)] ?_
       change WpE _ _ c39_31 _ _ _
       refine Zt r39_32 c39_34 ?_
       refine Zn P4 4 [(11, [], pv_ b_2), (12, [], sv_ l_), (14, [], pv_ b_3), (15, [], sv_ k_), (17, [], .int .i64 i), (18, [], .bool begun), (19, [], .int .i64 j), (20, [], .bool was), (79, [], .bool (e == f))] ?_
       refine reg_split 79 (e == f) (by kernel_rfl) (fun hb => ?_) (fun hb => ?_)
       · replace h := h.1 hb
         refine Zn [] 4 [(11, [], pv_ b_2), (12, [], sv_ l_), (14, [], pv_ b_3), (15, [], sv_ k_), (17, [], .int .i64 i), (18, [], .bool begun), (19, [], .int .i64 j), (20, [], .bool was), (79, [], .bool true)] ?_
         refine Zn [] 4 [(11, [], pv_ b_2), (12, [], sv_ l_), (14, [], pv_ b_3), (15, [], sv_ k_), (17, [], .int .i64 i), (18, [], .bool begun), (19, [], .int .i64 j), (20, [], .bool was), (79, [], .bool true)] ?_
         obtain ⟨v80, hc, h⟩ := h
         refine reg_loadN (t := 125) (a := (Operand.tmp 11)) (b := b_2) (o := 0) (ty := 125) (dst := some 80) [Value.int .i64 v80.Code, Value.int .i64 v80.Mark, Value.bool v80.OK, sv_ v80.Entries, Value.int .i64 v80.Count] (by kernel_rfl) (by kernel_rfl) (by kernel_rfl) (k := 5) (by kernel_rfl) (by kernel_rfl) hc ?_
         refine Zn [] 5 [(12, [], sv_ l_), (14, [], pv_ b_3), (15, [], sv_ k_), (17, [], .int .i64 i), (18, [], .bool begun), (19, [], .int .i64 j), (20, [], .bool was), (79, [], .bool true), (80, [], .agg #[.int .i64 v80.Code, .int .i64 v80.Mark, .bool v80.OK, sv_ v80.Entries, .int .i64 v80.Count])] ?_
         obtain ⟨v81, hc, h⟩ := h
         refine reg_loadN (t := 125) (a := (Operand.tmp 14)) (b := b_3) (o := 0) (ty := 125) (dst := some 81) [Value.int .i64 v81.Code, Value.int .i64 v81.Mark, Value.bool v81.OK, sv_ v81.Entries, Value.int .i64 v81.Count] (by kernel_rfl) (by kernel_rfl) (by kernel_rfl) (k := 5) (by kernel_rfl) (by kernel_rfl) hc ?_
         refine Zn [] 6 [(12, [], sv_ l_), (15, [], sv_ k_), (17, [], .int .i64 i), (18, [], .bool begun), (19, [], .int .i64 j), (20, [], .bool was), (79, [], .bool true), (80, [], .agg #[.int .i64 v80.Code, .int .i64 v80.Mark, .bool v80.OK, sv_ v80.Entries, .int .i64 v80.Count]), (81, [], .agg #[.int .i64 v81.Code, .int .i64 v81.Mark, .bool v81.OK, sv_ v81.Entries, .int .i64 v81.Count])] ?_
         refine Zm 78 #[.agg #[.int .i64 v80.Code, .int .i64 v80.Mark, .bool v80.OK, sv_ v80.Entries, .int .i64 v80.Count], .agg #[.int .i64 v81.Code, .int .i64 v81.Mark, .bool v81.OK, sv_ v81.Entries, .int .i64 v81.Count]] (some 82) (Calls.mono h ?_)
         rintro _ w16 ⟨v82, rfl, h⟩
         refine ⟨_, rfl, ?_⟩
         refine Zn P4 11 [(17, [], .int .i64 i), (18, [], .bool begun), (19, [], .int .i64 j), (20, [], .bool was), (84, [], .bool v82), (85, [(84, true)], sv_ l_), (86, [(84, true)], sv_ k_)] ?_
         refine reg_split 84 v82 (by kernel_rfl) (fun hb => ?_) (fun hb => ?_)
         · replace h := h.1 hb
           refine Zn [] 11 [(17, [], .int .i64 i), (18, [], .bool begun), (19, [], .int .i64 j), (20, [], .bool was), (84, [], .bool true), (85, [], sv_ l_), (86, [], sv_ k_)] ?_
           refine Zn [] 11 [(17, [], .int .i64 i), (18, [], .bool begun), (19, [], .int .i64 j), (20, [], .bool was), (84, [], .bool true), (85, [], sv_ l_), (86, [], sv_ k_)] ?_
           refine Zm 79 #[sv_ l_, sv_ k_] (some 87) (Calls.mono h ?_)
           rintro _ w17 ⟨v87, rfl, h⟩
           refine ⟨_, rfl, ?_⟩
           refine Zf [.plain, .plain, .plain, .plain, .plain, .pick, .plain, .plain, .plain, .plain, .pick, .plain] [(4, .bool ((v87 && (i == j)) && (begun == was)))] ?_
           change WpE _ _ c39_34 _ _ _
           refine wpE_ret (by kernel_rfl) ?_
           repeat (first | refine seqQ_ret ?_ | refine blockQ_ret ?_ | refine loopQ_ret ?_ | refine cutQ_ret ?_)
           exact retS (rs := [(ResultVar.tmp 4)]) (v := Value.bool ((v87 && (i == j)) && (begun == was))) (by kernel_rfl) (⟨by kernel_rfl, trivial⟩) ⟨((v87 && (i == j)) && (begun == was)), rfl, h⟩
         · replace h := h.2 hb
           refine Zn [] 11 [(17, [], .int .i64 i), (18, [], .bool begun), (19, [], .int .i64 j), (20, [], .bool was), (84, [], .bool false), (85, [], undef), (86, [], undef)] ?_
           refine Zf [.skip, .plain, .plain, .skip, .skip, .skip, .plain, .plain, .skip, .skip, .skip, .plain, .plain] [(4, .bool false)] ?_
           change WpE _ _ c39_34 _ _ _
           refine wpE_ret (by kernel_rfl) ?_
           repeat (first | refine seqQ_ret ?_ | refine blockQ_ret ?_ | refine loopQ_ret ?_ | refine cutQ_ret ?_)
           exact retS (rs := [(ResultVar.tmp 4)]) (v := Value.bool false) (by kernel_rfl) (⟨by kernel_rfl, trivial⟩) ⟨false, rfl, h⟩
       · replace h := h.2 hb
         refine Zn [] 4 [(11, [], pv_ b_2), (12, [], sv_ l_), (14, [], pv_ b_3), (15, [], sv_ k_), (17, [], .int .i64 i), (18, [], .bool begun), (19, [], .int .i64 j), (20, [], .bool was), (79, [], .bool false)] ?_
         refine Zf [.skip, .skip, .skip, .plain, .plain, .skip, .skip, .skip, .plain, .plain, .skip, .skip, .skip, .plain, .plain, .skip, .skip, .skip, .plain, .plain] [(4, .bool false)] ?_
         change WpE _ _ c39_34 _ _ _
         refine wpE_ret (by kernel_rfl) ?_
         repeat (first | refine seqQ_ret ?_ | refine blockQ_ret ?_ | refine loopQ_ret ?_ | refine cutQ_ret ?_)
         exact retS (rs := [(ResultVar.tmp 4)]) (v := Value.bool false) (by kernel_rfl) (⟨by kernel_rfl, trivial⟩) ⟨false, rfl, h⟩
 · rintro e w' ⟨v, rfl, r0, rfl, h⟩; exact ⟨r0, rfl, h⟩
end
end Go.Proofs.Ytpedclhflmhakaa
