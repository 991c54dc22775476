/- WRITTEN BY PROGRAM (dec.py): for each Go function the clean formula F, the call's contract C, and the proof S that F gives C. -/
import Derived.Test.YtpedclhflmhakaaRows
import Derived.Test.YtpedclhflmhakaaGF
namespace Go.Proofs.Ytpedclhflmhakaa
open Go
set_option linter.unusedVariables false
set_option maxRecDepth 100000
set_option maxHeartbeats 4000000
noncomputable section

/-! ### towpath/towpathlaw17.lives (function 30) -/
def c30_0 := cb_ Try.f30
def c30_3 := cr_ c30_0
def c30_4 := cl_ c30_3
def r30_4 := co_ c30_4
def c30_6 := cr_ c30_3
def c30_7 := cl_ c30_6
def r30_7 := co_ c30_7
def c30_9 := cr_ c30_6
def c30_10 := cl_ c30_9
def c30_11 := cl_ c30_10
def r30_11 := co_ c30_11
def c30_13 := cr_ c30_10
def c30_14 := cl_ c30_13
def c30_17 := cr_ c30_14
def c30_18 := cr_ c30_13
def c30_19 := cr_ c30_9
def c30_20 := cl_ c30_19
def r30_20 := co_ c30_20
def c30_22 := cr_ c30_19
def c30_23 := cl_ c30_22
def c30_24 := cl_ c30_23
def r30_24 := co_ c30_24
def c30_26 := cr_ c30_23
def c30_27 := cl_ c30_26
def c30_30 := cr_ c30_27
def c30_31 := cr_ c30_26
def c30_32 := cr_ c30_22
def c30_33 := cl_ c30_32
def r30_33 := co_ c30_33
def c30_35 := cr_ c30_32
def c30_36 := cl_ c30_35
def r30_36 := co_ c30_36
def c30_38 := cr_ c30_35
def c30_39 := cl_ c30_38
def r30_39 := co_ c30_39
def c30_41 := cr_ c30_38
def c30_42 := cl_ c30_41
def r30_42 := co_ c30_42
def c30_44 := cr_ c30_41

theorem S_towpathlaw17_lives {w : World} {R : Bool → World → Prop} (h : F_towpathlaw17_lives R w) : C_towpathlaw17_lives w R := by
 unfold F_towpathlaw17_lives at h
 unfold C_towpathlaw17_lives
 refine Calls.mono (calls_of_wpE (args := []) (R := fun v w' => ∃ (r0 : Bool), v = Value.bool r0 ∧ R r0 w') Try.func30 (c := c30_0) (by kernel_rfl) 103 (by kernel_rfl) (by kernel_rfl) [] (by kernel_rfl) ?_) ?_
 · refine Zp c30_3 P1 [] ?_
   refine Zt r30_4 c30_6 ?_
   refine Zn P1 1 [(11, [], .agg #[.int .i64 1, .int .i64 2, .int .i64 4, .int .i64 1])] ?_
   refine Zw (some 1) (fun bb => pv_ bb) (Obj.cells ([.int .i64 0, .int .i64 0, .int .i64 0, .int .i64 0]).toArray ty_api_Config (0, 0)) (fun b_ w1 hb hw => ?_)
   replace h := h b_ w1 hb hw
   clear hb hw
   refine Zn [] 2 [(1, [], pv_ b_), (11, [], .agg #[.int .i64 1, .int .i64 2, .int .i64 4, .int .i64 1])] ?_
   obtain ⟨hc, h⟩ := h
   refine Zo 69 1 11 b_ 0 4 [.int .i64 1, .int .i64 2, .int .i64 4, .int .i64 1] hc (fun w2 hw => ?_)
   replace h := h w2 hw
   clear hw
   refine Ze [(1, pv_ b_)] ?_
   change WpE _ _ c30_6 _ _ _
   refine Zt r30_7 c30_9 ?_
   refine Zn [] 0 [(1, [], pv_ b_)] ?_
   obtain ⟨v13, hc, h⟩ := h
   refine reg_loadN (t := 69) (a := (Operand.tmp 1)) (b := b_) (o := 0) (ty := 69) (dst := some 13) [Value.int .i64 v13.Lanes, Value.int .i64 v13.Shards, Value.int .i64 v13.Window, Value.int .i64 v13.Queue] (by kernel_rfl) (by kernel_rfl) (by kernel_rfl) (k := 4) (by kernel_rfl) (by kernel_rfl) hc ?_
   refine Zn P1 2 [(13, [], .agg #[.int .i64 v13.Lanes, .int .i64 v13.Shards, .int .i64 v13.Window, .int .i64 v13.Queue]), (14, [], .agg #[.int .u8 3, .string ByteArray.empty, .string ByteArray.empty])] ?_
   refine Zm 31 #[.int .i64 (-2), .agg #[.int .i64 v13.Lanes, .int .i64 v13.Shards, .int .i64 v13.Window, .int .i64 v13.Queue], .agg #[.int .u8 3, .string ByteArray.empty, .string ByteArray.empty]] (some 15) (Calls.mono h ?_)
   rintro _ w3 ⟨t_, e, rfl, h⟩
   refine ⟨_, rfl, ?_⟩
   refine Zf (Pl 5) [(2, .pointer t_), (3, .int .i64 e)] ?_
   change WpE _ _ c30_9 _ _ _
   refine Zs c30_10 c30_19 ?_
   refine wpE_seq_cut (x := c30_11) (y := c30_13) (by kernel_rfl) (fun l w => ∃ (t24 : Bool), l = [(2, Value.pointer t_), (24, Value.bool t24)] ∧ F_towpathlaw17_lives_k0 R t_ t24 w) ?_ ?_
   · refine Zr r30_11 ?_
     refine Zn P4 4 [(2, [], .pointer t_), (20, [], .bool (e != 0)), (21, [(20, false)], .pointer t_)] ?_
     refine reg_split 20 (e != 0) (by kernel_rfl) (fun hb => ?_) (fun hb => ?_)
     · replace h := h.1 hb
       refine Zn [] 4 [(2, [], .pointer t_), (20, [], .bool true), (21, [], undef)] ?_
       refine Zf [.skip, .skip, .plain] [(2, .pointer t_), (24, .bool true)] ?_
       exact ⟨[(2, Value.pointer t_), (24, Value.bool true)], Sub.mk (by kernel_rfl), true, rfl, h⟩
     · replace h := h.2 hb
       refine Zn [] 4 [(2, [], .pointer t_), (20, [], .bool false), (21, [], .pointer t_)] ?_
       refine Zn [] 4 [(2, [], .pointer t_), (20, [], .bool false), (21, [], .pointer t_)] ?_
       refine Zm 32 #[.pointer t_, .int .i64 5, .int .i64 3, .slice none 0 0] (some 22) (Calls.mono h ?_)
       rintro _ w17 ⟨v22, rfl, h⟩
       refine ⟨_, rfl, ?_⟩
       refine Zf [.sure, .plain] [(2, .pointer t_), (24, .bool (v22 != 0))] ?_
       exact ⟨[(2, Value.pointer t_), (24, Value.bool (v22 != 0))], Sub.mk (by kernel_rfl), (v22 != 0), rfl, h⟩
   · rintro _ w4 ⟨t24, rfl, h⟩
     unfold F_towpathlaw17_lives_k0 at h
     refine Zc 24 t24 c30_14 c30_18 (fun hb => ?_) (fun hb => ?_)
     · replace h := h.1 hb
       refine Zp c30_17 P1 [(0, .bool false)] ?_
       refine wpE_ret (by kernel_rfl) ?_
       repeat (first | refine seqQ_ret ?_ | refine blockQ_ret ?_ | refine loopQ_ret ?_ | refine cutQ_ret ?_)
       exact retS (rs := [(ResultVar.tmp 0)]) (v := Value.bool false) (by kernel_rfl) (⟨by kernel_rfl, trivial⟩) ⟨false, rfl, h⟩
     · replace h := h.2 hb
       refine wpE_skip (by kernel_rfl) ?_
       change WpE _ _ c30_19 _ _ _
       refine Zt r30_20 c30_22 ?_
       refine Zn P1 1 [(2, [], .pointer t_), (26, [], .pointer t_)] ?_
       refine Zm 33 #[.pointer t_] (some 27) (Calls.mono h ?_)
       rintro _ w5 ⟨k_, v27_1, ok, rfl, h⟩
       refine ⟨_, rfl, ?_⟩
       refine Zn P4 6 [(2, [], .pointer t_), (28, [], .int .i64 k_), (29, [], .agg #[.int .u8 v27_1.Kind, .int .i64 v27_1.From, .int .i64 v27_1.Number, .string v27_1.Write.Key, .string v27_1.Write.Val, .bool v27_1.Write.Drop, .string v27_1.Key, .string v27_1.End, sv_ v27_1.Beyond]), (30, [], .bool ok)] ?_
       refine Zw (some 5) (fun bb => pv_ bb) (Obj.cells ([.int .u8 0, .int .i64 0, .int .i64 0, .string ByteArray.empty, .string ByteArray.empty, .bool false, .string ByteArray.empty, .string ByteArray.empty, .slice none 0 0]).toArray ty_api_Req (0, 0)) (fun b_1 w6 hb hw => ?_)
       replace h := h b_1 w6 hb hw
       clear hb hw
       refine Zn P1 8 [(2, [], .pointer t_), (4, [], .int .i64 k_), (5, [], pv_ b_1), (29, [], .agg #[.int .u8 v27_1.Kind, .int .i64 v27_1.From, .int .i64 v27_1.Number, .string v27_1.Write.Key, .string v27_1.Write.Val, .bool v27_1.Write.Drop, .string v27_1.Key, .string v27_1.End, sv_ v27_1.Beyond]), (30, [], .bool ok)] ?_
       obtain ⟨hc, h⟩ := h
       refine Zo 80 5 29 b_1 0 9 [.int .u8 v27_1.Kind, .int .i64 v27_1.From, .int .i64 v27_1.Number, .string v27_1.Write.Key, .string v27_1.Write.Val, .bool v27_1.Write.Drop, .string v27_1.Key, .string v27_1.End, sv_ v27_1.Beyond] hc (fun w7 hw => ?_)
       replace h := h w7 hw
       clear hw
       refine Zf P1 [(2, .pointer t_), (4, .int .i64 k_), (5, pv_ b_1), (6, .bool ok)] ?_
       change WpE _ _ c30_22 _ _ _
       refine Zs c30_23 c30_32 ?_
       refine wpE_seq_cut (x := c30_24) (y := c30_26) (by kernel_rfl) (fun l w => ∃ (t66 : Bool), l = [(2, Value.pointer t_), (66, Value.bool t66)] ∧ F_towpathlaw17_lives_k1 R t_ t66 w) ?_ ?_
       · refine Zr r30_24 ?_
         refine Zn [.plain, .plain, .plain, .plain, .plain, .pick, .plain, .plain] 8 [(2, [], .pointer t_), (5, [], pv_ b_1), (37, [], .bool ((k_ != 0) || (!ok))), (38, [(37, false)], pv_ b_1)] ?_
         refine reg_split 37 ((k_ != 0) || (!ok)) (by kernel_rfl) (fun hb => ?_) (fun hb => ?_)
         · replace h := h.1 hb
           refine Zn [] 8 [(2, [], .pointer t_), (5, [], pv_ b_1), (37, [], .bool true), (38, [], undef)] ?_
           refine Zf [.skip, .skip, .plain, .plain, .skip, .skip, .skip, .plain, .plain, .skip, .skip, .skip, .plain, .plain, .skip, .skip, .skip, .plain, .plain, .skip, .skip, .skip, .plain, .plain, .skip, .skip, .skip, .plain] [(2, .pointer t_), (66, .bool true)] ?_
           exact ⟨[(2, Value.pointer t_), (66, Value.bool true)], Sub.mk (by kernel_rfl), true, rfl, h⟩
         · replace h := h.2 hb
           refine Zn [] 8 [(2, [], .pointer t_), (5, [], pv_ b_1), (37, [], .bool false), (38, [], pv_ b_1)] ?_
           refine Zn [] 8 [(2, [], .pointer t_), (5, [], pv_ b_1), (37, [], .bool false), (38, [], pv_ b_1)] ?_
           obtain ⟨v39, hc, h⟩ := h
           refine Zl 76 38 b_1 0 76 39 hc ?_
           refine Zn [.sure, .plain, .plain, .plain] 13 [(2, [], .pointer t_), (5, [], pv_ b_1), (42, [], .bool (v39 != 4)), (43, [(42, false)], .pointer (some ⟨b_1, 1, none⟩))] ?_
           refine reg_split 42 (v39 != 4) (by kernel_rfl) (fun hb => ?_) (fun hb => ?_)
           · replace h := h.1 hb
             refine Zn [] 13 [(2, [], .pointer t_), (5, [], pv_ b_1), (42, [], .bool true), (43, [], undef)] ?_
             refine Zf [.skip, .skip, .plain, .plain, .skip, .skip, .skip, .plain, .plain, .skip, .skip, .skip, .plain, .plain, .skip, .skip, .skip, .plain, .plain, .skip, .skip, .skip, .plain] [(2, .pointer t_), (66, .bool true)] ?_
             exact ⟨[(2, Value.pointer t_), (66, Value.bool true)], Sub.mk (by kernel_rfl), true, rfl, h⟩
           · replace h := h.2 hb
             refine Zn [] 13 [(2, [], .pointer t_), (5, [], pv_ b_1), (42, [], .bool false), (43, [], .pointer (some ⟨b_1, 1, none⟩))] ?_
             refine Zn [] 13 [(2, [], .pointer t_), (5, [], pv_ b_1), (42, [], .bool false), (43, [], .pointer (some ⟨b_1, 1, none⟩))] ?_
             obtain ⟨v44, hc, h⟩ := h
             refine Zl 3 43 b_1 1 3 44 hc ?_
             refine Zn [.sure, .plain, .plain, .plain] 18 [(2, [], .pointer t_), (47, [], .bool (v44 != (-2))), (48, [(47, false)], .pointer (some ⟨b_1, 2, none⟩))] ?_
             refine reg_split 47 (v44 != (-2)) (by kernel_rfl) (fun hb => ?_) (fun hb => ?_)
             · replace h := h.1 hb
               refine Zn [] 18 [(2, [], .pointer t_), (47, [], .bool true), (48, [], undef)] ?_
               refine Zf [.skip, .skip, .plain, .plain, .skip, .skip, .skip, .plain, .plain, .skip, .skip, .skip, .plain, .plain, .skip, .skip, .skip, .plain] [(2, .pointer t_), (66, .bool true)] ?_
               exact ⟨[(2, Value.pointer t_), (66, Value.bool true)], Sub.mk (by kernel_rfl), true, rfl, h⟩
             · replace h := h.2 hb
               refine Zn [] 18 [(2, [], .pointer t_), (47, [], .bool false), (48, [], .pointer (some ⟨b_1, 2, none⟩))] ?_
               refine Zn [] 18 [(2, [], .pointer t_), (47, [], .bool false), (48, [], .pointer (some ⟨b_1, 2, none⟩))] ?_
               obtain ⟨v49, hc, h⟩ := h
               refine Zl 3 48 b_1 2 3 49 hc ?_
               refine Zn [.sure, .plain, .plain, .plain] 23 [(2, [], .pointer t_), (52, [], .bool (v49 != 3)), (53, [(52, false)], .pointer t_)] ?_
               refine reg_split 52 (v49 != 3) (by kernel_rfl) (fun hb => ?_) (fun hb => ?_)
               · replace h := h.1 hb
                 refine Zn [] 23 [(2, [], .pointer t_), (52, [], .bool true), (53, [], undef)] ?_
                 refine Zf [.skip, .skip, .plain, .plain, .skip, .skip, .skip, .plain, .plain, .skip, .skip, .skip, .plain] [(2, .pointer t_), (66, .bool true)] ?_
                 exact ⟨[(2, Value.pointer t_), (66, Value.bool true)], Sub.mk (by kernel_rfl), true, rfl, h⟩
               · replace h := h.2 hb
                 refine Zn [] 23 [(2, [], .pointer t_), (52, [], .bool false), (53, [], .pointer t_)] ?_
                 refine Zn [] 23 [(2, [], .pointer t_), (52, [], .bool false), (53, [], .pointer t_)] ?_
                 refine Zm 36 #[.pointer t_] (some 54) (Calls.mono h ?_)
                 rintro _ w14 ⟨v54, rfl, h⟩
                 refine ⟨_, rfl, ?_⟩
                 refine Zn [.sure, .plain, .plain, .plain] 28 [(2, [], .pointer t_), (57, [], .bool (v54 != 0)), (58, [(57, false)], .pointer t_)] ?_
                 refine reg_split 57 (v54 != 0) (by kernel_rfl) (fun hb => ?_) (fun hb => ?_)
                 · replace h := h.1 hb
                   refine Zn [] 28 [(2, [], .pointer t_), (57, [], .bool true), (58, [], undef)] ?_
                   refine Zf [.skip, .skip, .plain, .plain, .skip, .skip, .skip, .plain] [(2, .pointer t_), (66, .bool true)] ?_
                   exact ⟨[(2, Value.pointer t_), (66, Value.bool true)], Sub.mk (by kernel_rfl), true, rfl, h⟩
                 · replace h := h.2 hb
                   refine Zn [] 28 [(2, [], .pointer t_), (57, [], .bool false), (58, [], .pointer t_)] ?_
                   refine Zn [] 28 [(2, [], .pointer t_), (57, [], .bool false), (58, [], .pointer t_)] ?_
                   refine Zm 36 #[.pointer t_] (some 59) (Calls.mono h ?_)
                   rintro _ w15 ⟨v59, rfl, h⟩
                   refine ⟨_, rfl, ?_⟩
                   refine Zn [.sure, .plain, .plain, .plain] 33 [(2, [], .pointer t_), (62, [], .bool (v59 != 0)), (63, [(62, false)], .pointer t_)] ?_
                   refine reg_split 62 (v59 != 0) (by kernel_rfl) (fun hb => ?_) (fun hb => ?_)
                   · replace h := h.1 hb
                     refine Zn [] 33 [(2, [], .pointer t_), (62, [], .bool true), (63, [], undef)] ?_
                     refine Zf [.skip, .skip, .plain] [(2, .pointer t_), (66, .bool true)] ?_
                     exact ⟨[(2, Value.pointer t_), (66, Value.bool true)], Sub.mk (by kernel_rfl), true, rfl, h⟩
                   · replace h := h.2 hb
                     refine Zn [] 33 [(2, [], .pointer t_), (62, [], .bool false), (63, [], .pointer t_)] ?_
                     refine Zn [] 33 [(2, [], .pointer t_), (62, [], .bool false), (63, [], .pointer t_)] ?_
                     refine Zm 36 #[.pointer t_] (some 64) (Calls.mono h ?_)
                     rintro _ w16 ⟨v64, rfl, h⟩
                     refine ⟨_, rfl, ?_⟩
                     refine Zf [.sure, .plain] [(2, .pointer t_), (66, .bool (v64 != 9))] ?_
                     exact ⟨[(2, Value.pointer t_), (66, Value.bool (v64 != 9))], Sub.mk (by kernel_rfl), (v64 != 9), rfl, h⟩
       · rintro _ w8 ⟨t66, rfl, h⟩
         unfold F_towpathlaw17_lives_k1 at h
         refine Zc 66 t66 c30_27 c30_31 (fun hb => ?_) (fun hb => ?_)
         · replace h := h.1 hb
           refine Zp c30_30 P1 [(0, .bool false)] ?_
           refine wpE_ret (by kernel_rfl) ?_
           repeat (first | refine seqQ_ret ?_ | refine blockQ_ret ?_ | refine loopQ_ret ?_ | refine cutQ_ret ?_)
           exact retS (rs := [(ResultVar.tmp 0)]) (v := Value.bool false) (by kernel_rfl) (⟨by kernel_rfl, trivial⟩) ⟨false, rfl, h⟩
         · replace h := h.2 hb
           refine wpE_skip (by kernel_rfl) ?_
           change WpE _ _ c30_32 _ _ _
           refine Zt r30_33 c30_35 ?_
           refine Zn P2 2 [(2, [], .pointer t_), (67, [], .pointer t_), (68, [], .agg #[.int .i64 (-2), .bool false, .slice none 0 0, .slice none 0 0, .int .i64 2])] ?_
           refine Zm 60 #[.pointer t_, .agg #[.int .i64 (-2), .bool false, .slice none 0 0, .slice none 0 0, .int .i64 2]] (some 69) (Calls.mono h ?_)
           rintro _ w9 ⟨v69, rfl, h⟩
           refine ⟨_, rfl, ?_⟩
           refine Zf P1 [(2, .pointer t_), (3, .int .i64 v69)] ?_
           change WpE _ _ c30_35 _ _ _
           refine Zt r30_36 c30_38 ?_
           refine Zn P2 2 [(2, [], .pointer t_), (3, [], .int .i64 v69), (70, [], .pointer t_), (71, [], .agg #[.int .i64 (-2), .bool false, .slice none 0 0, .slice none 0 0, .int .i64 1])] ?_
           refine Zm 60 #[.pointer t_, .agg #[.int .i64 (-2), .bool false, .slice none 0 0, .slice none 0 0, .int .i64 1]] (some 72) (Calls.mono h ?_)
           rintro _ w10 ⟨v72, rfl, h⟩
           refine ⟨_, rfl, ?_⟩
           refine Zf P1 [(2, .pointer t_), (3, .int .i64 v69), (7, .int .i64 v72)] ?_
           change WpE _ _ c30_38 _ _ _
           refine Zt r30_39 c30_41 ?_
           refine Zn P1 1 [(3, [], .int .i64 v69), (7, [], .int .i64 v72), (74, [], .pointer t_)] ?_
           refine Zm 61 #[.pointer t_] (some 75) (Calls.mono h ?_)
           rintro _ w11 ⟨v75, v75_1, g, rfl, h⟩
           refine ⟨_, rfl, ?_⟩
           refine Zn P4 6 [(3, [], .int .i64 v69), (7, [], .int .i64 v72), (76, [], .agg #[.int .i64 v75.Code, .int .i64 v75.Mark, .bool v75.OK, sv_ v75.Entries, .int .i64 v75.Count]), (77, [], sv_ v75_1), (78, [], .int .i64 g)] ?_
           refine Zw (some 8) (fun bb => pv_ bb) (Obj.cells ([.int .i64 0, .int .i64 0, .bool false, .slice none 0 0, .int .i64 0]).toArray ty_api_Answer (0, 0)) (fun b_2 w12 hb hw => ?_)
           replace h := h b_2 w12 hb hw
           clear hb hw
           refine Zn [] 7 [(3, [], .int .i64 v69), (7, [], .int .i64 v72), (8, [], pv_ b_2), (76, [], .agg #[.int .i64 v75.Code, .int .i64 v75.Mark, .bool v75.OK, sv_ v75.Entries, .int .i64 v75.Count]), (77, [], sv_ v75_1), (78, [], .int .i64 g)] ?_
           obtain ⟨hc, h⟩ := h
           refine Zo 125 8 76 b_2 0 5 [.int .i64 v75.Code, .int .i64 v75.Mark, .bool v75.OK, sv_ v75.Entries, .int .i64 v75.Count] hc (fun w13 hw => ?_)
           replace h := h w13 hw
           clear hw
           refine Zf P2 [(3, .int .i64 v69), (7, .int .i64 v72), (8, pv_ b_2), (10, .int .i64 g)] ?_
           change WpE _ _ c30_41 _ _ _
           refine Zt r30_42 c30_44 ?_
           refine Zn [.plain, .plain, .plain, .plain, .plain, .pick, .plain, .plain, .plain, .pick, .plain, .plain] 12 [(8, [], pv_ b_2), (89, [], .bool (((v69 == 0) && (v72 == 0)) && (g == 0))), (90, [(89, true)], .pointer (some ⟨b_2, 4, none⟩))] ?_
           refine reg_split 89 (((v69 == 0) && (v72 == 0)) && (g == 0)) (by kernel_rfl) (fun hb => ?_) (fun hb => ?_)
           · replace h := h.1 hb
             refine Zn [] 12 [(8, [], pv_ b_2), (89, [], .bool true), (90, [], .pointer (some ⟨b_2, 4, none⟩))] ?_
             refine Zn [] 12 [(8, [], pv_ b_2), (89, [], .bool true), (90, [], .pointer (some ⟨b_2, 4, none⟩))] ?_
             obtain ⟨v91, hc, h⟩ := h
             refine Zl 3 90 b_2 4 3 91 hc ?_
             refine Zn [.sure, .plain, .plain, .plain] 17 [(8, [], pv_ b_2), (94, [], .bool (v91 == 3)), (95, [(94, true)], .pointer (some ⟨b_2, 1, none⟩))] ?_
             refine reg_split 94 (v91 == 3) (by kernel_rfl) (fun hb => ?_) (fun hb => ?_)
             · replace h := h.1 hb
               refine Zn [] 17 [(8, [], pv_ b_2), (94, [], .bool true), (95, [], .pointer (some ⟨b_2, 1, none⟩))] ?_
               refine Zn [] 17 [(8, [], pv_ b_2), (94, [], .bool true), (95, [], .pointer (some ⟨b_2, 1, none⟩))] ?_
               obtain ⟨v96, hc, h⟩ := h
               refine Zl 3 95 b_2 1 3 96 hc ?_
               refine Zn [.sure, .plain, .plain, .plain] 22 [(99, [], .bool (v96 == 5)), (100, [(99, true)], .pointer (some ⟨b_2, 2, none⟩))] ?_
               refine reg_split 99 (v96 == 5) (by kernel_rfl) (fun hb => ?_) (fun hb => ?_)
               · replace h := h.1 hb
                 refine Zn [] 22 [(99, [], .bool true), (100, [], .pointer (some ⟨b_2, 2, none⟩))] ?_
                 refine Zn [] 22 [(99, [], .bool true), (100, [], .pointer (some ⟨b_2, 2, none⟩))] ?_
                 obtain ⟨v101, hc, h⟩ := h
                 refine Zl 4 100 b_2 2 4 101 hc ?_
                 refine Zf P2 [(0, .bool v101)] ?_
                 change WpE _ _ c30_44 _ _ _
                 refine wpE_ret (by kernel_rfl) ?_
                 repeat (first | refine seqQ_ret ?_ | refine blockQ_ret ?_ | refine loopQ_ret ?_ | refine cutQ_ret ?_)
                 exact retS (rs := [(ResultVar.tmp 0)]) (v := Value.bool v101) (by kernel_rfl) (⟨by kernel_rfl, trivial⟩) ⟨v101, rfl, h⟩
               · replace h := h.2 hb
                 refine Zn [] 22 [(99, [], .bool false), (100, [], undef)] ?_
                 refine Zf [.skip, .plain, .plain] [(0, .bool false)] ?_
                 change WpE _ _ c30_44 _ _ _
                 refine wpE_ret (by kernel_rfl) ?_
                 repeat (first | refine seqQ_ret ?_ | refine blockQ_ret ?_ | refine loopQ_ret ?_ | refine cutQ_ret ?_)
                 exact retS (rs := [(ResultVar.tmp 0)]) (v := Value.bool false) (by kernel_rfl) (⟨by kernel_rfl, trivial⟩) ⟨false, rfl, h⟩
             · replace h := h.2 hb
               refine Zn [] 17 [(8, [], pv_ b_2), (94, [], .bool false), (95, [], undef)] ?_
               refine Zf [.skip, .skip, .plain, .plain, .skip, .skip, .plain, .plain] [(0, .bool false)] ?_
               change WpE _ _ c30_44 _ _ _
               refine wpE_ret (by kernel_rfl) ?_
               repeat (first | refine seqQ_ret ?_ | refine blockQ_ret ?_ | refine loopQ_ret ?_ | refine cutQ_ret ?_)
               exact retS (rs := [(ResultVar.tmp 0)]) (v := Value.bool false) (by kernel_rfl) (⟨by kernel_rfl, trivial⟩) ⟨false, rfl, h⟩
           · replace h := h.2 hb
             refine Zn [] 12 [(8, [], pv_ b_2), (89, [], .bool false), (90, [], undef)] ?_
             refine Zf [.skip, .skip, .plain, .plain, .skip, .skip, .skip, .plain, .plain, .skip, .skip, .plain, .plain] [(0, .bool false)] ?_
             change WpE _ _ c30_44 _ _ _
             refine wpE_ret (by kernel_rfl) ?_
             repeat (first | refine seqQ_ret ?_ | refine blockQ_ret ?_ | refine loopQ_ret ?_ | refine cutQ_ret ?_)
             exact retS (rs := [(ResultVar.tmp 0)]) (v := Value.bool false) (by kernel_rfl) (⟨by kernel_rfl, trivial⟩) ⟨false, rfl, h⟩
 · rintro e w' ⟨v, rfl, r0, rfl, h⟩; exact ⟨r0, rfl, h⟩
end
end Go.Proofs.Ytpedclhflmhakaa
