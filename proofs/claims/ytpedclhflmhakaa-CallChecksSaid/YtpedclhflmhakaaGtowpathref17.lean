/- WRITTEN BY PROGRAM (dec.py): for each Go function the clean formula F, the call's contract C, and the proof S that F gives C. -/
import Derived.Test.YtpedclhflmhakaaRows
import Derived.Test.YtpedclhflmhakaaGF
namespace Go.Proofs.Ytpedclhflmhakaa
open Go
set_option linter.unusedVariables false
set_option maxRecDepth 100000
set_option maxHeartbeats 4000000
noncomputable section

/-! ### towpath/towpathref17.Check (function 29) -/
def c29_0 := cb_ Try.f29
def c29_1 := cl_ c29_0
def r29_1 := co_ c29_1
def c29_3 := cr_ c29_0
def c29_4 := cl_ c29_3
def r29_4 := co_ c29_4
def c29_6 := cr_ c29_3
def c29_7 := cl_ c29_6
def c29_8 := cl_ c29_7
def r29_8 := co_ c29_8
def c29_10 := cr_ c29_7
def c29_11 := cl_ c29_10
def c29_14 := cr_ c29_11
def c29_15 := cl_ c29_14
def c29_16 := cl_ c29_15
def r29_16 := co_ c29_16
def c29_18 := cr_ c29_15
def c29_19 := cl_ c29_18
def c29_22 := cr_ c29_19
def c29_23 := cr_ c29_18
def c29_24 := cr_ c29_14
def c29_27 := cr_ c29_24
def c29_28 := cl_ c29_27
def c29_29 := cl_ c29_28
def r29_29 := co_ c29_29
def c29_31 := cr_ c29_28
def c29_32 := cl_ c29_31
def c29_35 := cr_ c29_32
def c29_36 := cr_ c29_31
def c29_37 := cr_ c29_27
def c29_38 := cl_ c29_37
def c29_41 := cr_ c29_38
def c29_42 := cl_ c29_41
def c29_43 := cr_ c29_41
def r29_43 := co_ c29_43
def c29_45 := cr_ c29_37
def c29_46 := cl_ c29_45
def c29_49 := cr_ c29_46
def c29_50 := cl_ c29_49
def c29_53 := cr_ c29_50
def c29_54 := cr_ c29_49
def c29_55 := cr_ c29_45
def c29_56 := cr_ c29_6
def c29_59 := cr_ c29_56

theorem S_towpathref17_Check {c : T_api_Call} {w : World} {R : Int → World → Prop} (h : F_towpathref17_Check c R w) : C_towpathref17_Check c w R := by
 unfold F_towpathref17_Check at h
 unfold C_towpathref17_Check
 refine Calls.mono (calls_of_wpE (args := [Value.agg #[Value.int .u8 c.Kind, Value.string c.Key, Value.string c.End]]) (R := fun v w' => ∃ (r0 : Int), v = Value.int .i64 r0 ∧ R r0 w') Try.func29 (c := c29_0) (by kernel_rfl) 40 (by kernel_rfl) (by kernel_rfl) [(0, Value.agg #[Value.int .u8 c.Kind, Value.string c.Key, Value.string c.End])] (by kernel_rfl) ?_) ?_
 · refine Zt r29_1 c29_3 ?_
   refine Zn [] 0 [(0, [], .agg #[.int .u8 c.Kind, .string c.Key, .string c.End])] ?_
   refine Zw (some 1) (fun bb => pv_ bb) (Obj.cells ([.int .u8 c.Kind, .string c.Key, .string c.End]).toArray ty_api_Call (0, 0)) (fun b_ w1 hb hw => ?_)
   replace h := h b_ w1 hb hw
   clear hb hw
   refine Zf P1 [(1, pv_ b_)] ?_
   change WpE _ _ c29_3 _ _ _
   refine wpE_seq_cut (x := c29_4) (y := c29_6) (by kernel_rfl) (fun l w => ∃ (bare : Bool), l = [(1, pv_ b_), (3, Value.bool bare)] ∧ F_towpathref17_Check_k0 R b_ bare w) ?_ ?_
   · refine Zr r29_4 ?_
     refine Zn P1 1 [(1, [], pv_ b_), (4, [], .pointer (some ⟨b_, 1, none⟩))] ?_
     obtain ⟨v5, hc, h⟩ := h
     refine Zl 9 4 b_ 1 9 5 hc ?_
     refine Zn P3 5 [(1, [], pv_ b_), (7, [], .bool (v5.toList == ByteArray.empty.toList)), (8, [(7, true)], .pointer (some ⟨b_, 2, none⟩))] ?_
     refine reg_split 7 (v5.toList == ByteArray.empty.toList) (by kernel_rfl) (fun hb => ?_) (fun hb => ?_)
     · replace h := h.1 hb
       refine Zn [] 5 [(1, [], pv_ b_), (7, [], .bool true), (8, [], .pointer (some ⟨b_, 2, none⟩))] ?_
       refine Zn [] 5 [(1, [], pv_ b_), (7, [], .bool true), (8, [], .pointer (some ⟨b_, 2, none⟩))] ?_
       obtain ⟨v9, hc, h⟩ := h
       refine Zl 9 8 b_ 2 9 9 hc ?_
       refine Zf [.sure, .plain, .plain] [(1, pv_ b_), (3, .bool (v9.toList == ByteArray.empty.toList))] ?_
       exact ⟨[(1, pv_ b_), (3, Value.bool (v9.toList == ByteArray.empty.toList))], Sub.mk (by kernel_rfl), (v9.toList == ByteArray.empty.toList), rfl, h⟩
     · replace h := h.2 hb
       refine Zn [] 5 [(1, [], pv_ b_), (7, [], .bool false), (8, [], undef)] ?_
       refine Zf [.skip, .skip, .plain, .plain] [(1, pv_ b_), (3, .bool false)] ?_
       exact ⟨[(1, pv_ b_), (3, Value.bool false)], Sub.mk (by kernel_rfl), false, rfl, h⟩
   · rintro _ w2 ⟨bare, rfl, h⟩
     unfold F_towpathref17_Check_k0 at h
     refine wpE_seq_cut (x := c29_7) (y := c29_56) (by kernel_rfl) (fun l w => l = [] ∧ F_towpathref17_Check_k1 R w) ?_ ?_
     · refine Zt r29_8 c29_10 ?_
       refine Zn P1 1 [(1, [], pv_ b_), (3, [], .bool bare), (12, [], pv_ b_)] ?_
       obtain ⟨v13, hc, h⟩ := h
       refine Zl 63 12 b_ 0 63 13 hc ?_
       refine Ze [(1, pv_ b_), (3, .bool bare), (13, .int .u8 v13)] ?_
       change WpE _ _ c29_10 _ _ _
       refine Zb 0 c29_11 ?_
       refine Zp c29_14 P2 [(1, pv_ b_), (3, .bool bare), (13, .int .u8 v13), (14, .bool (v13 == 1))] ?_
       refine Zc 14 (v13 == 1) c29_15 c29_24 (fun hb => ?_) (fun hb => ?_)
       · replace h := h.1 hb
         refine wpE_seq_cut (x := c29_16) (y := c29_18) (by kernel_rfl) (fun l w => ∃ (t23 : Bool), l = [(23, Value.bool t23)] ∧ F_towpathref17_Check_k2 R t23 w) ?_ ?_
         · refine Zr r29_16 ?_
           refine Zn P1 1 [(1, [], pv_ b_), (16, [], .pointer (some ⟨b_, 1, none⟩))] ?_
           obtain ⟨v17, hc, h⟩ := h
           refine Zl 9 16 b_ 1 9 17 hc ?_
           refine Zn [] 2 [(1, [], pv_ b_), (17, [], .string v17)] ?_
           refine Zm 59 #[.string v17] (some 18) (Calls.mono h ?_)
           rintro _ w5 ⟨v18, rfl, h⟩
           refine ⟨_, rfl, ?_⟩
           refine Zn P2 5 [(19, [], .bool v18), (20, [(19, true)], .pointer (some ⟨b_, 2, none⟩))] ?_
           refine reg_split 19 v18 (by kernel_rfl) (fun hb => ?_) (fun hb => ?_)
           · replace h := h.1 hb
             refine Zn [] 5 [(19, [], .bool true), (20, [], .pointer (some ⟨b_, 2, none⟩))] ?_
             refine Zn [] 5 [(19, [], .bool true), (20, [], .pointer (some ⟨b_, 2, none⟩))] ?_
             obtain ⟨v21, hc, h⟩ := h
             refine Zl 9 20 b_ 2 9 21 hc ?_
             refine Zf [.sure, .plain] [(23, .bool (v21.toList == ByteArray.empty.toList))] ?_
             exact ⟨[(23, Value.bool (v21.toList == ByteArray.empty.toList))], Sub.mk (by kernel_rfl), (v21.toList == ByteArray.empty.toList), rfl, h⟩
           · replace h := h.2 hb
             refine Zn [] 5 [(19, [], .bool false), (20, [], undef)] ?_
             refine Zf [.skip, .skip, .plain] [(23, .bool false)] ?_
             exact ⟨[(23, Value.bool false)], Sub.mk (by kernel_rfl), false, rfl, h⟩
         · rintro _ w4 ⟨t23, rfl, h⟩
           unfold F_towpathref17_Check_k2 at h
           refine Zc 23 t23 c29_19 c29_23 (fun hb => ?_) (fun hb => ?_)
           · replace h := h.1 hb
             refine Zp c29_22 P1 [(2, .int .i64 0)] ?_
             refine wpE_ret (by kernel_rfl) ?_
             repeat (first | refine seqQ_ret ?_ | refine blockQ_ret ?_ | refine loopQ_ret ?_ | refine cutQ_ret ?_)
             exact retS (rs := [(ResultVar.tmp 2)]) (v := Value.int .i64 0) (by kernel_rfl) (⟨by kernel_rfl, trivial⟩) ⟨0, rfl, h⟩
           · replace h := h.2 hb
             refine wpE_skip (by kernel_rfl) ?_
             exact ⟨[], Sub.mk (by kernel_rfl), rfl, h⟩
       · replace h := h.2 hb
         refine Zp c29_27 P2 [(1, pv_ b_), (3, .bool bare), (13, .int .u8 v13), (24, .bool (v13 == 2))] ?_
         refine Zc 24 (v13 == 2) c29_28 c29_37 (fun hb => ?_) (fun hb => ?_)
         · replace h := h.1 hb
           refine wpE_seq_cut (x := c29_29) (y := c29_31) (by kernel_rfl) (fun l w => ∃ (t35 : Bool), l = [(35, Value.bool t35)] ∧ F_towpathref17_Check_k3 R t35 w) ?_ ?_
           · refine Zr r29_29 ?_
             refine Zn P1 1 [(1, [], pv_ b_), (26, [], .pointer (some ⟨b_, 1, none⟩))] ?_
             obtain ⟨v27, hc, h⟩ := h
             refine Zl 9 26 b_ 1 9 27 hc ?_
             refine Zn P4 6 [(30, [], .bool (decide (((v27.size : Nat) : Int) ≤ 64))), (31, [(30, true)], .pointer (some ⟨b_, 2, none⟩))] ?_
             refine reg_split 30 (decide (((v27.size : Nat) : Int) ≤ 64)) (by kernel_rfl) (fun hb => ?_) (fun hb => ?_)
             · replace h := h.1 hb
               refine Zn [] 6 [(30, [], .bool true), (31, [], .pointer (some ⟨b_, 2, none⟩))] ?_
               refine Zn [] 6 [(30, [], .bool true), (31, [], .pointer (some ⟨b_, 2, none⟩))] ?_
               obtain ⟨v32, hc, h⟩ := h
               refine Zl 9 31 b_ 2 9 32 hc ?_
               refine Zf [.sure, .sure, .plain] [(35, .bool (decide (((v32.size : Nat) : Int) ≤ 64)))] ?_
               exact ⟨[(35, Value.bool (decide (((v32.size : Nat) : Int) ≤ 64)))], Sub.mk (by kernel_rfl), (decide (((v32.size : Nat) : Int) ≤ 64)), rfl, h⟩
             · replace h := h.2 hb
               refine Zn [] 6 [(30, [], .bool false), (31, [], undef)] ?_
               refine Zf [.skip, .skip, .skip, .plain] [(35, .bool false)] ?_
               exact ⟨[(35, Value.bool false)], Sub.mk (by kernel_rfl), false, rfl, h⟩
           · rintro _ w6 ⟨t35, rfl, h⟩
             unfold F_towpathref17_Check_k3 at h
             refine Zc 35 t35 c29_32 c29_36 (fun hb => ?_) (fun hb => ?_)
             · replace h := h.1 hb
               refine Zp c29_35 P1 [(2, .int .i64 0)] ?_
               refine wpE_ret (by kernel_rfl) ?_
               repeat (first | refine seqQ_ret ?_ | refine blockQ_ret ?_ | refine loopQ_ret ?_ | refine cutQ_ret ?_)
               exact retS (rs := [(ResultVar.tmp 2)]) (v := Value.int .i64 0) (by kernel_rfl) (⟨by kernel_rfl, trivial⟩) ⟨0, rfl, h⟩
             · replace h := h.2 hb
               refine wpE_skip (by kernel_rfl) ?_
               exact ⟨[], Sub.mk (by kernel_rfl), rfl, h⟩
         · replace h := h.2 hb
           refine wpE_seq_cut (x := c29_38) (y := c29_45) (by kernel_rfl) (fun l w => ∃ (t36 : Bool), l = [(3, Value.bool bare), (36, Value.bool t36)] ∧ F_towpathref17_Check_k4 R bare t36 w) ?_ ?_
           · refine Zp c29_41 P2 [(3, .bool bare), (13, .int .u8 v13), (36, .bool (v13 == 3))] ?_
             refine Zc 36 (v13 == 3) c29_42 c29_43 (fun hb => ?_) (fun hb => ?_)
             · replace h := h.1 hb
               refine wpE_skip (by kernel_rfl) ?_
               exact ⟨[(3, Value.bool bare), (36, Value.bool (v13 == 3))], Sub.mk (by kernel_rfl), (v13 == 3), rfl, h⟩
             · replace h := h.2 hb
               refine Zr r29_43 ?_
               refine Zf P2 [(3, .bool bare), (36, .bool (v13 == 4))] ?_
               exact ⟨[(3, Value.bool bare), (36, Value.bool (v13 == 4))], Sub.mk (by kernel_rfl), (v13 == 4), rfl, h⟩
           · rintro _ w7 ⟨t36, rfl, h⟩
             unfold F_towpathref17_Check_k4 at h
             refine Zc 36 t36 c29_46 c29_55 (fun hb => ?_) (fun hb => ?_)
             · replace h := h.1 hb
               refine Zp c29_49 P1 [(39, .bool bare)] ?_
               refine Zc 39 bare c29_50 c29_54 (fun hb => ?_) (fun hb => ?_)
               · replace h := h.1 hb
                 refine Zp c29_53 P1 [(2, .int .i64 0)] ?_
                 refine wpE_ret (by kernel_rfl) ?_
                 repeat (first | refine seqQ_ret ?_ | refine blockQ_ret ?_ | refine loopQ_ret ?_ | refine cutQ_ret ?_)
                 exact retS (rs := [(ResultVar.tmp 2)]) (v := Value.int .i64 0) (by kernel_rfl) (⟨by kernel_rfl, trivial⟩) ⟨0, rfl, h⟩
               · replace h := h.2 hb
                 refine wpE_skip (by kernel_rfl) ?_
                 exact ⟨[], Sub.mk (by kernel_rfl), rfl, h⟩
             · replace h := h.2 hb
               refine wpE_skip (by kernel_rfl) ?_
               exact ⟨[], Sub.mk (by kernel_rfl), rfl, h⟩
     · rintro _ w3 ⟨rfl, h⟩
       unfold F_towpathref17_Check_k1 at h
       refine Zp c29_59 P1 [(2, .int .i64 1)] ?_
       refine wpE_ret (by kernel_rfl) ?_
       repeat (first | refine seqQ_ret ?_ | refine blockQ_ret ?_ | refine loopQ_ret ?_ | refine cutQ_ret ?_)
       exact retS (rs := [(ResultVar.tmp 2)]) (v := Value.int .i64 1) (by kernel_rfl) (⟨by kernel_rfl, trivial⟩) ⟨1, rfl, h⟩
 · rintro e w' ⟨v, rfl, r0, rfl, h⟩; exact ⟨r0, rfl, h⟩
end
end Go.Proofs.Ytpedclhflmhakaa
