/- WRITTEN BY PROGRAM (dec.py): for each Go function the clean formula F, the call's contract C, and the proof S that F gives C. -/
import Derived.Test.YtpedclhflmhakaaRows
import Derived.Test.YtpedclhflmhakaaGF
namespace Go.Proofs.Ytpedclhflmhakaa
open Go
set_option linter.unusedVariables false
set_option maxRecDepth 100000
set_option maxHeartbeats 4000000
noncomputable section

/-! ### towpath/call.Check (function 28) -/
def c28_0 := cb_ Try.f28
def c28_1 := cl_ c28_0
def r28_1 := co_ c28_1
def c28_3 := cr_ c28_0
def c28_6 := cr_ c28_3
def c28_7 := cl_ c28_6
def c28_8 := cl_ c28_7
def r28_8 := co_ c28_8
def c28_10 := cr_ c28_7
def c28_11 := cl_ c28_10
def c28_14 := cr_ c28_11
def c28_15 := cl_ c28_14
def r28_15 := co_ c28_15
def c28_17 := cr_ c28_14
def c28_20 := cr_ c28_17
def c28_21 := cl_ c28_20
def r28_21 := co_ c28_21
def c28_23 := cr_ c28_20
def c28_24 := cl_ c28_23
def c28_27 := cr_ c28_24
def c28_28 := cl_ c28_27
def c28_29 := cr_ c28_27
def r28_29 := co_ c28_29
def c28_31 := cr_ c28_23
def c28_32 := cl_ c28_31
def r28_32 := co_ c28_32
def c28_34 := cr_ c28_31
def c28_35 := cr_ c28_6
def c28_36 := cl_ c28_35
def c28_39 := cr_ c28_36
def c28_40 := cl_ c28_39
def c28_43 := cr_ c28_40
def c28_44 := cr_ c28_39
def c28_45 := cr_ c28_35
def c28_48 := cr_ c28_45

theorem S_call_Check {c : T_api_Call} {w : World} {R : Int → World → Prop} (h : F_call_Check c R w) : C_call_Check c w R := by
 unfold F_call_Check at h
 unfold C_call_Check
 refine Calls.mono (calls_of_wpE (args := [Value.agg #[Value.int .u8 c.Kind, Value.string c.Key, Value.string c.End]]) (R := fun v w' => ∃ (r0 : Int), v = Value.int .i64 r0 ∧ R r0 w') Try.func28 (c := c28_0) (by kernel_rfl) 47 (by kernel_rfl) (by kernel_rfl) [(0, Value.agg #[Value.int .u8 c.Kind, Value.string c.Key, Value.string c.End])] (by kernel_rfl) ?_) ?_
 · refine Zt r28_1 c28_3 ?_
   refine Zn [] 0 [(0, [], .agg #[.int .u8 c.Kind, .string c.Key, .string c.End])] ?_
   refine Zw (some 1) (fun bb => pv_ bb) (Obj.cells ([.int .u8 c.Kind, .string c.Key, .string c.End]).toArray ty_api_Call (0, 0)) (fun b_ w1 hb hw => ?_)
   replace h := h b_ w1 hb hw
   clear hb hw
   refine Zf P1 [(1, pv_ b_)] ?_
   change WpE _ _ c28_3 _ _ _
   refine Zp c28_6 P1 [(1, pv_ b_), (3, .bool false)] ?_
   refine wpE_seq_cut (x := c28_7) (y := c28_35) (by kernel_rfl) (fun l w => ∃ (ok : Bool), l = [(3, Value.bool ok)] ∧ F_call_Check_k0 R ok w) ?_ ?_
   · refine Zt r28_8 c28_10 ?_
     refine Zn P1 1 [(1, [], pv_ b_), (3, [], .bool false), (4, [], pv_ b_)] ?_
     obtain ⟨v5, hc, h⟩ := h
     refine Zl 63 4 b_ 0 63 5 hc ?_
     refine Ze [(1, pv_ b_), (3, .bool false), (5, .int .u8 v5)] ?_
     change WpE _ _ c28_10 _ _ _
     refine Zb 0 c28_11 ?_
     refine Zp c28_14 P2 [(1, pv_ b_), (3, .bool false), (5, .int .u8 v5), (6, .bool (v5 == 1))] ?_
     refine Zc 6 (v5 == 1) c28_15 c28_17 (fun hb => ?_) (fun hb => ?_)
     · replace h := h.1 hb
       refine Zr r28_15 ?_
       refine Zn P1 1 [(1, [], pv_ b_), (3, [], .bool false), (8, [], .pointer (some ⟨b_, 1, none⟩))] ?_
       obtain ⟨v9, hc, h⟩ := h
       refine Zl 9 8 b_ 1 9 9 hc ?_
       refine Zn P3 5 [(1, [], pv_ b_), (3, [], .bool false), (11, [], .bool (!(v9.toList == ByteArray.empty.toList))), (12, [(11, true)], .pointer (some ⟨b_, 1, none⟩))] ?_
       refine reg_split 11 (!(v9.toList == ByteArray.empty.toList)) (by kernel_rfl) (fun hb => ?_) (fun hb => ?_)
       · replace h := h.1 hb
         refine Zn [] 5 [(1, [], pv_ b_), (3, [], .bool false), (11, [], .bool true), (12, [], .pointer (some ⟨b_, 1, none⟩))] ?_
         refine Zn [] 5 [(1, [], pv_ b_), (3, [], .bool false), (11, [], .bool true), (12, [], .pointer (some ⟨b_, 1, none⟩))] ?_
         obtain ⟨v13, hc, h⟩ := h
         refine Zl 9 12 b_ 1 9 13 hc ?_
         refine Zn [.sure, .sure, .plain, .plain, .plain] 11 [(3, [], .bool false), (17, [], .bool (decide (((v13.size : Nat) : Int) ≤ 64))), (18, [(17, true)], .pointer (some ⟨b_, 2, none⟩))] ?_
         refine reg_split 17 (decide (((v13.size : Nat) : Int) ≤ 64)) (by kernel_rfl) (fun hb => ?_) (fun hb => ?_)
         · replace h := h.1 hb
           refine Zn [] 11 [(3, [], .bool false), (17, [], .bool true), (18, [], .pointer (some ⟨b_, 2, none⟩))] ?_
           refine Zn [] 11 [(3, [], .bool false), (17, [], .bool true), (18, [], .pointer (some ⟨b_, 2, none⟩))] ?_
           obtain ⟨v19, hc, h⟩ := h
           refine Zl 9 18 b_ 2 9 19 hc ?_
           refine Zf [.sure, .plain, .plain] [(3, .bool (v19.toList == ByteArray.empty.toList))] ?_
           exact ⟨[(3, Value.bool (v19.toList == ByteArray.empty.toList))], Sub.mk (by kernel_rfl), (v19.toList == ByteArray.empty.toList), rfl, h⟩
         · replace h := h.2 hb
           refine Zn [] 11 [(3, [], .bool false), (17, [], .bool false), (18, [], undef)] ?_
           refine Zf [.skip, .skip, .plain, .plain] [(3, .bool false)] ?_
           exact ⟨[(3, Value.bool false)], Sub.mk (by kernel_rfl), false, rfl, h⟩
       · replace h := h.2 hb
         refine Zn [] 5 [(1, [], pv_ b_), (3, [], .bool false), (11, [], .bool false), (12, [], undef)] ?_
         refine Zf [.skip, .skip, .skip, .plain, .plain, .skip, .skip, .skip, .plain, .plain] [(3, .bool false)] ?_
         exact ⟨[(3, Value.bool false)], Sub.mk (by kernel_rfl), false, rfl, h⟩
     · replace h := h.2 hb
       refine Zp c28_20 P2 [(1, pv_ b_), (3, .bool false), (5, .int .u8 v5), (22, .bool (v5 == 2))] ?_
       refine Zc 22 (v5 == 2) c28_21 c28_23 (fun hb => ?_) (fun hb => ?_)
       · replace h := h.1 hb
         refine Zr r28_21 ?_
         refine Zn P1 1 [(1, [], pv_ b_), (3, [], .bool false), (24, [], .pointer (some ⟨b_, 1, none⟩))] ?_
         obtain ⟨v25, hc, h⟩ := h
         refine Zl 9 24 b_ 1 9 25 hc ?_
         refine Zn P4 6 [(3, [], .bool false), (28, [], .bool (decide (((v25.size : Nat) : Int) ≤ 64))), (29, [(28, true)], .pointer (some ⟨b_, 2, none⟩))] ?_
         refine reg_split 28 (decide (((v25.size : Nat) : Int) ≤ 64)) (by kernel_rfl) (fun hb => ?_) (fun hb => ?_)
         · replace h := h.1 hb
           refine Zn [] 6 [(3, [], .bool false), (28, [], .bool true), (29, [], .pointer (some ⟨b_, 2, none⟩))] ?_
           refine Zn [] 6 [(3, [], .bool false), (28, [], .bool true), (29, [], .pointer (some ⟨b_, 2, none⟩))] ?_
           obtain ⟨v30, hc, h⟩ := h
           refine Zl 9 29 b_ 2 9 30 hc ?_
           refine Zf [.sure, .sure, .plain, .plain] [(3, .bool (decide (((v30.size : Nat) : Int) ≤ 64)))] ?_
           exact ⟨[(3, Value.bool (decide (((v30.size : Nat) : Int) ≤ 64)))], Sub.mk (by kernel_rfl), (decide (((v30.size : Nat) : Int) ≤ 64)), rfl, h⟩
         · replace h := h.2 hb
           refine Zn [] 6 [(3, [], .bool false), (28, [], .bool false), (29, [], undef)] ?_
           refine Zf [.skip, .skip, .skip, .plain, .plain] [(3, .bool false)] ?_
           exact ⟨[(3, Value.bool false)], Sub.mk (by kernel_rfl), false, rfl, h⟩
       · replace h := h.2 hb
         refine wpE_seq_cut (x := c28_24) (y := c28_31) (by kernel_rfl) (fun l w => ∃ (t34 : Bool), l = [(1, pv_ b_), (3, Value.bool false), (34, Value.bool t34)] ∧ F_call_Check_k1 R b_ t34 w) ?_ ?_
         · refine Zp c28_27 P2 [(1, pv_ b_), (3, .bool false), (5, .int .u8 v5), (34, .bool (v5 == 3))] ?_
           refine Zc 34 (v5 == 3) c28_28 c28_29 (fun hb => ?_) (fun hb => ?_)
           · replace h := h.1 hb
             refine wpE_skip (by kernel_rfl) ?_
             exact ⟨[(1, pv_ b_), (3, Value.bool false), (34, Value.bool (v5 == 3))], Sub.mk (by kernel_rfl), (v5 == 3), rfl, h⟩
           · replace h := h.2 hb
             refine Zr r28_29 ?_
             refine Zf P2 [(1, pv_ b_), (3, .bool false), (34, .bool (v5 == 4))] ?_
             exact ⟨[(1, pv_ b_), (3, Value.bool false), (34, Value.bool (v5 == 4))], Sub.mk (by kernel_rfl), (v5 == 4), rfl, h⟩
         · rintro _ w3 ⟨t34, rfl, h⟩
           unfold F_call_Check_k1 at h
           refine Zc 34 t34 c28_32 c28_34 (fun hb => ?_) (fun hb => ?_)
           · replace h := h.1 hb
             refine Zr r28_32 ?_
             refine Zn P1 1 [(1, [], pv_ b_), (3, [], .bool false), (37, [], .pointer (some ⟨b_, 1, none⟩))] ?_
             obtain ⟨v38, hc, h⟩ := h
             refine Zl 9 37 b_ 1 9 38 hc ?_
             refine Zn P3 5 [(3, [], .bool false), (40, [], .bool (v38.toList == ByteArray.empty.toList)), (41, [(40, true)], .pointer (some ⟨b_, 2, none⟩))] ?_
             refine reg_split 40 (v38.toList == ByteArray.empty.toList) (by kernel_rfl) (fun hb => ?_) (fun hb => ?_)
             · replace h := h.1 hb
               refine Zn [] 5 [(3, [], .bool false), (40, [], .bool true), (41, [], .pointer (some ⟨b_, 2, none⟩))] ?_
               refine Zn [] 5 [(3, [], .bool false), (40, [], .bool true), (41, [], .pointer (some ⟨b_, 2, none⟩))] ?_
               obtain ⟨v42, hc, h⟩ := h
               refine Zl 9 41 b_ 2 9 42 hc ?_
               refine Zf [.sure, .plain, .plain] [(3, .bool (v42.toList == ByteArray.empty.toList))] ?_
               exact ⟨[(3, Value.bool (v42.toList == ByteArray.empty.toList))], Sub.mk (by kernel_rfl), (v42.toList == ByteArray.empty.toList), rfl, h⟩
             · replace h := h.2 hb
               refine Zn [] 5 [(3, [], .bool false), (40, [], .bool false), (41, [], undef)] ?_
               refine Zf [.skip, .skip, .plain, .plain] [(3, .bool false)] ?_
               exact ⟨[(3, Value.bool false)], Sub.mk (by kernel_rfl), false, rfl, h⟩
           · replace h := h.2 hb
             refine wpE_skip (by kernel_rfl) ?_
             exact ⟨[(3, Value.bool false)], Sub.mk (by kernel_rfl), false, rfl, h⟩
   · rintro _ w2 ⟨ok, rfl, h⟩
     unfold F_call_Check_k0 at h
     refine Zs c28_36 c28_45 ?_
     refine Zp c28_39 P2 [(46, .bool (!ok))] ?_
     refine Zc 46 (!ok) c28_40 c28_44 (fun hb => ?_) (fun hb => ?_)
     · replace h := h.1 hb
       refine Zp c28_43 P1 [(2, .int .i64 1)] ?_
       refine wpE_ret (by kernel_rfl) ?_
       repeat (first | refine seqQ_ret ?_ | refine blockQ_ret ?_ | refine loopQ_ret ?_ | refine cutQ_ret ?_)
       exact retS (rs := [(ResultVar.tmp 2)]) (v := Value.int .i64 1) (by kernel_rfl) (⟨by kernel_rfl, trivial⟩) ⟨1, rfl, h⟩
     · replace h := h.2 hb
       refine wpE_skip (by kernel_rfl) ?_
       change WpE _ _ c28_45 _ _ _
       refine Zp c28_48 P1 [(2, .int .i64 0)] ?_
       refine wpE_ret (by kernel_rfl) ?_
       repeat (first | refine seqQ_ret ?_ | refine blockQ_ret ?_ | refine loopQ_ret ?_ | refine cutQ_ret ?_)
       exact retS (rs := [(ResultVar.tmp 2)]) (v := Value.int .i64 0) (by kernel_rfl) (⟨by kernel_rfl, trivial⟩) ⟨0, rfl, h⟩
 · rintro e w' ⟨v, rfl, r0, rfl, h⟩; exact ⟨r0, rfl, h⟩

/-! ### towpath/call.New (function 31) -/
def c31_0 := cb_ Try.f31
def c31_1 := cl_ c31_0
def r31_1 := co_ c31_1
def c31_3 := cr_ c31_0
def c31_4 := cl_ c31_3
def c31_5 := cl_ c31_4
def c31_8 := cr_ c31_5
def c31_9 := cl_ c31_8
def c31_12 := cr_ c31_9
def c31_13 := cr_ c31_8
def c31_14 := cl_ c31_13
def r31_14 := co_ c31_14
def c31_16 := cr_ c31_13
def c31_17 := cl_ c31_16
def c31_20 := cr_ c31_17
def c31_21 := cr_ c31_16
def c31_22 := cl_ c31_21
def r31_22 := co_ c31_22
def c31_24 := cr_ c31_21
def c31_25 := cl_ c31_24
def c31_28 := cr_ c31_25
def c31_29 := cr_ c31_24
def c31_30 := cr_ c31_3
def c31_31 := cl_ c31_30
def r31_31 := co_ c31_31
def c31_33 := cr_ c31_30

theorem S_call_New {number : Int} {c : T_api_Config} {x : T_api_Call} {w : World} {R : Option Addr → Int → World → Prop} (h : F_call_New number c x R w) : C_call_New number c x w R := by
 unfold F_call_New at h
 unfold C_call_New
 refine Calls.mono (calls_of_wpE (args := [Value.int .i64 number, Value.agg #[Value.int .i64 c.Lanes, Value.int .i64 c.Shards, Value.int .i64 c.Window, Value.int .i64 c.Queue], Value.agg #[Value.int .u8 x.Kind, Value.string x.Key, Value.string x.End]]) (R := fun v w' => ∃ (r0 : Option Addr) (r1 : Int), v = Value.tuple #[Value.pointer r0, Value.int .i64 r1] ∧ R r0 r1 w') Try.func31 (c := c31_0) (by kernel_rfl) 24 (by kernel_rfl) (by kernel_rfl) [(0, Value.int .i64 number), (1, Value.agg #[Value.int .i64 c.Lanes, Value.int .i64 c.Shards, Value.int .i64 c.Window, Value.int .i64 c.Queue]), (2, Value.agg #[Value.int .u8 x.Kind, Value.string x.Key, Value.string x.End])] (by kernel_rfl) ?_) ?_
 · refine Zt r31_1 c31_3 ?_
   refine Zn [] 0 [(0, [], .int .i64 number), (1, [], .agg #[.int .i64 c.Lanes, .int .i64 c.Shards, .int .i64 c.Window, .int .i64 c.Queue]), (2, [], .agg #[.int .u8 x.Kind, .string x.Key, .string x.End])] ?_
   refine Zw (some 4) (fun bb => pv_ bb) (Obj.cells ([.int .i64 c.Lanes, .int .i64 c.Shards, .int .i64 c.Window, .int .i64 c.Queue]).toArray ty_api_Config (0, 0)) (fun b_ w1 hb hw => ?_)
   replace h := h b_ w1 hb hw
   clear hb hw
   refine Zn [] 1 [(0, [], .int .i64 number), (2, [], .agg #[.int .u8 x.Kind, .string x.Key, .string x.End]), (4, [], pv_ b_)] ?_
   refine Zw (some 5) (fun bb => pv_ bb) (Obj.cells ([.int .u8 x.Kind, .string x.Key, .string x.End]).toArray ty_api_Call (0, 0)) (fun b_1 w2 hb hw => ?_)
   replace h := h b_1 w2 hb hw
   clear hb hw
   refine Zf P2 [(0, .int .i64 number), (4, pv_ b_), (5, pv_ b_1)] ?_
   change WpE _ _ c31_3 _ _ _
   refine Zs c31_4 c31_30 ?_
   refine Zb 0 c31_5 ?_
   refine Zp c31_8 P3 [(0, .int .i64 number), (4, pv_ b_), (5, pv_ b_1), (8, .bool (decide (number ≥ 0)))] ?_
   refine Zc 8 (decide (number ≥ 0)) c31_9 c31_13 (fun hb => ?_) (fun hb => ?_)
   · replace h := h.1 hb
     refine Zp c31_12 P2 [(6, .pointer none), (7, .int .i64 1)] ?_
     refine wpE_ret (by kernel_rfl) ?_
     repeat (first | refine seqQ_ret ?_ | refine blockQ_ret ?_ | refine loopQ_ret ?_ | refine cutQ_ret ?_)
     exact retT (rs := [(ResultVar.tmp 6), (ResultVar.tmp 7)]) (vs := [Value.pointer none, Value.int .i64 1]) (by kernel_rfl) (⟨by kernel_rfl, ⟨by kernel_rfl, trivial⟩⟩) (by kernel_rfl) ⟨none, 1, rfl, h⟩
   · replace h := h.2 hb
     refine Zt r31_14 c31_16 ?_
     refine Zn [] 0 [(0, [], .int .i64 number), (4, [], pv_ b_), (5, [], pv_ b_1)] ?_
     obtain ⟨v12, hc, h⟩ := h
     refine reg_loadN (t := 69) (a := (Operand.tmp 4)) (b := b_) (o := 0) (ty := 69) (dst := some 12) [Value.int .i64 v12.Lanes, Value.int .i64 v12.Shards, Value.int .i64 v12.Window, Value.int .i64 v12.Queue] (by kernel_rfl) (by kernel_rfl) (by kernel_rfl) (k := 4) (by kernel_rfl) (by kernel_rfl) hc ?_
     refine Zn [] 1 [(0, [], .int .i64 number), (4, [], pv_ b_), (5, [], pv_ b_1), (12, [], .agg #[.int .i64 v12.Lanes, .int .i64 v12.Shards, .int .i64 v12.Window, .int .i64 v12.Queue])] ?_
     refine Zm 62 #[.agg #[.int .i64 v12.Lanes, .int .i64 v12.Shards, .int .i64 v12.Window, .int .i64 v12.Queue]] (some 13) (Calls.mono h ?_)
     rintro _ w3 ⟨v13, rfl, h⟩
     refine ⟨_, rfl, ?_⟩
     refine Zf P2 [(0, .int .i64 number), (4, pv_ b_), (5, pv_ b_1), (11, .bool (v13 != 0))] ?_
     change WpE _ _ c31_16 _ _ _
     refine Zc 11 (v13 != 0) c31_17 c31_21 (fun hb => ?_) (fun hb => ?_)
     · replace h := h.1 hb
       refine Zp c31_20 P2 [(6, .pointer none), (7, .int .i64 7)] ?_
       refine wpE_ret (by kernel_rfl) ?_
       repeat (first | refine seqQ_ret ?_ | refine blockQ_ret ?_ | refine loopQ_ret ?_ | refine cutQ_ret ?_)
       exact retT (rs := [(ResultVar.tmp 6), (ResultVar.tmp 7)]) (vs := [Value.pointer none, Value.int .i64 7]) (by kernel_rfl) (⟨by kernel_rfl, ⟨by kernel_rfl, trivial⟩⟩) (by kernel_rfl) ⟨none, 7, rfl, h⟩
     · replace h := h.2 hb
       refine Zt r31_22 c31_24 ?_
       refine Zn [] 0 [(0, [], .int .i64 number), (4, [], pv_ b_), (5, [], pv_ b_1)] ?_
       obtain ⟨v16, hc, h⟩ := h
       refine reg_loadN (t := 65) (a := (Operand.tmp 5)) (b := b_1) (o := 0) (ty := 65) (dst := some 16) [Value.int .u8 v16.Kind, Value.string v16.Key, Value.string v16.End] (by kernel_rfl) (by kernel_rfl) (by kernel_rfl) (k := 3) (by kernel_rfl) (by kernel_rfl) hc ?_
       refine Zn [] 1 [(0, [], .int .i64 number), (4, [], pv_ b_), (5, [], pv_ b_1), (16, [], .agg #[.int .u8 v16.Kind, .string v16.Key, .string v16.End])] ?_
       refine Zm 28 #[.agg #[.int .u8 v16.Kind, .string v16.Key, .string v16.End]] (some 17) (Calls.mono h ?_)
       rintro _ w4 ⟨v17, rfl, h⟩
       refine ⟨_, rfl, ?_⟩
       refine Zf P2 [(0, .int .i64 number), (4, pv_ b_), (5, pv_ b_1), (15, .bool (v17 != 0))] ?_
       change WpE _ _ c31_24 _ _ _
       refine Zc 15 (v17 != 0) c31_25 c31_29 (fun hb => ?_) (fun hb => ?_)
       · replace h := h.1 hb
         refine Zp c31_28 P2 [(6, .pointer none), (7, .int .i64 1)] ?_
         refine wpE_ret (by kernel_rfl) ?_
         repeat (first | refine seqQ_ret ?_ | refine blockQ_ret ?_ | refine loopQ_ret ?_ | refine cutQ_ret ?_)
         exact retT (rs := [(ResultVar.tmp 6), (ResultVar.tmp 7)]) (vs := [Value.pointer none, Value.int .i64 1]) (by kernel_rfl) (⟨by kernel_rfl, ⟨by kernel_rfl, trivial⟩⟩) (by kernel_rfl) ⟨none, 1, rfl, h⟩
       · replace h := h.2 hb
         refine wpE_skip (by kernel_rfl) ?_
         change WpE _ _ c31_30 _ _ _
         refine Zt r31_31 c31_33 ?_
         refine Zn P1 1 [(4, [], pv_ b_), (5, [], pv_ b_1), (19, [], .int .i64 number)] ?_
         obtain ⟨v20, hc, h⟩ := h
         refine reg_loadN (t := 69) (a := (Operand.tmp 4)) (b := b_) (o := 0) (ty := 69) (dst := some 20) [Value.int .i64 v20.Lanes, Value.int .i64 v20.Shards, Value.int .i64 v20.Window, Value.int .i64 v20.Queue] (by kernel_rfl) (by kernel_rfl) (by kernel_rfl) (k := 4) (by kernel_rfl) (by kernel_rfl) hc ?_
         refine Zn [] 2 [(5, [], pv_ b_1), (19, [], .int .i64 number), (20, [], .agg #[.int .i64 v20.Lanes, .int .i64 v20.Shards, .int .i64 v20.Window, .int .i64 v20.Queue])] ?_
         obtain ⟨v21, hc, h⟩ := h
         refine reg_loadN (t := 65) (a := (Operand.tmp 5)) (b := b_1) (o := 0) (ty := 65) (dst := some 21) [Value.int .u8 v21.Kind, Value.string v21.Key, Value.string v21.End] (by kernel_rfl) (by kernel_rfl) (by kernel_rfl) (k := 3) (by kernel_rfl) (by kernel_rfl) hc ?_
         refine Zn P1 4 [(22, [], .agg #[.int .i64 number, .int .i64 v20.Lanes, .int .i64 v20.Shards, .int .i64 v20.Window, .int .i64 v20.Queue, .int .u8 v21.Kind, .string v21.Key, .string v21.End, .bool false, .int .i64 0, .slice none 0 0, .int .i64 0, .slice none 0 0])] ?_
         refine Zw (some 23) (fun bb => pv_ bb) (Obj.cells ([.int .i64 number, .int .i64 v20.Lanes, .int .i64 v20.Shards, .int .i64 v20.Window, .int .i64 v20.Queue, .int .u8 v21.Kind, .string v21.Key, .string v21.End, .bool false, .int .i64 0, .slice none 0 0, .int .i64 0, .slice none 0 0]).toArray ty_call_Task (0, 0)) (fun b_2 w5 hb hw => ?_)
         replace h := h b_2 w5 hb hw
         clear hb hw
         refine Zf P2 [(6, pv_ b_2), (7, .int .i64 0)] ?_
         change WpE _ _ c31_33 _ _ _
         refine wpE_ret (by kernel_rfl) ?_
         repeat (first | refine seqQ_ret ?_ | refine blockQ_ret ?_ | refine loopQ_ret ?_ | refine cutQ_ret ?_)
         exact retT (rs := [(ResultVar.tmp 6), (ResultVar.tmp 7)]) (vs := [pv_ b_2, Value.int .i64 0]) (by kernel_rfl) (⟨by kernel_rfl, ⟨by kernel_rfl, trivial⟩⟩) (by kernel_rfl) ⟨(some ⟨b_2, 0, none⟩), 0, rfl, h⟩
 · rintro e w' ⟨v, rfl, r0, r1, rfl, h⟩; exact ⟨r0, r1, rfl, h⟩

/-! ### (*towpath/call.Task).Begin (function 32) -/
def c32_0 := cb_ Try.f32
def c32_1 := cl_ c32_0
def r32_1 := co_ c32_1
def c32_3 := cr_ c32_0
def c32_4 := cl_ c32_3
def c32_5 := cl_ c32_4
def c32_6 := cl_ c32_5
def r32_6 := co_ c32_6
def c32_8 := cr_ c32_5
def c32_9 := cl_ c32_8
def c32_12 := cr_ c32_9
def c32_13 := cr_ c32_8
def c32_14 := cl_ c32_13
def r32_14 := co_ c32_14
def c32_16 := cr_ c32_13
def c32_17 := cl_ c32_16
def c32_20 := cr_ c32_17
def c32_21 := cr_ c32_16
def c32_22 := cl_ c32_21
def r32_22 := co_ c32_22
def c32_24 := cr_ c32_21
def c32_25 := cl_ c32_24
def c32_28 := cr_ c32_25
def c32_29 := cr_ c32_24
def c32_30 := cr_ c32_3
def c32_31 := cl_ c32_30
def r32_31 := co_ c32_31
def c32_33 := cr_ c32_30
def c32_34 := cl_ c32_33
def c32_35 := cl_ c32_34
def r32_35 := co_ c32_35
def c32_37 := cr_ c32_34
def c32_38 := cl_ c32_37
def c32_39 := cl_ c32_38
def r32_39 := co_ c32_39
def c32_41 := cr_ c32_38
def c32_42 := cl_ c32_41
def c32_43 := cl_ c32_42
def r32_43 := co_ c32_43
def c32_45 := cr_ c32_42
def c32_46 := cl_ c32_45
def c32_47 := cl_ c32_46
def r32_47 := co_ c32_47
def c32_49 := cr_ c32_46
def c32_50 := cl_ c32_49
def c32_53 := cr_ c32_50
def c32_54 := cl_ c32_53
def r32_54 := co_ c32_54
def c32_56 := cr_ c32_53
def c32_59 := cr_ c32_56
def c32_60 := cl_ c32_59
def r32_60 := co_ c32_60
def c32_62 := cr_ c32_59
def c32_65 := cr_ c32_62
def c32_66 := cl_ c32_65
def r32_66 := co_ c32_66
def c32_68 := cr_ c32_65
def c32_71 := cr_ c32_68
def c32_72 := cl_ c32_71
def r32_72 := co_ c32_72
def c32_74 := cr_ c32_71
def c32_75 := cr_ c32_45
def r32_75 := co_ c32_75
def c32_77 := cr_ c32_33
def c32_80 := cr_ c32_77
def o_call_Task_Begin_31 : List Nat := [0, 1, 2, 3, 4, 5, 6, 7, 8]
def o_call_Task_Begin_43 : List Nat := [0, 1, 2, 3, 4, 5, 6, 7]
def o_call_Task_Begin_54 : List Nat := [0, 1, 2, 3, 4, 5, 6, 7, 8]
def o_call_Task_Begin_60 : List Nat := [0, 1, 2, 3, 4, 5, 6, 7, 8, 9, 10, 11, 12, 13, 14, 15]
def o_call_Task_Begin_66 : List Nat := [0, 1, 2, 3, 4]
def o_call_Task_Begin_75 : List Nat := [0, 1, 2, 3, 4, 5, 6, 7, 8, 9, 10, 11, 12]

theorem S_call_Task_Begin {t_ : Option Addr} {mark : Int} {least : Int} {beyond : Slc} {w : World} {R : Int → World → Prop} (h : F_call_Task_Begin t_ mark least beyond R w) : C_call_Task_Begin t_ mark least beyond w R := by
 unfold F_call_Task_Begin at h
 unfold C_call_Task_Begin
 refine Calls.mono (calls_of_wpY (args := [Value.pointer t_, Value.int .i64 mark, Value.int .i64 least, sv_ beyond]) (R := fun v w' => ∃ (r0 : Int), v = Value.int .i64 r0 ∧ R r0 w') Try.func32 (c := c32_0) (by kernel_rfl) 111 (by kernel_rfl) (by kernel_rfl) [(0, Value.pointer t_), (1, Value.int .i64 mark), (2, Value.int .i64 least), (3, sv_ beyond)] (by kernel_rfl) ?_) ?_
 · letI : Rnd := rndY Try.prog Try.f32 (fun v w' => ∃ (r0 : Int), v = Value.int .i64 r0 ∧ R r0 w')
   refine Zt r32_1 c32_3 ?_
   refine Zn [] 0 [(0, [], .pointer t_), (1, [], .int .i64 mark), (2, [], .int .i64 least), (3, [], sv_ beyond)] ?_
   refine Zw (some 4) (fun bb => pv_ bb) (Obj.cells ([.pointer t_]).toArray ty_ptr_call_Task (0, 0)) (fun b_ w1 hb hw => ?_)
   replace h := h b_ w1 hb hw
   clear hb hw
   refine Zn [] 1 [(1, [], .int .i64 mark), (2, [], .int .i64 least), (3, [], sv_ beyond), (4, [], pv_ b_)] ?_
   refine Zw (some 5) (fun bb => pv_ bb) (Obj.cells ([.int .i64 mark]).toArray ty_int (0, 0)) (fun b_1 w2 hb hw => ?_)
   replace h := h b_1 w2 hb hw
   clear hb hw
   refine Zn [] 2 [(2, [], .int .i64 least), (3, [], sv_ beyond), (4, [], pv_ b_), (5, [], pv_ b_1)] ?_
   refine Zw (some 6) (fun bb => pv_ bb) (Obj.cells ([.int .i64 least]).toArray ty_int (0, 0)) (fun b_2 w3 hb hw => ?_)
   replace h := h b_2 w3 hb hw
   clear hb hw
   refine Zn [] 3 [(3, [], sv_ beyond), (4, [], pv_ b_), (5, [], pv_ b_1), (6, [], pv_ b_2)] ?_
   refine Zw (some 7) (fun bb => pv_ bb) (Obj.cells ([sv_ beyond]).toArray ty_sl_int (0, 0)) (fun b_3 w4 hb hw => ?_)
   replace h := h b_3 w4 hb hw
   clear hb hw
   refine Zf P1 [(4, pv_ b_), (5, pv_ b_1), (6, pv_ b_2), (7, pv_ b_3), (8, .int .i64 0)] ?_
   change WpE _ _ c32_3 _ _ _
   refine Zs c32_4 c32_30 ?_
   refine Zb 0 c32_5 ?_
   refine Zt r32_6 c32_8 ?_
   refine Zn [] 0 [(4, [], pv_ b_), (5, [], pv_ b_1), (6, [], pv_ b_2), (7, [], pv_ b_3), (8, [], .int .i64 0)] ?_
   obtain ⟨v12, hc, h⟩ := h
   refine Zl 72 4 b_ 0 72 12 hc ?_
   refine Zn [] 1 [(4, [], pv_ b_), (5, [], pv_ b_1), (6, [], pv_ b_2), (7, [], pv_ b_3), (8, [], .int .i64 0), (12, [], .pointer v12)] ?_
   refine Zm 63 #[.pointer v12] (some 13) (Calls.mono h ?_)
   rintro _ w5 ⟨v13, rfl, h⟩
   refine ⟨_, rfl, ?_⟩
   refine Zf P2 [(4, pv_ b_), (5, pv_ b_1), (6, pv_ b_2), (7, pv_ b_3), (8, .int .i64 0), (11, .bool (!v13))] ?_
   change WpE _ _ c32_8 _ _ _
   refine Zc 11 (!v13) c32_9 c32_13 (fun hb => ?_) (fun hb => ?_)
   · replace h := h.1 hb
     refine Zp c32_12 P1 [(8, .int .i64 2)] ?_
     refine wpE_ret (by kernel_rfl) ?_
     repeat (first | refine seqQ_ret ?_ | refine blockQ_ret ?_ | refine loopQ_ret ?_ | refine cutQ_ret ?_)
     exact retS (rs := [(ResultVar.tmp 8)]) (v := Value.int .i64 2) (by kernel_rfl) (⟨by kernel_rfl, trivial⟩) ⟨2, rfl, h⟩
   · replace h := h.2 hb
     refine Zt r32_14 c32_16 ?_
     refine Zn [] 0 [(4, [], pv_ b_), (5, [], pv_ b_1), (6, [], pv_ b_2), (7, [], pv_ b_3), (8, [], .int .i64 0)] ?_
     obtain ⟨v16, hc, h⟩ := h
     refine Zl 72 4 b_ 0 72 16 hc ?_
     refine Zn [] 1 [(4, [], pv_ b_), (5, [], pv_ b_1), (6, [], pv_ b_2), (7, [], pv_ b_3), (8, [], .int .i64 0), (16, [], .pointer v16)] ?_
     obtain ⟨hp_3, h⟩ := h
     refine Zv (fun pp => [(4, [], pv_ b_), (5, [], pv_ b_1), (6, [], pv_ b_2), (7, [], pv_ b_3), (8, [], .int .i64 0), (16, [], .pointer pp)]) hp_3 ?_
     refine Zn P1 2 [(4, [], pv_ b_), (5, [], pv_ b_1), (6, [], pv_ b_2), (7, [], pv_ b_3), (8, [], .int .i64 0), (16, [], .pointer (some ⟨(pblk v16), (poff v16), none⟩)), (17, [], .pointer (some ⟨(pblk v16), (poff v16), none⟩))] ?_
     refine Zn P1 3 [(4, [], pv_ b_), (5, [], pv_ b_1), (6, [], pv_ b_2), (7, [], pv_ b_3), (8, [], .int .i64 0), (18, [], .pointer (some ⟨(pblk v16), (poff v16) + 8, none⟩))] ?_
     obtain ⟨v19, hc, h⟩ := h
     refine Zl 4 18 (pblk v16) ((poff v16) + 8) 4 19 hc ?_
     refine Zf P1 [(4, pv_ b_), (5, pv_ b_1), (6, pv_ b_2), (7, pv_ b_3), (8, .int .i64 0), (15, .bool v19)] ?_
     change WpE _ _ c32_16 _ _ _
     refine Zc 15 v19 c32_17 c32_21 (fun hb => ?_) (fun hb => ?_)
     · replace h := h.1 hb
       refine Zp c32_20 P1 [(8, .int .i64 10)] ?_
       refine wpE_ret (by kernel_rfl) ?_
       repeat (first | refine seqQ_ret ?_ | refine blockQ_ret ?_ | refine loopQ_ret ?_ | refine cutQ_ret ?_)
       exact retS (rs := [(ResultVar.tmp 8)]) (v := Value.int .i64 10) (by kernel_rfl) (⟨by kernel_rfl, trivial⟩) ⟨10, rfl, h⟩
     · replace h := h.2 hb
       refine wpE_seq_cut (x := c32_22) (y := c32_24) (by kernel_rfl) (fun l w => ∃ (t20 : Bool), l = [(4, pv_ b_), (5, pv_ b_1), (6, pv_ b_2), (7, pv_ b_3), (8, Value.int .i64 0), (20, Value.bool t20)] ∧ F_call_Task_Begin_k0 R b_ b_1 b_2 b_3 t20 w) ?_ ?_
       · refine Zr r32_22 ?_
         refine Zn [] 0 [(4, [], pv_ b_), (5, [], pv_ b_1), (6, [], pv_ b_2), (7, [], pv_ b_3), (8, [], .int .i64 0)] ?_
         obtain ⟨v21, hc, h⟩ := h
         refine Zl 3 5 b_1 0 3 21 hc ?_
         refine Zn P2 3 [(4, [], pv_ b_), (5, [], pv_ b_1), (6, [], pv_ b_2), (7, [], pv_ b_3), (8, [], .int .i64 0), (23, [], .bool (decide (v21 < 0)))] ?_
         refine reg_split 23 (decide (v21 < 0)) (by kernel_rfl) (fun hb => ?_) (fun hb => ?_)
         · replace h := h.1 hb
           refine Zn [] 3 [(4, [], pv_ b_), (5, [], pv_ b_1), (6, [], pv_ b_2), (7, [], pv_ b_3), (8, [], .int .i64 0), (23, [], .bool true)] ?_
           refine Zf [.skip, .skip, .plain, .plain, .skip, .skip, .plain, .plain, .skip, .skip, .skip, .plain, .plain, .skip, .skip, .skip, .skip, .skip, .plain, .plain] [(4, pv_ b_), (5, pv_ b_1), (6, pv_ b_2), (7, pv_ b_3), (8, .int .i64 0), (20, .bool true)] ?_
           exact ⟨[(4, pv_ b_), (5, pv_ b_1), (6, pv_ b_2), (7, pv_ b_3), (8, Value.int .i64 0), (20, Value.bool true)], Sub.mk (by kernel_rfl), true, rfl, h⟩
         · replace h := h.2 hb
           refine Zn [] 3 [(4, [], pv_ b_), (5, [], pv_ b_1), (6, [], pv_ b_2), (7, [], pv_ b_3), (8, [], .int .i64 0), (23, [], .bool false)] ?_
           refine Zn [] 3 [(4, [], pv_ b_), (5, [], pv_ b_1), (6, [], pv_ b_2), (7, [], pv_ b_3), (8, [], .int .i64 0), (23, [], .bool false)] ?_
           obtain ⟨v24, hc, h⟩ := h
           refine Zl 3 5 b_1 0 3 24 hc ?_
           refine Zn [.sure, .plain, .plain] 7 [(4, [], pv_ b_), (5, [], pv_ b_1), (6, [], pv_ b_2), (7, [], pv_ b_3), (8, [], .int .i64 0), (27, [], .bool (decide (v24 > 65536)))] ?_
           refine reg_split 27 (decide (v24 > 65536)) (by kernel_rfl) (fun hb => ?_) (fun hb => ?_)
           · replace h := h.1 hb
             refine Zn [] 7 [(4, [], pv_ b_), (5, [], pv_ b_1), (6, [], pv_ b_2), (7, [], pv_ b_3), (8, [], .int .i64 0), (27, [], .bool true)] ?_
             refine Zf [.skip, .skip, .plain, .plain, .skip, .skip, .skip, .plain, .plain, .skip, .skip, .skip, .skip, .skip, .plain, .plain] [(4, pv_ b_), (5, pv_ b_1), (6, pv_ b_2), (7, pv_ b_3), (8, .int .i64 0), (20, .bool true)] ?_
             exact ⟨[(4, pv_ b_), (5, pv_ b_1), (6, pv_ b_2), (7, pv_ b_3), (8, Value.int .i64 0), (20, Value.bool true)], Sub.mk (by kernel_rfl), true, rfl, h⟩
           · replace h := h.2 hb
             refine Zn [] 7 [(4, [], pv_ b_), (5, [], pv_ b_1), (6, [], pv_ b_2), (7, [], pv_ b_3), (8, [], .int .i64 0), (27, [], .bool false)] ?_
             refine Zn [] 7 [(4, [], pv_ b_), (5, [], pv_ b_1), (6, [], pv_ b_2), (7, [], pv_ b_3), (8, [], .int .i64 0), (27, [], .bool false)] ?_
             obtain ⟨v28, hc, h⟩ := h
             refine Zl 3 6 b_2 0 3 28 hc ?_
             refine Zn [.sure, .plain, .plain] 11 [(4, [], pv_ b_), (5, [], pv_ b_1), (6, [], pv_ b_2), (7, [], pv_ b_3), (8, [], .int .i64 0), (31, [], .bool (decide (v28 < 0)))] ?_
             refine reg_split 31 (decide (v28 < 0)) (by kernel_rfl) (fun hb => ?_) (fun hb => ?_)
             · replace h := h.1 hb
               refine Zn [] 11 [(4, [], pv_ b_), (5, [], pv_ b_1), (6, [], pv_ b_2), (7, [], pv_ b_3), (8, [], .int .i64 0), (31, [], .bool true)] ?_
               refine Zf [.skip, .skip, .skip, .plain, .plain, .skip, .skip, .skip, .skip, .skip, .plain, .plain] [(4, pv_ b_), (5, pv_ b_1), (6, pv_ b_2), (7, pv_ b_3), (8, .int .i64 0), (20, .bool true)] ?_
               exact ⟨[(4, pv_ b_), (5, pv_ b_1), (6, pv_ b_2), (7, pv_ b_3), (8, Value.int .i64 0), (20, Value.bool true)], Sub.mk (by kernel_rfl), true, rfl, h⟩
             · replace h := h.2 hb
               refine Zn [] 11 [(4, [], pv_ b_), (5, [], pv_ b_1), (6, [], pv_ b_2), (7, [], pv_ b_3), (8, [], .int .i64 0), (31, [], .bool false)] ?_
               refine Zn [] 11 [(4, [], pv_ b_), (5, [], pv_ b_1), (6, [], pv_ b_2), (7, [], pv_ b_3), (8, [], .int .i64 0), (31, [], .bool false)] ?_
               obtain ⟨v32, hc, h⟩ := h
               refine Zl 3 6 b_2 0 3 32 hc ?_
               refine Zn [] 12 [(4, [], pv_ b_), (5, [], pv_ b_1), (6, [], pv_ b_2), (7, [], pv_ b_3), (8, [], .int .i64 0), (31, [], .bool false), (32, [], .int .i64 v32)] ?_
               obtain ⟨v33, hc, h⟩ := h
               refine Zl 3 5 b_1 0 3 33 hc ?_
               refine Zn [.sure, .plain, .plain] 16 [(4, [], pv_ b_), (5, [], pv_ b_1), (6, [], pv_ b_2), (7, [], pv_ b_3), (8, [], .int .i64 0), (36, [], .bool (decide (v32 > v33)))] ?_
               refine reg_split 36 (decide (v32 > v33)) (by kernel_rfl) (fun hb => ?_) (fun hb => ?_)
               · replace h := h.1 hb
                 refine Zn [] 16 [(4, [], pv_ b_), (5, [], pv_ b_1), (6, [], pv_ b_2), (7, [], pv_ b_3), (8, [], .int .i64 0), (36, [], .bool true)] ?_
                 refine Zf [.skip, .skip, .skip, .skip, .skip, .plain, .plain] [(4, pv_ b_), (5, pv_ b_1), (6, pv_ b_2), (7, pv_ b_3), (8, .int .i64 0), (20, .bool true)] ?_
                 exact ⟨[(4, pv_ b_), (5, pv_ b_1), (6, pv_ b_2), (7, pv_ b_3), (8, Value.int .i64 0), (20, Value.bool true)], Sub.mk (by kernel_rfl), true, rfl, h⟩
               · replace h := h.2 hb
                 refine Zn [] 16 [(4, [], pv_ b_), (5, [], pv_ b_1), (6, [], pv_ b_2), (7, [], pv_ b_3), (8, [], .int .i64 0), (36, [], .bool false)] ?_
                 refine Zn [] 16 [(4, [], pv_ b_), (5, [], pv_ b_1), (6, [], pv_ b_2), (7, [], pv_ b_3), (8, [], .int .i64 0), (36, [], .bool false)] ?_
                 obtain ⟨v37, hc, h⟩ := h
                 refine Zl 23 7 b_3 0 23 37 hc ?_
                 refine Zn [] 17 [(4, [], pv_ b_), (5, [], pv_ b_1), (6, [], pv_ b_2), (7, [], pv_ b_3), (8, [], .int .i64 0), (36, [], .bool false), (37, [], sv_ v37)] ?_
                 obtain ⟨v38, hc, h⟩ := h
                 refine Zl 3 5 b_1 0 3 38 hc ?_
                 refine Zn [.sure] 19 [(4, [], pv_ b_), (5, [], pv_ b_1), (6, [], pv_ b_2), (7, [], pv_ b_3), (8, [], .int .i64 0), (36, [], .bool false), (37, [], sv_ v37), (39, [], .int .i64 (IntKind.i64.wrap (v38 + 1)))] ?_
                 refine Zm 64 #[sv_ v37, .int .i64 (IntKind.i64.wrap (v38 + 1))] (some 40) (Calls.mono h ?_)
                 rintro _ w41 ⟨v40, rfl, h⟩
                 refine ⟨_, rfl, ?_⟩
                 refine Zf [.sure, .plain, .plain] [(4, pv_ b_), (5, pv_ b_1), (6, pv_ b_2), (7, pv_ b_3), (8, .int .i64 0), (20, .bool (!v40))] ?_
                 exact ⟨[(4, pv_ b_), (5, pv_ b_1), (6, pv_ b_2), (7, pv_ b_3), (8, Value.int .i64 0), (20, Value.bool (!v40))], Sub.mk (by kernel_rfl), (!v40), rfl, h⟩
       · rintro _ w6 ⟨t20, rfl, h⟩
         unfold F_call_Task_Begin_k0 at h
         refine Zc 20 t20 c32_25 c32_29 (fun hb => ?_) (fun hb => ?_)
         · replace h := h.1 hb
           refine Zp c32_28 P1 [(8, .int .i64 1)] ?_
           refine wpE_ret (by kernel_rfl) ?_
           repeat (first | refine seqQ_ret ?_ | refine blockQ_ret ?_ | refine loopQ_ret ?_ | refine cutQ_ret ?_)
           exact retS (rs := [(ResultVar.tmp 8)]) (v := Value.int .i64 1) (by kernel_rfl) (⟨by kernel_rfl, trivial⟩) ⟨1, rfl, h⟩
         · replace h := h.2 hb
           refine wpE_skip (by kernel_rfl) ?_
           change WpE _ _ c32_30 _ _ _
           refine Zs c32_31 c32_33 ?_
           refine wpE_mixregionY (id := 7) (ops := r32_31) o_call_Task_Begin_31 (by kernel_rfl) (by kernel_rfl) (by kernel_rfl) (by kernel_rfl) (by kernel_rfl) (fun w7 hw => ?_)
           replace h := h w7 hw
           clear hw
           refine mreg_run [] 0 [(4, [], pv_ b_), (5, [], pv_ b_1), (6, [], pv_ b_2), (7, [], pv_ b_3), (8, [], Value.int .i64 0)] (by kernel_rfl) (by kernel_rfl) ?_
           obtain ⟨v43, hc, h⟩ := h
           refine mreg_load1 (i := 0) (by kernel_rfl) (t := 72) (a := (Operand.tmp 4)) (b := b_) (o := 0) (ty := 72) (dst := some 43) (by kernel_rfl) (by kernel_rfl) (by kernel_rfl) hc ?_
           refine mreg_run [] 1 [(4, [], pv_ b_), (5, [], pv_ b_1), (6, [], pv_ b_2), (7, [], pv_ b_3), (8, [], Value.int .i64 0), (43, [], Value.pointer v43)] (by kernel_rfl) (by kernel_rfl) ?_
           obtain ⟨v44, hc, h⟩ := h
           refine mreg_load1 (i := 1) (by kernel_rfl) (t := 72) (a := (Operand.tmp 4)) (b := b_) (o := 0) (ty := 72) (dst := some 44) (by kernel_rfl) (by kernel_rfl) (by kernel_rfl) hc ?_
           refine mreg_run [] 2 [(4, [], pv_ b_), (5, [], pv_ b_1), (6, [], pv_ b_2), (7, [], pv_ b_3), (8, [], Value.int .i64 0), (43, [], Value.pointer v43), (44, [], Value.pointer v44)] (by kernel_rfl) (by kernel_rfl) ?_
           obtain ⟨v45, hc, h⟩ := h
           refine mreg_load1 (i := 2) (by kernel_rfl) (t := 3) (a := (Operand.tmp 5)) (b := b_1) (o := 0) (ty := 3) (dst := some 45) (by kernel_rfl) (by kernel_rfl) (by kernel_rfl) hc ?_
           refine mreg_run [] 3 [(4, [], pv_ b_), (5, [], pv_ b_1), (6, [], pv_ b_2), (7, [], pv_ b_3), (8, [], Value.int .i64 0), (43, [], Value.pointer v43), (44, [], Value.pointer v44), (45, [], Value.int .i64 v45)] (by kernel_rfl) (by kernel_rfl) ?_
           obtain ⟨hp_6, h⟩ := h
           refine mreg_conv [(4, [], pv_ b_), (5, [], pv_ b_1), (6, [], pv_ b_2), (7, [], pv_ b_3), (8, [], Value.int .i64 0), (43, [], Value.pointer (some ⟨(pblk v43), (poff v43), none⟩)), (44, [], Value.pointer v44), (45, [], Value.int .i64 v45)] (congrArg (fun pp => ([(4, [], pv_ b_), (5, [], pv_ b_1), (6, [], pv_ b_2), (7, [], pv_ b_3), (8, [], Value.int .i64 0), (43, [], Value.pointer pp), (44, [], Value.pointer v44), (45, [], Value.int .i64 v45)] : GEnv)) hp_6) ?_
           refine mreg_run P1 4 [(4, [], pv_ b_), (5, [], pv_ b_1), (6, [], pv_ b_2), (7, [], pv_ b_3), (8, [], Value.int .i64 0), (43, [], Value.pointer (some ⟨(pblk v43), (poff v43), none⟩)), (44, [], Value.pointer v44), (45, [], Value.int .i64 v45), (46, [], Value.pointer (some ⟨(pblk v43), (poff v43), none⟩))] (by kernel_rfl) (by kernel_rfl) ?_
           refine mreg_run P1 5 [(4, [], pv_ b_), (5, [], pv_ b_1), (6, [], pv_ b_2), (7, [], pv_ b_3), (8, [], Value.int .i64 0), (44, [], Value.pointer v44), (45, [], Value.int .i64 v45), (47, [], Value.pointer (some ⟨(pblk v43), (poff v43) + 8, none⟩))] (by kernel_rfl) (by kernel_rfl) ?_
           obtain ⟨hc, h⟩ := h
           refine mreg_store (t := 4) (a := (Operand.tmp 47)) (x := (Operand.const (Value.bool true))) (b := (pblk v43)) (o := ((poff v43) + 8)) (k := 1) (ty := 0) (dst := none) 5 [0, 4, 3] [(2, fun w' => w'.cell? ⟨b_1, 0, none⟩ = some (Value.int .i64 v45)), (1, fun w' => w'.cell? ⟨b_, 0, none⟩ = some (Value.pointer v44))] [Value.bool true] (by kernel_rfl) (by kernel_rfl) (by kernel_rfl) (by kernel_rfl) (by kernel_rfl) (by kernel_rfl) (by kernel_rfl) (by kernel_rfl) (by kernel_rfl) (by kernel_rfl) hc (fun w8 hw => ?_)
           replace h := h w8 hw
           clear hw
           obtain ⟨hk0, hk1, h⟩ := h
           refine ⟨⟨hk0, hk1, trivial⟩, ?_⟩
           refine mreg_run [] 6 [(4, [], pv_ b_), (5, [], pv_ b_1), (6, [], pv_ b_2), (7, [], pv_ b_3), (8, [], Value.int .i64 0), (44, [], Value.pointer v44), (45, [], Value.int .i64 v45)] (by kernel_rfl) (by kernel_rfl) ?_
           obtain ⟨hp_7, h⟩ := h
           refine mreg_conv [(4, [], pv_ b_), (5, [], pv_ b_1), (6, [], pv_ b_2), (7, [], pv_ b_3), (8, [], Value.int .i64 0), (44, [], Value.pointer (some ⟨(pblk v44), (poff v44), none⟩)), (45, [], Value.int .i64 v45)] (congrArg (fun pp => ([(4, [], pv_ b_), (5, [], pv_ b_1), (6, [], pv_ b_2), (7, [], pv_ b_3), (8, [], Value.int .i64 0), (44, [], Value.pointer pp), (45, [], Value.int .i64 v45)] : GEnv)) hp_7) ?_
           refine mreg_run P1 7 [(4, [], pv_ b_), (5, [], pv_ b_1), (6, [], pv_ b_2), (7, [], pv_ b_3), (8, [], Value.int .i64 0), (44, [], Value.pointer (some ⟨(pblk v44), (poff v44), none⟩)), (45, [], Value.int .i64 v45), (48, [], Value.pointer (some ⟨(pblk v44), (poff v44), none⟩))] (by kernel_rfl) (by kernel_rfl) ?_
           refine mreg_run P1 8 [(4, [], pv_ b_), (5, [], pv_ b_1), (6, [], pv_ b_2), (7, [], pv_ b_3), (8, [], Value.int .i64 0), (45, [], Value.int .i64 v45), (49, [], Value.pointer (some ⟨(pblk v44), (poff v44) + 9, none⟩))] (by kernel_rfl) (by kernel_rfl) ?_
           obtain ⟨hc, h⟩ := h
           refine mreg_store (t := 3) (a := (Operand.tmp 49)) (x := (Operand.tmp 45)) (b := (pblk v44)) (o := ((poff v44) + 9)) (k := 1) (ty := 0) (dst := none) 8 [0, 1, 2, 3, 4, 5, 7, 6] [] [Value.int .i64 v45] (by kernel_rfl) (by kernel_rfl) (by kernel_rfl) (by kernel_rfl) (by kernel_rfl) (by kernel_rfl) (by kernel_rfl) (by kernel_rfl) (by kernel_rfl) (by kernel_rfl) hc (fun w9 hw => ?_)
           replace h := h w9 hw
           clear hw
           refine ⟨trivial, ?_⟩
           refine mreg_end [(4, pv_ b_), (5, pv_ b_1), (6, pv_ b_2), (7, pv_ b_3), (8, Value.int .i64 0)] (by kernel_rfl) (by kernel_rfl) (by kernel_rfl) ?_
           change WpE _ _ c32_33 _ _ _
           refine wpE_seq_range (x := c32_34) (r1 := c32_35) (b := c32_37) (id := 1) (rg := c32_38) (rest := c32_77) (assign := c32_39) (body := c32_41) (g := (Operand.tmp 51)) (ps := [52]) (psa := #[52]) (by kernel_rfl) (by kernel_rfl) (by kernel_rfl) (by kernel_rfl) (by kernel_rfl) ?_
           refine Zr r32_35 ?_
           refine Zn [] 0 [(4, [], pv_ b_), (5, [], pv_ b_1), (6, [], pv_ b_2), (7, [], pv_ b_3), (8, [], .int .i64 0)] ?_
           obtain ⟨v50, hc, h⟩ := h
           refine Zl 72 4 b_ 0 72 50 hc ?_
           refine Zn [] 1 [(4, [], pv_ b_), (5, [], pv_ b_1), (6, [], pv_ b_2), (7, [], pv_ b_3), (8, [], .int .i64 0), (50, [], .pointer v50)] ?_
           refine Zm 65 #[.pointer v50] (some 51) (Calls.mono h ?_)
           rintro _ w10 ⟨v51, rfl, h⟩
           refine ⟨_, rfl, ?_⟩
           refine Ze [(4, pv_ b_), (5, pv_ b_1), (6, pv_ b_2), (7, pv_ b_3), (8, .int .i64 0), (51, v51)] ?_
           refine rangeJ_mk (gv := v51) (by kernel_rfl) (by kernel_rfl) (fun rec_ D w11 hD_ hw_ hB_ => ?_)
           have hB_ : ∀ (t52 : Int) (w12 : World) (Kb : Bool → World → Prop), w12.heap[D + 1]? = some (.loop (rec_ .ready none)) → (∀ w36, w36 = w12.putObj (D + 1) (.loop (rec_ .busy none)) → F_call_Task_Begin_B1 b_ b_1 b_2 b_3 rec_ D Kb t52 w36) → CallsY (P := Try.prog) (yieldV (D + 1)) #[Value.int .i64 t52] w12 (fun e_ W_ => ∃ b_, e_ = Ending.returned (.bool b_) ∧ Kb b_ W_) := by
             clear h
             intro t52 w12 Kb hl_ hf_
             refine hB_ [Value.int .i64 t52] w12 _ (by kernel_rfl) hl_ ?_
             letI : Rnd := mkRnd (some (D + 1)) [] noEsc
             change WpE _ _ c32_39 _ _ _
             refine Zr r32_39 ?_
             refine Zf P1 [(4, pv_ b_), (5, pv_ b_1), (6, pv_ b_2), (7, pv_ b_3), (9, .int .i64 t52)] ?_
             refine And.intro hl_ (fun w13 hw_ => ?_)
             have h := hf_ w13 hw_
             clear hw_ hf_ hl_
             unfold F_call_Task_Begin_B1 at h
             change WpE _ _ c32_41 _ _ _
             refine Zb 2 c32_42 ?_
             refine Zs c32_43 c32_45 ?_
             refine wpE_mixregionY (id := 10) (ops := r32_43) o_call_Task_Begin_43 (by kernel_rfl) (by kernel_rfl) (by kernel_rfl) (by kernel_rfl) (by kernel_rfl) (fun w14 hw => ?_)
             replace h := h w14 hw
             clear hw
             refine mreg_run [] 0 [(4, [], pv_ b_), (5, [], pv_ b_1), (6, [], pv_ b_2), (7, [], pv_ b_3), (9, [], Value.int .i64 t52)] (by kernel_rfl) (by kernel_rfl) ?_
             obtain ⟨v53, hc, h⟩ := h
             refine mreg_load1 (i := 0) (by kernel_rfl) (t := 72) (a := (Operand.tmp 4)) (b := b_) (o := 0) (ty := 72) (dst := some 53) (by kernel_rfl) (by kernel_rfl) (by kernel_rfl) hc ?_
             refine mreg_run [] 1 [(4, [], pv_ b_), (5, [], pv_ b_1), (6, [], pv_ b_2), (7, [], pv_ b_3), (9, [], Value.int .i64 t52), (53, [], Value.pointer v53)] (by kernel_rfl) (by kernel_rfl) ?_
             obtain ⟨hp_9, h⟩ := h
             refine mreg_conv [(4, [], pv_ b_), (5, [], pv_ b_1), (6, [], pv_ b_2), (7, [], pv_ b_3), (9, [], Value.int .i64 t52), (53, [], Value.pointer (some ⟨(pblk v53), (poff v53), none⟩))] (congrArg (fun pp => ([(4, [], pv_ b_), (5, [], pv_ b_1), (6, [], pv_ b_2), (7, [], pv_ b_3), (9, [], Value.int .i64 t52), (53, [], Value.pointer pp)] : GEnv)) hp_9) ?_
             refine mreg_run P1 2 [(4, [], pv_ b_), (5, [], pv_ b_1), (6, [], pv_ b_2), (7, [], pv_ b_3), (9, [], Value.int .i64 t52), (53, [], Value.pointer (some ⟨(pblk v53), (poff v53), none⟩)), (54, [], Value.pointer (some ⟨(pblk v53), (poff v53), none⟩))] (by kernel_rfl) (by kernel_rfl) ?_
             refine mreg_run P1 3 [(4, [], pv_ b_), (5, [], pv_ b_1), (6, [], pv_ b_2), (7, [], pv_ b_3), (9, [], Value.int .i64 t52), (55, [], Value.pointer (some ⟨(pblk v53), (poff v53), none⟩))] (by kernel_rfl) (by kernel_rfl) ?_
             obtain ⟨v56, hc, h⟩ := h
             refine mreg_load1 (i := 3) (by kernel_rfl) (t := 3) (a := (Operand.tmp 55)) (b := (pblk v53)) (o := (poff v53)) (ty := 3) (dst := some 56) (by kernel_rfl) (by kernel_rfl) (by kernel_rfl) hc ?_
             refine mreg_run [] 4 [(4, [], pv_ b_), (5, [], pv_ b_1), (6, [], pv_ b_2), (7, [], pv_ b_3), (9, [], Value.int .i64 t52), (56, [], Value.int .i64 v56)] (by kernel_rfl) (by kernel_rfl) ?_
             obtain ⟨v57, hc, h⟩ := h
             refine mreg_load1 (i := 4) (by kernel_rfl) (t := 3) (a := (Operand.tmp 5)) (b := b_1) (o := 0) (ty := 3) (dst := some 57) (by kernel_rfl) (by kernel_rfl) (by kernel_rfl) hc ?_
             refine mreg_run P1 6 [(4, [], pv_ b_), (6, [], pv_ b_2), (7, [], pv_ b_3), (9, [], Value.int .i64 t52), (58, [], Value.agg #[Value.int .u8 0, Value.int .i64 v56, Value.int .i64 v57, Value.string ByteArray.empty, Value.string ByteArray.empty, Value.bool false, Value.string ByteArray.empty, Value.string ByteArray.empty, Value.slice none 0 0])] (by kernel_rfl) (by kernel_rfl) ?_
             refine mreg_new (op := (Op.alloc 80)) (ty := 0) (dst := some 10) 6 [] [(4, fun w' => w'.cell? ⟨b_1, 0, none⟩ = some (Value.int .i64 v57)), (3, fun w' => w'.cell? ⟨(pblk v53), (poff v53), none⟩ = some (Value.int .i64 v56)), (0, fun w' => w'.cell? ⟨b_, 0, none⟩ = some (Value.pointer v53))] (fun bb => pv_ bb) (Obj.cells ([Value.int .u8 0, Value.int .i64 0, Value.int .i64 0, Value.string ByteArray.empty, Value.string ByteArray.empty, Value.bool false, Value.string ByteArray.empty, Value.string ByteArray.empty, Value.slice none 0 0]).toArray ty_api_Req (0, 0)) (by kernel_rfl) (by kernel_rfl) (by kernel_rfl) (by kernel_rfl) (by kernel_rfl) (by kernel_rfl) (fun b_4 w15 hb hw => ?_)
             replace h := h b_4 w15 hb hw
             clear hb hw
             obtain ⟨hk0, hk1, hk2, h⟩ := h
             refine ⟨⟨hk0, hk1, hk2, trivial⟩, ?_⟩
             refine mreg_run [] 7 [(4, [], pv_ b_), (6, [], pv_ b_2), (7, [], pv_ b_3), (9, [], Value.int .i64 t52), (10, [], pv_ b_4), (58, [], Value.agg #[Value.int .u8 0, Value.int .i64 v56, Value.int .i64 v57, Value.string ByteArray.empty, Value.string ByteArray.empty, Value.bool false, Value.string ByteArray.empty, Value.string ByteArray.empty, Value.slice none 0 0])] (by kernel_rfl) (by kernel_rfl) ?_
             obtain ⟨hc, h⟩ := h
             refine mreg_store (t := 80) (a := (Operand.tmp 10)) (x := (Operand.tmp 58)) (b := b_4) (o := 0) (k := 9) (ty := 0) (dst := none) 7 [0, 1, 2, 3, 4, 5, 6] [] [Value.int .u8 0, Value.int .i64 v56, Value.int .i64 v57, Value.string ByteArray.empty, Value.string ByteArray.empty, Value.bool false, Value.string ByteArray.empty, Value.string ByteArray.empty, Value.slice none 0 0] (by kernel_rfl) (by kernel_rfl) (by kernel_rfl) (by kernel_rfl) (by kernel_rfl) (by kernel_rfl) (by kernel_rfl) (by kernel_rfl) (by kernel_rfl) (by kernel_rfl) hc (fun w16 hw => ?_)
             replace h := h w16 hw
             clear hw
             refine ⟨trivial, ?_⟩
             refine mreg_end [(4, pv_ b_), (6, pv_ b_2), (7, pv_ b_3), (9, Value.int .i64 t52), (10, pv_ b_4)] (by kernel_rfl) (by kernel_rfl) (by kernel_rfl) ?_
             change WpE _ _ c32_45 _ _ _
             refine wpE_seq_cut (x := c32_46) (y := c32_75) (by kernel_rfl) (fun l w => l = [(4, pv_ b_), (9, Value.int .i64 t52), (10, pv_ b_4)] ∧ F_call_Task_Begin_k2 b_ D rec_ Kb t52 b_4 w) ?_ ?_
             · refine Zt r32_47 c32_49 ?_
               refine Zn [] 0 [(4, [], pv_ b_), (6, [], pv_ b_2), (7, [], pv_ b_3), (9, [], .int .i64 t52), (10, [], pv_ b_4)] ?_
               obtain ⟨v59, hc, h⟩ := h
               refine Zl 72 4 b_ 0 72 59 hc ?_
               refine Zn [] 1 [(4, [], pv_ b_), (6, [], pv_ b_2), (7, [], pv_ b_3), (9, [], .int .i64 t52), (10, [], pv_ b_4), (59, [], .pointer v59)] ?_
               obtain ⟨hp_18, h⟩ := h
               refine Zv (fun pp => [(4, [], pv_ b_), (6, [], pv_ b_2), (7, [], pv_ b_3), (9, [], .int .i64 t52), (10, [], pv_ b_4), (59, [], .pointer pp)]) hp_18 ?_
               refine Zn P1 2 [(4, [], pv_ b_), (6, [], pv_ b_2), (7, [], pv_ b_3), (9, [], .int .i64 t52), (10, [], pv_ b_4), (59, [], .pointer (some ⟨(pblk v59), (poff v59), none⟩)), (60, [], .pointer (some ⟨(pblk v59), (poff v59), none⟩))] ?_
               refine Zn P2 4 [(4, [], pv_ b_), (6, [], pv_ b_2), (7, [], pv_ b_3), (9, [], .int .i64 t52), (10, [], pv_ b_4), (62, [], .pointer (some ⟨(pblk v59), (poff v59) + 5, none⟩))] ?_
               obtain ⟨v63, hc, h⟩ := h
               refine Zl 63 62 (pblk v59) ((poff v59) + 5) 63 63 hc ?_
               refine Ze [(4, pv_ b_), (6, pv_ b_2), (7, pv_ b_3), (9, .int .i64 t52), (10, pv_ b_4), (63, .int .u8 v63)] ?_
               change WpE _ _ c32_49 _ _ _
               refine Zb 3 c32_50 ?_
               refine Zp c32_53 P2 [(4, pv_ b_), (6, pv_ b_2), (7, pv_ b_3), (9, .int .i64 t52), (10, pv_ b_4), (63, .int .u8 v63), (64, .bool (v63 == 1))] ?_
               refine Zc 64 (v63 == 1) c32_54 c32_56 (fun hb => ?_) (fun hb => ?_)
               · replace h := h.1 hb
                 refine wpE_mixregionY (id := 13) (ops := r32_54) o_call_Task_Begin_54 (by kernel_rfl) (by kernel_rfl) (by kernel_rfl) (by kernel_rfl) (by kernel_rfl) (fun w23 hw => ?_)
                 replace h := h w23 hw
                 clear hw
                 refine mreg_run [] 0 [(4, [], pv_ b_), (9, [], Value.int .i64 t52), (10, [], pv_ b_4)] (by kernel_rfl) (by kernel_rfl) ?_
                 obtain ⟨v66, hc, h⟩ := h
                 refine mreg_load1 (i := 0) (by kernel_rfl) (t := 72) (a := (Operand.tmp 4)) (b := b_) (o := 0) (ty := 72) (dst := some 66) (by kernel_rfl) (by kernel_rfl) (by kernel_rfl) hc ?_
                 refine mreg_run [] 1 [(4, [], pv_ b_), (9, [], Value.int .i64 t52), (10, [], pv_ b_4), (66, [], Value.pointer v66)] (by kernel_rfl) (by kernel_rfl) ?_
                 obtain ⟨hp_19, h⟩ := h
                 refine mreg_conv [(4, [], pv_ b_), (9, [], Value.int .i64 t52), (10, [], pv_ b_4), (66, [], Value.pointer (some ⟨(pblk v66), (poff v66), none⟩))] (congrArg (fun pp => ([(4, [], pv_ b_), (9, [], Value.int .i64 t52), (10, [], pv_ b_4), (66, [], Value.pointer pp)] : GEnv)) hp_19) ?_
                 refine mreg_run P1 2 [(4, [], pv_ b_), (9, [], Value.int .i64 t52), (10, [], pv_ b_4), (66, [], Value.pointer (some ⟨(pblk v66), (poff v66), none⟩)), (67, [], Value.pointer (some ⟨(pblk v66), (poff v66), none⟩))] (by kernel_rfl) (by kernel_rfl) ?_
                 refine mreg_run P2 4 [(4, [], pv_ b_), (9, [], Value.int .i64 t52), (10, [], pv_ b_4), (69, [], Value.pointer (some ⟨(pblk v66), (poff v66) + 6, none⟩))] (by kernel_rfl) (by kernel_rfl) ?_
                 obtain ⟨v70, hc, h⟩ := h
                 refine mreg_load1 (i := 4) (by kernel_rfl) (t := 9) (a := (Operand.tmp 69)) (b := (pblk v66)) (o := ((poff v66) + 6)) (ty := 9) (dst := some 70) (by kernel_rfl) (by kernel_rfl) (by kernel_rfl) hc ?_
                 refine mreg_run P1 6 [(4, [], pv_ b_), (9, [], Value.int .i64 t52), (10, [], pv_ b_4), (70, [], Value.string v70), (71, [], pv_ b_4)] (by kernel_rfl) (by kernel_rfl) ?_
                 obtain ⟨hc, h⟩ := h
                 refine mreg_store (t := 76) (a := (Operand.tmp 71)) (x := (Operand.const (Value.int Go.IntKind.u8 2))) (b := b_4) (o := 0) (k := 1) (ty := 0) (dst := none) 6 [5] [(4, fun w' => w'.cell? ⟨(pblk v66), (poff v66) + 6, none⟩ = some (Value.string v70)), (0, fun w' => w'.cell? ⟨b_, 0, none⟩ = some (Value.pointer v66))] [Value.int .u8 2] (by kernel_rfl) (by kernel_rfl) (by kernel_rfl) (by kernel_rfl) (by kernel_rfl) (by kernel_rfl) (by kernel_rfl) (by kernel_rfl) (by kernel_rfl) (by kernel_rfl) hc (fun w24 hw => ?_)
                 replace h := h w24 hw
                 clear hw
                 obtain ⟨hk0, hk1, h⟩ := h
                 refine ⟨⟨hk0, hk1, trivial⟩, ?_⟩
                 refine mreg_run P1 8 [(4, [], pv_ b_), (9, [], Value.int .i64 t52), (10, [], pv_ b_4), (70, [], Value.string v70), (72, [], Value.pointer (some ⟨b_4, 6, none⟩))] (by kernel_rfl) (by kernel_rfl) ?_
                 obtain ⟨hc, h⟩ := h
                 refine mreg_store (t := 9) (a := (Operand.tmp 72)) (x := (Operand.tmp 70)) (b := b_4) (o := 6) (k := 1) (ty := 0) (dst := none) 8 [0, 1, 2, 3, 4, 5, 6, 7] [] [Value.string v70] (by kernel_rfl) (by kernel_rfl) (by kernel_rfl) (by kernel_rfl) (by kernel_rfl) (by kernel_rfl) (by kernel_rfl) (by kernel_rfl) (by kernel_rfl) (by kernel_rfl) hc (fun w25 hw => ?_)
                 replace h := h w25 hw
                 clear hw
                 refine ⟨trivial, ?_⟩
                 refine mreg_end [(4, pv_ b_), (9, Value.int .i64 t52), (10, pv_ b_4)] (by kernel_rfl) (by kernel_rfl) (by kernel_rfl) ?_
                 exact ⟨[(4, pv_ b_), (9, Value.int .i64 t52), (10, pv_ b_4)], Sub.mk (by kernel_rfl), rfl, h⟩
               · replace h := h.2 hb
                 refine Zp c32_59 P2 [(4, pv_ b_), (6, pv_ b_2), (7, pv_ b_3), (9, .int .i64 t52), (10, pv_ b_4), (63, .int .u8 v63), (73, .bool (v63 == 2))] ?_
                 refine Zc 73 (v63 == 2) c32_60 c32_62 (fun hb => ?_) (fun hb => ?_)
                 · replace h := h.1 hb
                   refine wpE_mixregionY (id := 15) (ops := r32_60) o_call_Task_Begin_60 (by kernel_rfl) (by kernel_rfl) (by kernel_rfl) (by kernel_rfl) (by kernel_rfl) (fun w26 hw => ?_)
                   replace h := h w26 hw
                   clear hw
                   refine mreg_run [] 0 [(4, [], pv_ b_), (9, [], Value.int .i64 t52), (10, [], pv_ b_4)] (by kernel_rfl) (by kernel_rfl) ?_
                   obtain ⟨v75, hc, h⟩ := h
                   refine mreg_load1 (i := 0) (by kernel_rfl) (t := 72) (a := (Operand.tmp 4)) (b := b_) (o := 0) (ty := 72) (dst := some 75) (by kernel_rfl) (by kernel_rfl) (by kernel_rfl) hc ?_
                   refine mreg_run [] 1 [(4, [], pv_ b_), (9, [], Value.int .i64 t52), (10, [], pv_ b_4), (75, [], Value.pointer v75)] (by kernel_rfl) (by kernel_rfl) ?_
                   obtain ⟨hp_20, h⟩ := h
                   refine mreg_conv [(4, [], pv_ b_), (9, [], Value.int .i64 t52), (10, [], pv_ b_4), (75, [], Value.pointer (some ⟨(pblk v75), (poff v75), none⟩))] (congrArg (fun pp => ([(4, [], pv_ b_), (9, [], Value.int .i64 t52), (10, [], pv_ b_4), (75, [], Value.pointer pp)] : GEnv)) hp_20) ?_
                   refine mreg_run P1 2 [(4, [], pv_ b_), (9, [], Value.int .i64 t52), (10, [], pv_ b_4), (75, [], Value.pointer (some ⟨(pblk v75), (poff v75), none⟩)), (76, [], Value.pointer (some ⟨(pblk v75), (poff v75), none⟩))] (by kernel_rfl) (by kernel_rfl) ?_
                   refine mreg_run P2 4 [(4, [], pv_ b_), (9, [], Value.int .i64 t52), (10, [], pv_ b_4), (78, [], Value.pointer (some ⟨(pblk v75), (poff v75) + 6, none⟩))] (by kernel_rfl) (by kernel_rfl) ?_
                   obtain ⟨v79, hc, h⟩ := h
                   refine mreg_load1 (i := 4) (by kernel_rfl) (t := 9) (a := (Operand.tmp 78)) (b := (pblk v75)) (o := ((poff v75) + 6)) (ty := 9) (dst := some 79) (by kernel_rfl) (by kernel_rfl) (by kernel_rfl) hc ?_
                   refine mreg_run [] 5 [(4, [], pv_ b_), (9, [], Value.int .i64 t52), (10, [], pv_ b_4), (79, [], Value.string v79)] (by kernel_rfl) (by kernel_rfl) ?_
                   obtain ⟨v80, hc, h⟩ := h
                   refine mreg_load1 (i := 5) (by kernel_rfl) (t := 72) (a := (Operand.tmp 4)) (b := b_) (o := 0) (ty := 72) (dst := some 80) (by kernel_rfl) (by kernel_rfl) (by kernel_rfl) hc ?_
                   refine mreg_run [] 6 [(4, [], pv_ b_), (9, [], Value.int .i64 t52), (10, [], pv_ b_4), (79, [], Value.string v79), (80, [], Value.pointer v80)] (by kernel_rfl) (by kernel_rfl) ?_
                   obtain ⟨hp_21, h⟩ := h
                   refine mreg_conv [(4, [], pv_ b_), (9, [], Value.int .i64 t52), (10, [], pv_ b_4), (79, [], Value.string v79), (80, [], Value.pointer (some ⟨(pblk v80), (poff v80), none⟩))] (congrArg (fun pp => ([(4, [], pv_ b_), (9, [], Value.int .i64 t52), (10, [], pv_ b_4), (79, [], Value.string v79), (80, [], Value.pointer pp)] : GEnv)) hp_21) ?_
                   refine mreg_run P1 7 [(4, [], pv_ b_), (9, [], Value.int .i64 t52), (10, [], pv_ b_4), (79, [], Value.string v79), (80, [], Value.pointer (some ⟨(pblk v80), (poff v80), none⟩)), (81, [], Value.pointer (some ⟨(pblk v80), (poff v80), none⟩))] (by kernel_rfl) (by kernel_rfl) ?_
                   refine mreg_run P2 9 [(4, [], pv_ b_), (9, [], Value.int .i64 t52), (10, [], pv_ b_4), (79, [], Value.string v79), (83, [], Value.pointer (some ⟨(pblk v80), (poff v80) + 7, none⟩))] (by kernel_rfl) (by kernel_rfl) ?_
                   obtain ⟨v84, hc, h⟩ := h
                   refine mreg_load1 (i := 9) (by kernel_rfl) (t := 9) (a := (Operand.tmp 83)) (b := (pblk v80)) (o := ((poff v80) + 7)) (ty := 9) (dst := some 84) (by kernel_rfl) (by kernel_rfl) (by kernel_rfl) hc ?_
                   refine mreg_run P1 11 [(4, [], pv_ b_), (9, [], Value.int .i64 t52), (10, [], pv_ b_4), (79, [], Value.string v79), (84, [], Value.string v84), (85, [], pv_ b_4)] (by kernel_rfl) (by kernel_rfl) ?_
                   obtain ⟨hc, h⟩ := h
                   refine mreg_store (t := 76) (a := (Operand.tmp 85)) (x := (Operand.const (Value.int Go.IntKind.u8 3))) (b := b_4) (o := 0) (k := 1) (ty := 0) (dst := none) 11 [10] [(9, fun w' => w'.cell? ⟨(pblk v80), (poff v80) + 7, none⟩ = some (Value.string v84)), (5, fun w' => w'.cell? ⟨b_, 0, none⟩ = some (Value.pointer v80)), (4, fun w' => w'.cell? ⟨(pblk v75), (poff v75) + 6, none⟩ = some (Value.string v79)), (0, fun w' => w'.cell? ⟨b_, 0, none⟩ = some (Value.pointer v75))] [Value.int .u8 3] (by kernel_rfl) (by kernel_rfl) (by kernel_rfl) (by kernel_rfl) (by kernel_rfl) (by kernel_rfl) (by kernel_rfl) (by kernel_rfl) (by kernel_rfl) (by kernel_rfl) hc (fun w27 hw => ?_)
                   replace h := h w27 hw
                   clear hw
                   obtain ⟨hk0, hk1, hk2, hk3, h⟩ := h
                   refine ⟨⟨hk0, hk1, hk2, hk3, trivial⟩, ?_⟩
                   refine mreg_run P1 13 [(4, [], pv_ b_), (9, [], Value.int .i64 t52), (10, [], pv_ b_4), (79, [], Value.string v79), (84, [], Value.string v84), (86, [], Value.pointer (some ⟨b_4, 6, none⟩))] (by kernel_rfl) (by kernel_rfl) ?_
                   obtain ⟨hc, h⟩ := h
                   refine mreg_store (t := 9) (a := (Operand.tmp 86)) (x := (Operand.tmp 79)) (b := b_4) (o := 6) (k := 1) (ty := 0) (dst := none) 13 [0, 1, 2, 3, 4, 10, 11, 12] [(9, fun w' => w'.cell? ⟨(pblk v80), (poff v80) + 7, none⟩ = some (Value.string v84)), (5, fun w' => w'.cell? ⟨b_, 0, none⟩ = some (Value.pointer v80))] [Value.string v79] (by kernel_rfl) (by kernel_rfl) (by kernel_rfl) (by kernel_rfl) (by kernel_rfl) (by kernel_rfl) (by kernel_rfl) (by kernel_rfl) (by kernel_rfl) (by kernel_rfl) hc (fun w28 hw => ?_)
                   replace h := h w28 hw
                   clear hw
                   obtain ⟨hk0, hk1, h⟩ := h
                   refine ⟨⟨hk0, hk1, trivial⟩, ?_⟩
                   refine mreg_run P1 15 [(4, [], pv_ b_), (9, [], Value.int .i64 t52), (10, [], pv_ b_4), (84, [], Value.string v84), (87, [], Value.pointer (some ⟨b_4, 7, none⟩))] (by kernel_rfl) (by kernel_rfl) ?_
                   obtain ⟨hc, h⟩ := h
                   refine mreg_store (t := 9) (a := (Operand.tmp 87)) (x := (Operand.tmp 84)) (b := b_4) (o := 7) (k := 1) (ty := 0) (dst := none) 15 [0, 1, 2, 3, 4, 5, 6, 7, 8, 9, 10, 11, 12, 13, 14] [] [Value.string v84] (by kernel_rfl) (by kernel_rfl) (by kernel_rfl) (by kernel_rfl) (by kernel_rfl) (by kernel_rfl) (by kernel_rfl) (by kernel_rfl) (by kernel_rfl) (by kernel_rfl) hc (fun w29 hw => ?_)
                   replace h := h w29 hw
                   clear hw
                   refine ⟨trivial, ?_⟩
                   refine mreg_end [(4, pv_ b_), (9, Value.int .i64 t52), (10, pv_ b_4)] (by kernel_rfl) (by kernel_rfl) (by kernel_rfl) ?_
                   exact ⟨[(4, pv_ b_), (9, Value.int .i64 t52), (10, pv_ b_4)], Sub.mk (by kernel_rfl), rfl, h⟩
                 · replace h := h.2 hb
                   refine Zp c32_65 P2 [(4, pv_ b_), (6, pv_ b_2), (7, pv_ b_3), (9, .int .i64 t52), (10, pv_ b_4), (63, .int .u8 v63), (88, .bool (v63 == 3))] ?_
                   refine Zc 88 (v63 == 3) c32_66 c32_68 (fun hb => ?_) (fun hb => ?_)
                   · replace h := h.1 hb
                     refine wpE_mixregionY (id := 17) (ops := r32_66) o_call_Task_Begin_66 (by kernel_rfl) (by kernel_rfl) (by kernel_rfl) (by kernel_rfl) (by kernel_rfl) (fun w30 hw => ?_)
                     replace h := h w30 hw
                     clear hw
                     refine mreg_run [] 0 [(4, [], pv_ b_), (6, [], pv_ b_2), (9, [], Value.int .i64 t52), (10, [], pv_ b_4)] (by kernel_rfl) (by kernel_rfl) ?_
                     obtain ⟨v90, hc, h⟩ := h
                     refine mreg_load1 (i := 0) (by kernel_rfl) (t := 3) (a := (Operand.tmp 6)) (b := b_2) (o := 0) (ty := 3) (dst := some 90) (by kernel_rfl) (by kernel_rfl) (by kernel_rfl) hc ?_
                     refine mreg_run P1 2 [(4, [], pv_ b_), (9, [], Value.int .i64 t52), (10, [], pv_ b_4), (90, [], Value.int .i64 v90), (91, [], pv_ b_4)] (by kernel_rfl) (by kernel_rfl) ?_
                     obtain ⟨hc, h⟩ := h
                     refine mreg_store (t := 76) (a := (Operand.tmp 91)) (x := (Operand.const (Value.int Go.IntKind.u8 4))) (b := b_4) (o := 0) (k := 1) (ty := 0) (dst := none) 2 [1] [(0, fun w' => w'.cell? ⟨b_2, 0, none⟩ = some (Value.int .i64 v90))] [Value.int .u8 4] (by kernel_rfl) (by kernel_rfl) (by kernel_rfl) (by kernel_rfl) (by kernel_rfl) (by kernel_rfl) (by kernel_rfl) (by kernel_rfl) (by kernel_rfl) (by kernel_rfl) hc (fun w31 hw => ?_)
                     replace h := h w31 hw
                     clear hw
                     obtain ⟨hk0, h⟩ := h
                     refine ⟨⟨hk0, trivial⟩, ?_⟩
                     refine mreg_run P1 4 [(4, [], pv_ b_), (9, [], Value.int .i64 t52), (10, [], pv_ b_4), (90, [], Value.int .i64 v90), (92, [], Value.pointer (some ⟨b_4, 2, none⟩))] (by kernel_rfl) (by kernel_rfl) ?_
                     obtain ⟨hc, h⟩ := h
                     refine mreg_store (t := 3) (a := (Operand.tmp 92)) (x := (Operand.tmp 90)) (b := b_4) (o := 2) (k := 1) (ty := 0) (dst := none) 4 [0, 1, 2, 3] [] [Value.int .i64 v90] (by kernel_rfl) (by kernel_rfl) (by kernel_rfl) (by kernel_rfl) (by kernel_rfl) (by kernel_rfl) (by kernel_rfl) (by kernel_rfl) (by kernel_rfl) (by kernel_rfl) hc (fun w32 hw => ?_)
                     replace h := h w32 hw
                     clear hw
                     refine ⟨trivial, ?_⟩
                     refine mreg_end [(4, pv_ b_), (9, Value.int .i64 t52), (10, pv_ b_4)] (by kernel_rfl) (by kernel_rfl) (by kernel_rfl) ?_
                     exact ⟨[(4, pv_ b_), (9, Value.int .i64 t52), (10, pv_ b_4)], Sub.mk (by kernel_rfl), rfl, h⟩
                   · replace h := h.2 hb
                     refine Zp c32_71 P2 [(4, pv_ b_), (7, pv_ b_3), (9, .int .i64 t52), (10, pv_ b_4), (93, .bool (v63 == 4))] ?_
                     refine Zc 93 (v63 == 4) c32_72 c32_74 (fun hb => ?_) (fun hb => ?_)
                     · replace h := h.1 hb
                       refine Zr r32_72 ?_
                       refine Zn [] 0 [(4, [], pv_ b_), (7, [], pv_ b_3), (9, [], .int .i64 t52), (10, [], pv_ b_4)] ?_
                       obtain ⟨v95, hc, h⟩ := h
                       refine Zl 23 7 b_3 0 23 95 hc ?_
                       refine Zn [] 1 [(4, [], pv_ b_), (9, [], .int .i64 t52), (10, [], pv_ b_4), (95, [], sv_ v95)] ?_
                       refine Zm 49 #[sv_ v95] (some 96) (Calls.mono h ?_)
                       rintro _ w33 ⟨v96, rfl, h⟩
                       refine ⟨_, rfl, ?_⟩
                       refine Zn P1 3 [(4, [], pv_ b_), (9, [], .int .i64 t52), (10, [], pv_ b_4), (96, [], sv_ v96), (97, [], pv_ b_4)] ?_
                       obtain ⟨hc, h⟩ := h
                       refine reg_store (t := 76) (a := (Operand.tmp 97)) (x := (Operand.const (Value.int Go.IntKind.u8 5))) (b := b_4) (o := 0) (ty := 0) (dst := none) [Value.int .u8 5] (by kernel_rfl) (by kernel_rfl) (by kernel_rfl) (k := 1) (by kernel_rfl) (by kernel_rfl) (by kernel_rfl) hc (fun w34 hw => ?_)
                       replace h := h w34 hw
                       clear hw
                       refine Zn P1 5 [(4, [], pv_ b_), (9, [], .int .i64 t52), (10, [], pv_ b_4), (96, [], sv_ v96), (98, [], .pointer (some ⟨b_4, 8, none⟩))] ?_
                       obtain ⟨hc, h⟩ := h
                       refine Zo 23 98 96 b_4 8 1 [sv_ v96] hc (fun w35 hw => ?_)
                       replace h := h w35 hw
                       clear hw
                       refine Ze [(4, pv_ b_), (9, .int .i64 t52), (10, pv_ b_4)] ?_
                       exact ⟨[(4, pv_ b_), (9, Value.int .i64 t52), (10, pv_ b_4)], Sub.mk (by kernel_rfl), rfl, h⟩
                     · replace h := h.2 hb
                       refine wpE_skip (by kernel_rfl) ?_
                       exact ⟨[(4, pv_ b_), (9, Value.int .i64 t52), (10, pv_ b_4)], Sub.mk (by kernel_rfl), rfl, h⟩
             · rintro _ w17 ⟨rfl, h⟩
               unfold F_call_Task_Begin_k2 at h
               refine wpE_mixregionY (id := 20) (ops := r32_75) o_call_Task_Begin_75 (by kernel_rfl) (by kernel_rfl) (by kernel_rfl) (by kernel_rfl) (by kernel_rfl) (fun w18 hw => ?_)
               replace h := h w18 hw
               clear hw
               refine mreg_run [] 0 [(4, [], pv_ b_), (9, [], Value.int .i64 t52), (10, [], pv_ b_4)] (by kernel_rfl) (by kernel_rfl) ?_
               obtain ⟨v99, hc, h⟩ := h
               refine mreg_load1 (i := 0) (by kernel_rfl) (t := 72) (a := (Operand.tmp 4)) (b := b_) (o := 0) (ty := 72) (dst := some 99) (by kernel_rfl) (by kernel_rfl) (by kernel_rfl) hc ?_
               refine mreg_run [] 1 [(4, [], pv_ b_), (9, [], Value.int .i64 t52), (10, [], pv_ b_4), (99, [], Value.pointer v99)] (by kernel_rfl) (by kernel_rfl) ?_
               obtain ⟨v100, hc, h⟩ := h
               refine mreg_load1 (i := 1) (by kernel_rfl) (t := 72) (a := (Operand.tmp 4)) (b := b_) (o := 0) (ty := 72) (dst := some 100) (by kernel_rfl) (by kernel_rfl) (by kernel_rfl) hc ?_
               refine mreg_run [] 2 [(9, [], Value.int .i64 t52), (10, [], pv_ b_4), (99, [], Value.pointer v99), (100, [], Value.pointer v100)] (by kernel_rfl) (by kernel_rfl) ?_
               obtain ⟨hp_15, h⟩ := h
               refine mreg_conv [(9, [], Value.int .i64 t52), (10, [], pv_ b_4), (99, [], Value.pointer v99), (100, [], Value.pointer (some ⟨(pblk v100), (poff v100), none⟩))] (congrArg (fun pp => ([(9, [], Value.int .i64 t52), (10, [], pv_ b_4), (99, [], Value.pointer v99), (100, [], Value.pointer pp)] : GEnv)) hp_15) ?_
               refine mreg_run P1 3 [(9, [], Value.int .i64 t52), (10, [], pv_ b_4), (99, [], Value.pointer v99), (100, [], Value.pointer (some ⟨(pblk v100), (poff v100), none⟩)), (101, [], Value.pointer (some ⟨(pblk v100), (poff v100), none⟩))] (by kernel_rfl) (by kernel_rfl) ?_
               refine mreg_run P1 4 [(9, [], Value.int .i64 t52), (10, [], pv_ b_4), (99, [], Value.pointer v99), (102, [], Value.pointer (some ⟨(pblk v100), (poff v100) + 10, none⟩))] (by kernel_rfl) (by kernel_rfl) ?_
               obtain ⟨v103, hc, h⟩ := h
               refine mreg_load1 (i := 4) (by kernel_rfl) (t := 100) (a := (Operand.tmp 102)) (b := (pblk v100)) (o := ((poff v100) + 10)) (ty := 100) (dst := some 103) (by kernel_rfl) (by kernel_rfl) (by kernel_rfl) hc ?_
               refine mreg_run P1 6 [(10, [], pv_ b_4), (99, [], Value.pointer v99), (103, [], sv_ v103), (104, [], Value.int .i64 t52)] (by kernel_rfl) (by kernel_rfl) ?_
               obtain ⟨v105, hc, h⟩ := h
               refine mreg_loadN (i := 6) (by kernel_rfl) (t := 80) (a := (Operand.tmp 10)) (b := b_4) (o := 0) (ty := 80) (dst := some 105) [Value.int .u8 v105.Kind, Value.int .i64 v105.From, Value.int .i64 v105.Number, Value.string v105.Write.Key, Value.string v105.Write.Val, Value.bool v105.Write.Drop, Value.string v105.Key, Value.string v105.End, sv_ v105.Beyond] (by kernel_rfl) (by kernel_rfl) (by kernel_rfl) (k := 9) (by kernel_rfl) (by kernel_rfl) hc ?_
               refine mreg_run P1 8 [(99, [], Value.pointer v99), (103, [], sv_ v103), (106, [], Value.agg #[Value.int .i64 t52, Value.int .u8 v105.Kind, Value.int .i64 v105.From, Value.int .i64 v105.Number, Value.string v105.Write.Key, Value.string v105.Write.Val, Value.bool v105.Write.Drop, Value.string v105.Key, Value.string v105.End, sv_ v105.Beyond])] (by kernel_rfl) (by kernel_rfl) ?_
               refine mreg_new (op := (Op.buildSlice 100 1 #[(0, (Operand.tmp 106))])) (ty := 100) (dst := some 107) 8 [7, 5, 6] [(4, fun w' => w'.cell? ⟨(pblk v100), (poff v100) + 10, none⟩ = some (sv_ v103)), (1, fun w' => w'.cell? ⟨b_, 0, none⟩ = some (Value.pointer v100)), (0, fun w' => w'.cell? ⟨b_, 0, none⟩ = some (Value.pointer v99))] (fun bb => Value.slice (some ⟨bb, 0, none⟩) 1 1) (Obj.cells ([Value.int .i64 t52, Value.int .u8 v105.Kind, Value.int .i64 v105.From, Value.int .i64 v105.Number, Value.string v105.Write.Key, Value.string v105.Write.Val, Value.bool v105.Write.Drop, Value.string v105.Key, Value.string v105.End, sv_ v105.Beyond]).toArray ty_call_asked (0, 0)) (by kernel_rfl) (by kernel_rfl) (by kernel_rfl) (by kernel_rfl) (by kernel_rfl) (by kernel_rfl) (fun b_5 w19 hb hw => ?_)
               replace h := h b_5 w19 hb hw
               clear hb hw
               obtain ⟨hk0, hk1, hk2, h⟩ := h
               refine ⟨⟨hk0, hk1, hk2, trivial⟩, ?_⟩
               refine mreg_run [] 9 [(99, [], Value.pointer v99), (103, [], sv_ v103), (107, [], Value.slice (some ⟨b_5, 0, none⟩) 1 1)] (by kernel_rfl) (by kernel_rfl) ?_
               obtain ⟨src, hs, h⟩ := h
               refine mreg_append (t := 100) (tx := 100) (e := 133) (a := (Operand.tmp 103)) (xo := (Operand.tmp 107)) (s := v103) (x := (Slc.mk (some ⟨b_5, 0, none⟩) 1 1)) (sz := 10) (by_ := 128) (zs := [Value.int .i64 0, Value.int .u8 0, Value.int .i64 0, Value.int .i64 0, Value.string ByteArray.empty, Value.string ByteArray.empty, Value.bool false, Value.string ByteArray.empty, Value.string ByteArray.empty, Value.slice none 0 0]) (ty := 100) (dst := some 108) 9 [4, 8, 3, 7, 2, 5, 6, 1] [(0, fun w' => w'.cell? ⟨b_, 0, none⟩ = some (Value.pointer v99))] src (by kernel_rfl) (by kernel_rfl) (by kernel_rfl) (by kernel_rfl) (by kernel_rfl) (by kernel_rfl) (by kernel_rfl) (by kernel_rfl) (by kernel_rfl) (by kernel_rfl) (by kernel_rfl) (by kernel_rfl) (by kernel_rfl) hs (AppendW.mono h (fun v108 w20 h => ?_))
               obtain ⟨hk0, h⟩ := h
               refine ⟨⟨hk0, trivial⟩, ?_⟩
               refine mreg_run [] 10 [(99, [], Value.pointer v99), (108, [], sv_ v108)] (by kernel_rfl) (by kernel_rfl) ?_
               obtain ⟨hp_16, h⟩ := h
               refine mreg_conv [(99, [], Value.pointer (some ⟨(pblk v99), (poff v99), none⟩)), (108, [], sv_ v108)] (congrArg (fun pp => ([(99, [], Value.pointer pp), (108, [], sv_ v108)] : GEnv)) hp_16) ?_
               refine mreg_run P1 11 [(99, [], Value.pointer (some ⟨(pblk v99), (poff v99), none⟩)), (108, [], sv_ v108), (109, [], Value.pointer (some ⟨(pblk v99), (poff v99), none⟩))] (by kernel_rfl) (by kernel_rfl) ?_
               refine mreg_run P1 12 [(108, [], sv_ v108), (110, [], Value.pointer (some ⟨(pblk v99), (poff v99) + 10, none⟩))] (by kernel_rfl) (by kernel_rfl) ?_
               obtain ⟨hc, h⟩ := h
               refine mreg_store (t := 100) (a := (Operand.tmp 110)) (x := (Operand.tmp 108)) (b := (pblk v99)) (o := ((poff v99) + 10)) (k := 1) (ty := 0) (dst := none) 12 [0, 1, 2, 3, 4, 5, 6, 7, 8, 9, 11, 10] [] [sv_ v108] (by kernel_rfl) (by kernel_rfl) (by kernel_rfl) (by kernel_rfl) (by kernel_rfl) (by kernel_rfl) (by kernel_rfl) (by kernel_rfl) (by kernel_rfl) (by kernel_rfl) hc (fun w21 hw => ?_)
               replace h := h w21 hw
               clear hw
               refine ⟨trivial, ?_⟩
               refine mreg_end [] (by kernel_rfl) (by kernel_rfl) (by kernel_rfl) ?_
               exact And.intro h.1 ⟨true, rfl, h.2 _ rfl⟩
           replace h := h rec_ D w11 hD_ hw_ hB_
           clear hB_ hw_
           have hA_ : ∀ w37, F_call_Task_Begin_A3 R D w37 → @WpE (rndD Try.prog Try.f32 (fun v w' => ∃ (r0 : Int), v = Value.int .i64 r0 ∧ R r0 w') D) Try.prog 111 c32_77 (fun _ _ _ => False) [(4, pv_ b_), (5, pv_ b_1), (6, pv_ b_2), (7, pv_ b_3), (8, Value.int .i64 0), (51, v51)] w37 := by
             clear h
             intro w37 h
             letI : Rnd := rndD Try.prog Try.f32 (fun v w' => ∃ (r0 : Int), v = Value.int .i64 r0 ∧ R r0 w') D
             unfold F_call_Task_Begin_A3 at h
             change WpE _ _ c32_77 _ _ _
             refine Zp c32_80 P1 [(8, .int .i64 0)] ?_
             refine wpE_retD (by kernel_rfl) h.1 ?_
             replace h := h.2 _ rfl
             repeat (first | refine seqQ_ret ?_ | refine blockQ_ret ?_ | refine loopQ_ret ?_ | refine cutQ_ret ?_)
             exact retS (rs := [(ResultVar.tmp 8)]) (v := Value.int .i64 0) (by kernel_rfl) (⟨by kernel_rfl, trivial⟩) ⟨0, rfl, h⟩
           refine CallsV.mono h ?_
           rintro e_ w38 ⟨hv_, st_, pe_, hl_, hst_, h⟩
           refine ⟨hv_, st_, pe_, hl_, hst_, ?_⟩
           replace h := h _ rfl
           obtain ⟨hpe_, h⟩ := h
           subst hpe_
           exact hA_ _ h
 · rintro e w' ⟨v, rfl, r0, rfl, h⟩; exact ⟨r0, rfl, h⟩

/-! ### (*towpath/call.Task).Next (function 33) -/
def c33_0 := cb_ Try.f33
def c33_1 := cl_ c33_0
def r33_1 := co_ c33_1
def c33_3 := cr_ c33_0
def c33_4 := cl_ c33_3
def c33_5 := cl_ c33_4
def r33_5 := co_ c33_5
def c33_7 := cr_ c33_4
def c33_8 := cl_ c33_7
def c33_9 := cl_ c33_8
def r33_9 := co_ c33_9
def c33_11 := cr_ c33_8
def c33_12 := cr_ c33_7
def c33_13 := cr_ c33_3
def c33_14 := cl_ c33_13
def r33_14 := co_ c33_14
def c33_16 := cr_ c33_13
def c33_17 := cl_ c33_16
def r33_17 := co_ c33_17
def c33_19 := cr_ c33_16
def c33_20 := cl_ c33_19
def r33_20 := co_ c33_20
def c33_22 := cr_ c33_19

theorem S_call_Task_Next {t_ : Option Addr} {w : World} {R : Int → T_api_Req → Bool → World → Prop} (h : F_call_Task_Next t_ R w) : C_call_Task_Next t_ w R := by
 unfold F_call_Task_Next at h
 unfold C_call_Task_Next
 refine Calls.mono (calls_of_wpE (args := [Value.pointer t_]) (R := fun v w' => ∃ (r0 : Int) (r1 : T_api_Req) (r2 : Bool), v = Value.tuple #[Value.int .i64 r0, Value.agg #[Value.int .u8 r1.Kind, Value.int .i64 r1.From, Value.int .i64 r1.Number, Value.string r1.Write.Key, Value.string r1.Write.Val, Value.bool r1.Write.Drop, Value.string r1.Key, Value.string r1.End, sv_ r1.Beyond], Value.bool r2] ∧ R r0 r1 r2 w') Try.func33 (c := c33_0) (by kernel_rfl) 37 (by kernel_rfl) (by kernel_rfl) [(0, Value.pointer t_)] (by kernel_rfl) ?_) ?_
 · refine Zt r33_1 c33_3 ?_
   refine Zn P1 1 [(0, [], .pointer t_)] ?_
   refine Zw (some 3) (fun bb => pv_ bb) (Obj.cells ([.int .u8 0, .int .i64 0, .int .i64 0, .string ByteArray.empty, .string ByteArray.empty, .bool false, .string ByteArray.empty, .string ByteArray.empty, .slice none 0 0]).toArray ty_api_Req (0, 0)) (fun b_ w1 hb hw => ?_)
   replace h := h b_ w1 hb hw
   clear hb hw
   refine Zf P1 [(0, .pointer t_), (3, pv_ b_)] ?_
   change WpE _ _ c33_3 _ _ _
   refine Zs c33_4 c33_13 ?_
   refine wpE_seq_cut (x := c33_5) (y := c33_7) (by kernel_rfl) (fun l w => ∃ (t16 : Bool), l = [(0, Value.pointer t_), (3, pv_ b_), (16, Value.bool t16)] ∧ F_call_Task_Next_k0 t_ R b_ t16 w) ?_ ?_
   · refine Zr r33_5 ?_
     refine Zn P1 1 [(0, [], .pointer t_), (3, [], pv_ b_), (6, [], .pointer t_)] ?_
     refine Zm 63 #[.pointer t_] (some 7) (Calls.mono h ?_)
     rintro _ w10 ⟨v7, rfl, h⟩
     refine ⟨_, rfl, ?_⟩
     refine Zn P3 5 [(0, [], .pointer t_), (3, [], pv_ b_), (9, [], .bool (!v7)), (10, [(9, false)], .pointer t_)] ?_
     refine reg_split 9 (!v7) (by kernel_rfl) (fun hb => ?_) (fun hb => ?_)
     · replace h := h.1 hb
       refine Zn [] 5 [(0, [], .pointer t_), (3, [], pv_ b_), (9, [], .bool true), (10, [], undef)] ?_
       refine Zf [.skip, .skip, .skip, .skip, .skip, .plain] [(0, .pointer t_), (3, pv_ b_), (16, .bool true)] ?_
       exact ⟨[(0, Value.pointer t_), (3, pv_ b_), (16, Value.bool true)], Sub.mk (by kernel_rfl), true, rfl, h⟩
     · replace h := h.2 hb
       refine Zn [] 5 [(0, [], .pointer t_), (3, [], pv_ b_), (9, [], .bool false), (10, [], .pointer t_)] ?_
       refine Zn [] 5 [(0, [], .pointer t_), (3, [], pv_ b_), (9, [], .bool false), (10, [], .pointer t_)] ?_
       obtain ⟨hp_9, h⟩ := h
       refine Zv (fun pp => [(0, [], .pointer t_), (3, [], pv_ b_), (9, [], .bool false), (10, [], .pointer pp)]) hp_9 ?_
       refine Zn [.sure] 6 [(0, [], .pointer t_), (3, [], pv_ b_), (9, [], .bool false), (10, [], .pointer (some ⟨(pblk t_), (poff t_), none⟩)), (11, [], .pointer (some ⟨(pblk t_), (poff t_), none⟩))] ?_
       refine Zn [.sure] 7 [(0, [], .pointer t_), (3, [], pv_ b_), (9, [], .bool false), (12, [], .pointer (some ⟨(pblk t_), (poff t_) + 10, none⟩))] ?_
       obtain ⟨v13, hc, h⟩ := h
       refine Zl 100 12 (pblk t_) ((poff t_) + 10) 100 13 hc ?_
       refine Zf [.sure, .sure, .plain] [(0, .pointer t_), (3, pv_ b_), (16, .bool (((v13.len : Nat) : Int) == 0))] ?_
       exact ⟨[(0, Value.pointer t_), (3, pv_ b_), (16, Value.bool (((v13.len : Nat) : Int) == 0))], Sub.mk (by kernel_rfl), (((v13.len : Nat) : Int) == 0), rfl, h⟩
   · rintro _ w2 ⟨t16, rfl, h⟩
     unfold F_call_Task_Next_k0 at h
     refine Zc 16 t16 c33_8 c33_12 (fun hb => ?_) (fun hb => ?_)
     · replace h := h.1 hb
       refine Zt r33_9 c33_11 ?_
       refine Zn P2 2 [(2, [], .int .i64 0), (3, [], pv_ b_), (17, [], .agg #[.int .u8 0, .int .i64 0, .int .i64 0, .string ByteArray.empty, .string ByteArray.empty, .bool false, .string ByteArray.empty, .string ByteArray.empty, .slice none 0 0])] ?_
       obtain ⟨hc, h⟩ := h
       refine Zo 80 3 17 b_ 0 9 [.int .u8 0, .int .i64 0, .int .i64 0, .string ByteArray.empty, .string ByteArray.empty, .bool false, .string ByteArray.empty, .string ByteArray.empty, .slice none 0 0] hc (fun w3 hw => ?_)
       replace h := h w3 hw
       clear hw
       refine Zf P1 [(2, .int .i64 0), (3, pv_ b_), (4, .bool false)] ?_
       change WpE _ _ c33_11 _ _ _
       refine wpE_ret (by kernel_rfl) ?_
       obtain ⟨res, hc_res, h⟩ := h
       repeat (first | refine seqQ_ret ?_ | refine blockQ_ret ?_ | refine loopQ_ret ?_ | refine cutQ_ret ?_)
       exact retT (rs := [(ResultVar.tmp 2), (ResultVar.cell 3 80), (ResultVar.tmp 4)]) (vs := [Value.int .i64 0, Value.agg #[Value.int .u8 res.Kind, Value.int .i64 res.From, Value.int .i64 res.Number, Value.string res.Write.Key, Value.string res.Write.Val, Value.bool res.Write.Drop, Value.string res.Key, Value.string res.End, sv_ res.Beyond], Value.bool false]) (by kernel_rfl) (⟨by kernel_rfl, ⟨b_, 0, [Value.int .u8 res.Kind, Value.int .i64 res.From, Value.int .i64 res.Number, Value.string res.Write.Key, Value.string res.Write.Val, Value.bool res.Write.Drop, Value.string res.Key, Value.string res.End, sv_ res.Beyond], by kernel_rfl, hc_res, (sizeP_of (k := 9) (by kernel_rfl) (by kernel_rfl)), .inl ⟨by kernel_rfl, rfl⟩, ⟨by kernel_rfl, trivial⟩⟩⟩) (by kernel_rfl) ⟨0, res, false, rfl, h⟩
     · replace h := h.2 hb
       refine wpE_skip (by kernel_rfl) ?_
       change WpE _ _ c33_13 _ _ _
       refine Zt r33_14 c33_16 ?_
       refine Zn P1 1 [(0, [], .pointer t_), (3, [], pv_ b_), (18, [], .pointer t_)] ?_
       obtain ⟨hp_5, h⟩ := h
       refine Zv (fun pp => [(0, [], .pointer t_), (3, [], pv_ b_), (18, [], .pointer pp)]) hp_5 ?_
       refine Zn P1 2 [(0, [], .pointer t_), (3, [], pv_ b_), (18, [], .pointer (some ⟨(pblk t_), (poff t_), none⟩)), (19, [], .pointer (some ⟨(pblk t_), (poff t_), none⟩))] ?_
       refine Zn P1 3 [(0, [], .pointer t_), (3, [], pv_ b_), (20, [], .pointer (some ⟨(pblk t_), (poff t_) + 10, none⟩))] ?_
       obtain ⟨v21, hc, h⟩ := h
       refine Zl 100 20 (pblk t_) ((poff t_) + 10) 100 21 hc ?_
       refine Zn [] 4 [(0, [], .pointer t_), (3, [], pv_ b_), (21, [], sv_ v21)] ?_
       obtain ⟨hp_6, h⟩ := h
       refine Zv (fun pp => [(0, [], .pointer t_), (3, [], pv_ b_), (21, [], .slice pp v21.len v21.cap)]) hp_6 ?_
       obtain ⟨h0, h1, h⟩ := h
       refine reg_indexS (t := 100) (e := 133) (x := (Operand.tmp 21)) (ix := (Operand.const (Value.int Go.IntKind.i64 0))) (b := (pblk v21.ptr)) (o := (poff v21.ptr)) (l := v21.len) (c := v21.cap) (k := .i64) (j := 0) (ty := 0) (dst := some 22) (sz := 10) (by kernel_rfl) (by kernel_rfl) (by kernel_rfl) (by kernel_rfl) (by kernel_rfl) h0 h1 ?_
       refine Zn P1 6 [(0, [], .pointer t_), (3, [], pv_ b_), (23, [], .pointer (some ⟨(pblk v21.ptr), (poff v21.ptr) + 1, none⟩))] ?_
       obtain ⟨v24, hc, h⟩ := h
       refine reg_loadN (t := 80) (a := (Operand.tmp 23)) (b := (pblk v21.ptr)) (o := ((poff v21.ptr) + 1)) (ty := 80) (dst := some 24) [Value.int .u8 v24.Kind, Value.int .i64 v24.From, Value.int .i64 v24.Number, Value.string v24.Write.Key, Value.string v24.Write.Val, Value.bool v24.Write.Drop, Value.string v24.Key, Value.string v24.End, sv_ v24.Beyond] (by kernel_rfl) (by kernel_rfl) (by kernel_rfl) (k := 9) (by kernel_rfl) (by kernel_rfl) hc ?_
       refine Zn [] 7 [(0, [], .pointer t_), (3, [], pv_ b_), (24, [], .agg #[.int .u8 v24.Kind, .int .i64 v24.From, .int .i64 v24.Number, .string v24.Write.Key, .string v24.Write.Val, .bool v24.Write.Drop, .string v24.Key, .string v24.End, sv_ v24.Beyond])] ?_
       refine Zw (some 5) (fun bb => pv_ bb) (Obj.cells ([.int .u8 0, .int .i64 0, .int .i64 0, .string ByteArray.empty, .string ByteArray.empty, .bool false, .string ByteArray.empty, .string ByteArray.empty, .slice none 0 0]).toArray ty_api_Req (0, 0)) (fun b_1 w4 hb hw => ?_)
       replace h := h b_1 w4 hb hw
       clear hb hw
       refine Zn [] 8 [(0, [], .pointer t_), (3, [], pv_ b_), (5, [], pv_ b_1), (24, [], .agg #[.int .u8 v24.Kind, .int .i64 v24.From, .int .i64 v24.Number, .string v24.Write.Key, .string v24.Write.Val, .bool v24.Write.Drop, .string v24.Key, .string v24.End, sv_ v24.Beyond])] ?_
       obtain ⟨hc, h⟩ := h
       refine Zo 80 5 24 b_1 0 9 [.int .u8 v24.Kind, .int .i64 v24.From, .int .i64 v24.Number, .string v24.Write.Key, .string v24.Write.Val, .bool v24.Write.Drop, .string v24.Key, .string v24.End, sv_ v24.Beyond] hc (fun w5 hw => ?_)
       replace h := h w5 hw
       clear hw
       refine Ze [(0, .pointer t_), (3, pv_ b_), (5, pv_ b_1)] ?_
       change WpE _ _ c33_16 _ _ _
       refine Zt r33_17 c33_19 ?_
       refine Zn P1 1 [(0, [], .pointer t_), (3, [], pv_ b_), (5, [], pv_ b_1), (25, [], .pointer (some ⟨b_1, 8, none⟩))] ?_
       obtain ⟨v26, hc, h⟩ := h
       refine Zl 23 25 b_1 8 23 26 hc ?_
       refine Zn [] 2 [(0, [], .pointer t_), (3, [], pv_ b_), (5, [], pv_ b_1), (26, [], sv_ v26)] ?_
       refine Zm 49 #[sv_ v26] (some 27) (Calls.mono h ?_)
       rintro _ w6 ⟨v27, rfl, h⟩
       refine ⟨_, rfl, ?_⟩
       refine Zn P1 4 [(0, [], .pointer t_), (3, [], pv_ b_), (5, [], pv_ b_1), (27, [], sv_ v27), (28, [], .pointer (some ⟨b_1, 8, none⟩))] ?_
       obtain ⟨hc, h⟩ := h
       refine Zo 23 28 27 b_1 8 1 [sv_ v27] hc (fun w7 hw => ?_)
       replace h := h w7 hw
       clear hw
       refine Ze [(0, .pointer t_), (3, pv_ b_), (5, pv_ b_1)] ?_
       change WpE _ _ c33_19 _ _ _
       refine Zs c33_20 c33_22 ?_
       refine wpE_tailregion (id := 5) (ops := r33_20) (by kernel_rfl) 9 (by kernel_rfl) (by kernel_rfl) (fun w8 hw => ?_)
       replace h := h w8 hw
       clear hw
       refine qreg_run P1 1 [(3, [], pv_ b_), (5, [], pv_ b_1), (29, [], Value.pointer t_)] (by kernel_rfl) (by kernel_rfl) ?_
       obtain ⟨hp_7, h⟩ := h
       refine qreg_conv [(3, [], pv_ b_), (5, [], pv_ b_1), (29, [], Value.pointer (some ⟨(pblk t_), (poff t_), none⟩))] (congrArg (fun pp => ([(3, [], pv_ b_), (5, [], pv_ b_1), (29, [], Value.pointer pp)] : GEnv)) hp_7) ?_
       refine qreg_run P1 2 [(3, [], pv_ b_), (5, [], pv_ b_1), (29, [], Value.pointer (some ⟨(pblk t_), (poff t_), none⟩)), (30, [], Value.pointer (some ⟨(pblk t_), (poff t_), none⟩))] (by kernel_rfl) (by kernel_rfl) ?_
       refine qreg_run P1 3 [(3, [], pv_ b_), (5, [], pv_ b_1), (31, [], Value.pointer (some ⟨(pblk t_), (poff t_) + 10, none⟩))] (by kernel_rfl) (by kernel_rfl) ?_
       obtain ⟨v32, hc, h⟩ := h
       refine qreg_load1 (t := 100) (a := (Operand.tmp 31)) (b := (pblk t_)) (o := ((poff t_) + 10)) (ty := 100) (dst := some 32) (by kernel_rfl) (by kernel_rfl) (by kernel_rfl) hc ?_
       refine qreg_run [] 4 [(3, [], pv_ b_), (5, [], pv_ b_1), (32, [], sv_ v32)] (by kernel_rfl) (by kernel_rfl) ?_
       obtain ⟨hp_8, h⟩ := h
       refine qreg_conv [(3, [], pv_ b_), (5, [], pv_ b_1), (32, [], Value.slice (some ⟨(pblk v32.ptr), (poff v32.ptr), none⟩) v32.len v32.cap)] (congrArg (fun pp => ([(3, [], pv_ b_), (5, [], pv_ b_1), (32, [], Value.slice pp v32.len v32.cap)] : GEnv)) hp_8) ?_
       obtain ⟨h0, h1, h⟩ := h
       refine qreg_indexS (t := 100) (e := 133) (x := (Operand.tmp 32)) (ix := (Operand.const (Value.int Go.IntKind.i64 0))) (b := (pblk v32.ptr)) (o := (poff v32.ptr)) (l := v32.len) (c := v32.cap) (k := .i64) (j := 0) (ty := 0) (dst := some 33) (sz := 10) (by kernel_rfl) (by kernel_rfl) (by kernel_rfl) (by kernel_rfl) (by kernel_rfl) h0 h1 ?_
       refine qreg_run P1 6 [(3, [], pv_ b_), (5, [], pv_ b_1), (34, [], Value.pointer (some ⟨(pblk v32.ptr), (poff v32.ptr), none⟩))] (by kernel_rfl) (by kernel_rfl) ?_
       obtain ⟨v35, hc, h⟩ := h
       refine qreg_load1 (t := 3) (a := (Operand.tmp 34)) (b := (pblk v32.ptr)) (o := (poff v32.ptr)) (ty := 3) (dst := some 35) (by kernel_rfl) (by kernel_rfl) (by kernel_rfl) hc ?_
       refine qreg_run [] 7 [(3, [], pv_ b_), (5, [], pv_ b_1), (35, [], Value.int .i64 v35)] (by kernel_rfl) (by kernel_rfl) ?_
       obtain ⟨v36, hc, h⟩ := h
       refine qreg_loadN (t := 80) (a := (Operand.tmp 5)) (b := b_1) (o := 0) (ty := 80) (dst := some 36) [Value.int .u8 v36.Kind, Value.int .i64 v36.From, Value.int .i64 v36.Number, Value.string v36.Write.Key, Value.string v36.Write.Val, Value.bool v36.Write.Drop, Value.string v36.Key, Value.string v36.End, sv_ v36.Beyond] (by kernel_rfl) (by kernel_rfl) (by kernel_rfl) (k := 9) (by kernel_rfl) (by kernel_rfl) hc ?_
       refine qreg_run P1 9 [(2, [], Value.int .i64 v35), (3, [], pv_ b_), (36, [], Value.agg #[Value.int .u8 v36.Kind, Value.int .i64 v36.From, Value.int .i64 v36.Number, Value.string v36.Write.Key, Value.string v36.Write.Val, Value.bool v36.Write.Drop, Value.string v36.Key, Value.string v36.End, sv_ v36.Beyond])] (by kernel_rfl) (by kernel_rfl) ?_
       refine qreg_tail (by kernel_rfl) ?_
       refine Zn [] 9 [(2, [], .int .i64 v35), (3, [], pv_ b_), (36, [], .agg #[.int .u8 v36.Kind, .int .i64 v36.From, .int .i64 v36.Number, .string v36.Write.Key, .string v36.Write.Val, .bool v36.Write.Drop, .string v36.Key, .string v36.End, sv_ v36.Beyond])] ?_
       obtain ⟨hc, h⟩ := h
       refine Zo 80 3 36 b_ 0 9 [.int .u8 v36.Kind, .int .i64 v36.From, .int .i64 v36.Number, .string v36.Write.Key, .string v36.Write.Val, .bool v36.Write.Drop, .string v36.Key, .string v36.End, sv_ v36.Beyond] hc (fun w9 hw => ?_)
       replace h := h w9 hw
       clear hw
       refine Zf P1 [(2, .int .i64 v35), (3, pv_ b_), (4, .bool true)] ?_
       change WpE _ _ c33_22 _ _ _
       refine wpE_ret (by kernel_rfl) ?_
       obtain ⟨res1, hc_res1, h⟩ := h
       repeat (first | refine seqQ_ret ?_ | refine blockQ_ret ?_ | refine loopQ_ret ?_ | refine cutQ_ret ?_)
       exact retT (rs := [(ResultVar.tmp 2), (ResultVar.cell 3 80), (ResultVar.tmp 4)]) (vs := [Value.int .i64 v35, Value.agg #[Value.int .u8 res1.Kind, Value.int .i64 res1.From, Value.int .i64 res1.Number, Value.string res1.Write.Key, Value.string res1.Write.Val, Value.bool res1.Write.Drop, Value.string res1.Key, Value.string res1.End, sv_ res1.Beyond], Value.bool true]) (by kernel_rfl) (⟨by kernel_rfl, ⟨b_, 0, [Value.int .u8 res1.Kind, Value.int .i64 res1.From, Value.int .i64 res1.Number, Value.string res1.Write.Key, Value.string res1.Write.Val, Value.bool res1.Write.Drop, Value.string res1.Key, Value.string res1.End, sv_ res1.Beyond], by kernel_rfl, hc_res1, (sizeP_of (k := 9) (by kernel_rfl) (by kernel_rfl)), .inl ⟨by kernel_rfl, rfl⟩, ⟨by kernel_rfl, trivial⟩⟩⟩) (by kernel_rfl) ⟨v35, res1, true, rfl, h⟩
 · rintro e w' ⟨v, rfl, r0, r1, r2, rfl, h⟩; exact ⟨r0, r1, r2, rfl, h⟩
end
end Go.Proofs.Ytpedclhflmhakaa
