/- WRITTEN BY PROGRAM (dec.py): for each Go function the clean formula F, the call's contract C, and the proof S that F gives C. -/
import Derived.Test.YtpedclhflmhakaaRows
import Derived.Test.YtpedclhflmhakaaGF
namespace Go.Proofs.Ytpedclhflmhakaa
open Go
set_option linter.unusedVariables false
set_option maxRecDepth 100000
set_option maxHeartbeats 4000000
noncomputable section

/-! ### towpath/conf.Check (function 62) -/
def c62_0 := cb_ Try.f62
def c62_1 := cl_ c62_0
def r62_1 := co_ c62_1
def c62_3 := cr_ c62_0
def c62_4 := cl_ c62_3
def c62_5 := cl_ c62_4
def r62_5 := co_ c62_5
def c62_7 := cr_ c62_4
def c62_8 := cl_ c62_7
def c62_9 := cl_ c62_8
def c62_12 := cr_ c62_9
def c62_13 := cl_ c62_12
def c62_14 := cl_ c62_13
def c62_15 := cr_ c62_13
def c62_16 := cr_ c62_12
def c62_17 := cl_ c62_16
def c62_18 := cl_ c62_17
def c62_19 := cl_ c62_18
def r62_19 := co_ c62_19
def c62_21 := cr_ c62_18
def c62_22 := cl_ c62_21
def r62_22 := co_ c62_22
def c62_24 := cr_ c62_21
def c62_25 := cl_ c62_24
def c62_28 := cr_ c62_25
def c62_29 := cr_ c62_24
def c62_30 := cr_ c62_16
def r62_30 := co_ c62_30
def c62_32 := cr_ c62_3
def c62_35 := cr_ c62_32

theorem S_conf_Check {c : T_api_Config} {w : World} {R : Int → World → Prop} (h : F_conf_Check c R w) : C_conf_Check c w R := by
 unfold F_conf_Check at h
 unfold C_conf_Check
 refine Calls.mono (calls_of_wpE (args := [Value.agg #[Value.int .i64 c.Lanes, Value.int .i64 c.Shards, Value.int .i64 c.Window, Value.int .i64 c.Queue]]) (R := fun v w' => ∃ (r0 : Int), v = Value.int .i64 r0 ∧ R r0 w') Try.func62 (c := c62_0) (by kernel_rfl) 34 (by kernel_rfl) (by kernel_rfl) [(0, Value.agg #[Value.int .i64 c.Lanes, Value.int .i64 c.Shards, Value.int .i64 c.Window, Value.int .i64 c.Queue])] (by kernel_rfl) ?_) ?_
 · refine Zt r62_1 c62_3 ?_
   refine Zn [] 0 [(0, [], .agg #[.int .i64 c.Lanes, .int .i64 c.Shards, .int .i64 c.Window, .int .i64 c.Queue])] ?_
   refine Zw (some 1) (fun bb => pv_ bb) (Obj.cells ([.int .i64 c.Lanes, .int .i64 c.Shards, .int .i64 c.Window, .int .i64 c.Queue]).toArray ty_api_Config (0, 0)) (fun b_ w1 hb hw => ?_)
   replace h := h b_ w1 hb hw
   clear hb hw
   refine Zf P1 [(1, pv_ b_)] ?_
   change WpE _ _ c62_3 _ _ _
   refine Zs c62_4 c62_32 ?_
   refine Zt r62_5 c62_7 ?_
   refine Zn P1 1 [(1, [], pv_ b_), (5, [], pv_ b_)] ?_
   obtain ⟨v6, hc, h⟩ := h
   refine Zl 3 5 b_ 0 3 6 hc ?_
   refine Zn P2 4 [(1, [], pv_ b_), (7, [], .agg #[.int .i64 v6, .int .i64 16]), (8, [], .pointer (some ⟨b_, 1, none⟩))] ?_
   obtain ⟨v9, hc, h⟩ := h
   refine Zl 3 8 b_ 1 3 9 hc ?_
   refine Zn P2 7 [(1, [], pv_ b_), (7, [], .agg #[.int .i64 v6, .int .i64 16]), (10, [], .agg #[.int .i64 v9, .int .i64 16]), (11, [], .pointer (some ⟨b_, 2, none⟩))] ?_
   obtain ⟨v12, hc, h⟩ := h
   refine Zl 3 11 b_ 2 3 12 hc ?_
   refine Zn P2 10 [(7, [], .agg #[.int .i64 v6, .int .i64 16]), (10, [], .agg #[.int .i64 v9, .int .i64 16]), (13, [], .agg #[.int .i64 v12, .int .i64 64]), (14, [], .pointer (some ⟨b_, 3, none⟩))] ?_
   obtain ⟨v15, hc, h⟩ := h
   refine Zl 3 14 b_ 3 3 15 hc ?_
   refine Zn P1 12 [(7, [], .agg #[.int .i64 v6, .int .i64 16]), (10, [], .agg #[.int .i64 v9, .int .i64 16]), (13, [], .agg #[.int .i64 v12, .int .i64 64]), (16, [], .agg #[.int .i64 v15, .int .i64 16])] ?_
   refine Zw (some 17) (fun bb => .slice (some ⟨bb, 0, none⟩) 4 4) (Obj.cells ([.int .i64 v6, .int .i64 16, .int .i64 v9, .int .i64 16, .int .i64 v12, .int .i64 64, .int .i64 v15, .int .i64 16]).toArray ty_2_int (0, 0)) (fun b_1 w2 hb hw => ?_)
   replace h := h b_1 w2 hb hw
   clear hb hw
   refine Zf P2 [(17, .slice (some ⟨b_1, 0, none⟩) 4 4), (18, .int .i64 ((4 : Nat) : Int)), (19, .int .i64 0)] ?_
   change WpE _ _ c62_7 _ _ _
   refine Zb 0 c62_8 ?_
   obtain ⟨I, μ, h0, hr⟩ := h
   refine wpE_loop (x := c62_9) (by kernel_rfl) (fun m l w => ∃ (t19 : Int), l = [(17, Value.slice (some ⟨b_1, 0, none⟩) 4 4), (18, Value.int .i64 ((4 : Nat) : Int)), (19, Value.int .i64 t19)] ∧ I t19 w ∧ μ t19 w = m) (l' := [(17, Value.slice (some ⟨b_1, 0, none⟩) 4 4), (18, Value.int .i64 ((4 : Nat) : Int)), (19, Value.int .i64 0)]) (Sub.mk (by kernel_rfl)) ⟨0, rfl, h0, rfl⟩ ?_
   rintro _ _ w3 ⟨t19, rfl, hI, rfl⟩
   obtain ⟨again_, again__h, h⟩ : ∃ again_ : Int → World → Prop, (∀ t19' w', again_ t19' w' → I t19' w' ∧ μ t19' w' < μ t19 w3) ∧ F_conf_Check_L0 R b_1 again_ t19 w3 := ⟨_, fun _ _ h => h, hr t19 w3 hI⟩
   clear h0 hI
   unfold F_conf_Check_L0 at h
   refine Zp c62_12 P1 [(17, .slice (some ⟨b_1, 0, none⟩) 4 4), (18, .int .i64 ((4 : Nat) : Int)), (19, .int .i64 t19), (20, .bool (decide (t19 < ((4 : Nat) : Int))))] ?_
   refine Zs c62_13 c62_16 ?_
   refine Zc 20 (decide (t19 < ((4 : Nat) : Int))) c62_14 c62_15 (fun hb => ?_) (fun hb => ?_)
   · replace h := h.1 hb
     refine wpE_skip (by kernel_rfl) ?_
     change WpE _ _ c62_16 _ _ _
     refine Zs c62_17 c62_30 ?_
     refine Zb 1 c62_18 ?_
     refine Zt r62_19 c62_21 ?_
     refine Zn [] 0 [(17, [], .slice (some ⟨b_1, 0, none⟩) 4 4), (18, [], .int .i64 ((4 : Nat) : Int)), (19, [], .int .i64 t19)] ?_
     obtain ⟨h0, h1, h⟩ := h
     refine Zj 162 161 17 19 b_1 0 4 4 t19 2 21 0 h0 h1 ?_
     refine Zn [] 1 [(17, [], .slice (some ⟨b_1, 0, none⟩) 4 4), (18, [], .int .i64 ((4 : Nat) : Int)), (19, [], .int .i64 t19), (21, [], .pointer (some ⟨b_1, 0 + t19.toNat * 2, none⟩))] ?_
     obtain ⟨v22, hc, h⟩ := h
     refine reg_loadN (t := 161) (a := (Operand.tmp 21)) (b := b_1) (o := (0 + t19.toNat * 2)) (ty := 161) (dst := some 22) [Value.int .i64 v22.e0, Value.int .i64 v22.e1] (by kernel_rfl) (by kernel_rfl) (by kernel_rfl) (k := 2) (by kernel_rfl) (by kernel_rfl) hc ?_
     refine Zn [] 2 [(17, [], .slice (some ⟨b_1, 0, none⟩) 4 4), (18, [], .int .i64 ((4 : Nat) : Int)), (19, [], .int .i64 t19), (22, [], .agg #[.int .i64 v22.e0, .int .i64 v22.e1])] ?_
     refine Zw (some 4) (fun bb => pv_ bb) (Obj.cells ([.int .i64 0, .int .i64 0]).toArray ty_2_int (0, 0)) (fun b_2 w4 hb hw => ?_)
     replace h := h b_2 w4 hb hw
     clear hb hw
     refine Zn [] 3 [(4, [], pv_ b_2), (17, [], .slice (some ⟨b_1, 0, none⟩) 4 4), (18, [], .int .i64 ((4 : Nat) : Int)), (19, [], .int .i64 t19), (22, [], .agg #[.int .i64 v22.e0, .int .i64 v22.e1])] ?_
     obtain ⟨hc, h⟩ := h
     refine Zo 161 4 22 b_2 0 2 [.int .i64 v22.e0, .int .i64 v22.e1] hc (fun w5 hw => ?_)
     replace h := h w5 hw
     clear hw
     refine Ze [(4, pv_ b_2), (17, .slice (some ⟨b_1, 0, none⟩) 4 4), (18, .int .i64 ((4 : Nat) : Int)), (19, .int .i64 t19)] ?_
     change WpE _ _ c62_21 _ _ _
     refine wpE_seq_cut (x := c62_22) (y := c62_24) (by kernel_rfl) (fun l w => ∃ (t32 : Bool), l = [(17, Value.slice (some ⟨b_1, 0, none⟩) 4 4), (18, Value.int .i64 ((4 : Nat) : Int)), (19, Value.int .i64 t19), (32, Value.bool t32)] ∧ F_conf_Check_k1 R t19 again_ t32 w) ?_ ?_
     · refine Zr r62_22 ?_
       refine Zn [] 0 [(4, [], pv_ b_2), (17, [], .slice (some ⟨b_1, 0, none⟩) 4 4), (18, [], .int .i64 ((4 : Nat) : Int)), (19, [], .int .i64 t19)] ?_
       obtain ⟨h0, h1, h⟩ := h
       refine reg_indexA1 (t := 161) (e := 3) (x := (Operand.tmp 4)) (ix := (Operand.const (Value.int Go.IntKind.i64 0))) (b := b_2) (o := 0) (len := 2) (k := .i64) (j := 0) (ty := 0) (dst := some 23) (by kernel_rfl) (by kernel_rfl) (by kernel_rfl) (by kernel_rfl) (by kernel_rfl) h0 h1 ?_
       refine Zn [] 1 [(4, [], pv_ b_2), (17, [], .slice (some ⟨b_1, 0, none⟩) 4 4), (18, [], .int .i64 ((4 : Nat) : Int)), (19, [], .int .i64 t19), (23, [], pv_ b_2)] ?_
       obtain ⟨v24, hc, h⟩ := h
       refine Zl 3 23 b_2 0 3 24 hc ?_
       refine Zn P2 4 [(4, [], pv_ b_2), (17, [], .slice (some ⟨b_1, 0, none⟩) 4 4), (18, [], .int .i64 ((4 : Nat) : Int)), (19, [], .int .i64 t19), (26, [], .bool (decide (v24 < 1)))] ?_
       refine reg_split 26 (decide (v24 < 1)) (by kernel_rfl) (fun hb => ?_) (fun hb => ?_)
       · replace h := h.1 hb
         refine Zn [] 4 [(4, [], pv_ b_2), (17, [], .slice (some ⟨b_1, 0, none⟩) 4 4), (18, [], .int .i64 ((4 : Nat) : Int)), (19, [], .int .i64 t19), (26, [], .bool true)] ?_
         refine Zf [.skip, .skip, .skip, .skip, .skip, .plain] [(17, .slice (some ⟨b_1, 0, none⟩) 4 4), (18, .int .i64 ((4 : Nat) : Int)), (19, .int .i64 t19), (32, .bool true)] ?_
         exact ⟨[(17, Value.slice (some ⟨b_1, 0, none⟩) 4 4), (18, Value.int .i64 ((4 : Nat) : Int)), (19, Value.int .i64 t19), (32, Value.bool true)], Sub.mk (by kernel_rfl), true, rfl, h⟩
       · replace h := h.2 hb
         refine Zn [] 4 [(4, [], pv_ b_2), (17, [], .slice (some ⟨b_1, 0, none⟩) 4 4), (18, [], .int .i64 ((4 : Nat) : Int)), (19, [], .int .i64 t19), (26, [], .bool false)] ?_
         refine Zn [] 4 [(4, [], pv_ b_2), (17, [], .slice (some ⟨b_1, 0, none⟩) 4 4), (18, [], .int .i64 ((4 : Nat) : Int)), (19, [], .int .i64 t19), (26, [], .bool false)] ?_
         obtain ⟨h0, h1, h⟩ := h
         refine reg_indexA1 (t := 161) (e := 3) (x := (Operand.tmp 4)) (ix := (Operand.const (Value.int Go.IntKind.i64 0))) (b := b_2) (o := 0) (len := 2) (k := .i64) (j := 0) (ty := 0) (dst := some 27) (by kernel_rfl) (by kernel_rfl) (by kernel_rfl) (by kernel_rfl) (by kernel_rfl) h0 h1 ?_
         refine Zn [] 5 [(4, [], pv_ b_2), (17, [], .slice (some ⟨b_1, 0, none⟩) 4 4), (18, [], .int .i64 ((4 : Nat) : Int)), (19, [], .int .i64 t19), (26, [], .bool false), (27, [], pv_ b_2)] ?_
         obtain ⟨v28, hc, h⟩ := h
         refine Zl 3 27 b_2 0 3 28 hc ?_
         refine Zn [] 6 [(4, [], pv_ b_2), (17, [], .slice (some ⟨b_1, 0, none⟩) 4 4), (18, [], .int .i64 ((4 : Nat) : Int)), (19, [], .int .i64 t19), (26, [], .bool false), (28, [], .int .i64 v28)] ?_
         obtain ⟨h0, h1, h⟩ := h
         refine reg_indexA1 (t := 161) (e := 3) (x := (Operand.tmp 4)) (ix := (Operand.const (Value.int Go.IntKind.i64 1))) (b := b_2) (o := 0) (len := 2) (k := .i64) (j := 1) (ty := 0) (dst := some 29) (by kernel_rfl) (by kernel_rfl) (by kernel_rfl) (by kernel_rfl) (by kernel_rfl) h0 h1 ?_
         refine Zn [] 7 [(17, [], .slice (some ⟨b_1, 0, none⟩) 4 4), (18, [], .int .i64 ((4 : Nat) : Int)), (19, [], .int .i64 t19), (26, [], .bool false), (28, [], .int .i64 v28), (29, [], .pointer (some ⟨b_2, 1, none⟩))] ?_
         obtain ⟨v30, hc, h⟩ := h
         refine Zl 3 29 b_2 1 3 30 hc ?_
         refine Zf [.sure, .plain] [(17, .slice (some ⟨b_1, 0, none⟩) 4 4), (18, .int .i64 ((4 : Nat) : Int)), (19, .int .i64 t19), (32, .bool (decide (v28 > v30)))] ?_
         exact ⟨[(17, Value.slice (some ⟨b_1, 0, none⟩) 4 4), (18, Value.int .i64 ((4 : Nat) : Int)), (19, Value.int .i64 t19), (32, Value.bool (decide (v28 > v30)))], Sub.mk (by kernel_rfl), (decide (v28 > v30)), rfl, h⟩
     · rintro _ w6 ⟨t32, rfl, h⟩
       unfold F_conf_Check_k1 at h
       refine Zc 32 t32 c62_25 c62_29 (fun hb => ?_) (fun hb => ?_)
       · replace h := h.1 hb
         refine Zp c62_28 P1 [(2, .int .i64 7)] ?_
         refine wpE_ret (by kernel_rfl) ?_
         repeat (first | refine seqQ_ret ?_ | refine blockQ_ret ?_ | refine loopQ_ret ?_ | refine cutQ_ret ?_)
         exact retS (rs := [(ResultVar.tmp 2)]) (v := Value.int .i64 7) (by kernel_rfl) (⟨by kernel_rfl, trivial⟩) ⟨7, rfl, h⟩
       · replace h := h.2 hb
         refine wpE_skip (by kernel_rfl) ?_
         change WpE _ _ c62_30 _ _ _
         refine Zr r62_30 ?_
         refine Zf P2 [(17, .slice (some ⟨b_1, 0, none⟩) 4 4), (18, .int .i64 ((4 : Nat) : Int)), (19, .int .i64 (IntKind.i64.wrap (t19 + 1)))] ?_
         have hb_ := again__h _ _ h
         exact ⟨_, hb_.2, [(17, Value.slice (some ⟨b_1, 0, none⟩) 4 4), (18, Value.int .i64 ((4 : Nat) : Int)), (19, Value.int .i64 (IntKind.i64.wrap (t19 + 1)))], Sub.mk (by kernel_rfl), (IntKind.i64.wrap (t19 + 1)), rfl, hb_.1, rfl⟩
   · replace h := h.2 hb
     refine wpE_exit (id := 0) (by kernel_rfl) ?_
     change WpE _ _ c62_32 _ _ _
     refine Zp c62_35 P1 [(2, .int .i64 0)] ?_
     refine wpE_ret (by kernel_rfl) ?_
     repeat (first | refine seqQ_ret ?_ | refine blockQ_ret ?_ | refine loopQ_ret ?_ | refine cutQ_ret ?_)
     exact retS (rs := [(ResultVar.tmp 2)]) (v := Value.int .i64 0) (by kernel_rfl) (⟨by kernel_rfl, trivial⟩) ⟨0, rfl, h⟩
 · rintro e w' ⟨v, rfl, r0, rfl, h⟩; exact ⟨r0, rfl, h⟩

/-! ### towpath/conf.Shard (function 95) -/
def c95_0 := cb_ Try.f95
def c95_1 := cl_ c95_0
def r95_1 := co_ c95_1
def c95_3 := cr_ c95_0
def c95_4 := cl_ c95_3
def c95_5 := cl_ c95_4
def r95_5 := co_ c95_5
def c95_7 := cr_ c95_4
def c95_10 := cr_ c95_7
def c95_11 := cl_ c95_10
def c95_14 := cr_ c95_11
def c95_15 := cr_ c95_10
def c95_16 := cr_ c95_3
def c95_17 := cl_ c95_16
def c95_20 := cr_ c95_17
def c95_21 := cl_ c95_20
def c95_24 := cr_ c95_21
def c95_25 := cr_ c95_20
def c95_26 := cr_ c95_16
def c95_27 := cl_ c95_26
def r95_27 := co_ c95_27
def c95_29 := cr_ c95_26

theorem S_conf_Shard {c : T_api_Config} {key : ByteArray} {w : World} {R : Int → Int → World → Prop} (h : F_conf_Shard c key R w) : C_conf_Shard c key w R := by
 unfold F_conf_Shard at h
 unfold C_conf_Shard
 refine Calls.mono (calls_of_wpE (args := [Value.agg #[Value.int .i64 c.Lanes, Value.int .i64 c.Shards, Value.int .i64 c.Window, Value.int .i64 c.Queue], Value.string key]) (R := fun v w' => ∃ (r0 : Int) (r1 : Int), v = Value.tuple #[Value.int .i64 r0, Value.int .i64 r1] ∧ R r0 r1 w') Try.func95 (c := c95_0) (by kernel_rfl) 26 (by kernel_rfl) (by kernel_rfl) [(0, Value.agg #[Value.int .i64 c.Lanes, Value.int .i64 c.Shards, Value.int .i64 c.Window, Value.int .i64 c.Queue]), (1, Value.string key)] (by kernel_rfl) ?_) ?_
 · refine Zt r95_1 c95_3 ?_
   refine Zn [] 0 [(0, [], .agg #[.int .i64 c.Lanes, .int .i64 c.Shards, .int .i64 c.Window, .int .i64 c.Queue]), (1, [], .string key)] ?_
   refine Zw (some 2) (fun bb => pv_ bb) (Obj.cells ([.int .i64 c.Lanes, .int .i64 c.Shards, .int .i64 c.Window, .int .i64 c.Queue]).toArray ty_api_Config (0, 0)) (fun b_ w1 hb hw => ?_)
   replace h := h b_ w1 hb hw
   clear hb hw
   refine Zf P2 [(1, .string key), (2, pv_ b_)] ?_
   change WpE _ _ c95_3 _ _ _
   refine Zs c95_4 c95_16 ?_
   refine Zt r95_5 c95_7 ?_
   refine Zn [] 0 [(1, [], .string key), (2, [], pv_ b_)] ?_
   obtain ⟨v7, hc, h⟩ := h
   refine reg_loadN (t := 69) (a := (Operand.tmp 2)) (b := b_) (o := 0) (ty := 69) (dst := some 7) [Value.int .i64 v7.Lanes, Value.int .i64 v7.Shards, Value.int .i64 v7.Window, Value.int .i64 v7.Queue] (by kernel_rfl) (by kernel_rfl) (by kernel_rfl) (k := 4) (by kernel_rfl) (by kernel_rfl) hc ?_
   refine Zn [] 1 [(1, [], .string key), (2, [], pv_ b_), (7, [], .agg #[.int .i64 v7.Lanes, .int .i64 v7.Shards, .int .i64 v7.Window, .int .i64 v7.Queue])] ?_
   refine Zm 62 #[.agg #[.int .i64 v7.Lanes, .int .i64 v7.Shards, .int .i64 v7.Window, .int .i64 v7.Queue]] (some 8) (Calls.mono h ?_)
   rintro _ w2 ⟨v8, rfl, h⟩
   refine ⟨_, rfl, ?_⟩
   refine Zf P1 [(1, .string key), (2, pv_ b_), (6, .int .i64 v8)] ?_
   change WpE _ _ c95_7 _ _ _
   refine Zp c95_10 P2 [(1, .string key), (2, pv_ b_), (6, .int .i64 v8), (10, .bool (v8 != 0))] ?_
   refine Zc 10 (v8 != 0) c95_11 c95_15 (fun hb => ?_) (fun hb => ?_)
   · replace h := h.1 hb
     refine Zp c95_14 P3 [(4, .int .i64 0), (5, .int .i64 v8)] ?_
     refine wpE_ret (by kernel_rfl) ?_
     repeat (first | refine seqQ_ret ?_ | refine blockQ_ret ?_ | refine loopQ_ret ?_ | refine cutQ_ret ?_)
     exact retT (rs := [(ResultVar.tmp 4), (ResultVar.tmp 5)]) (vs := [Value.int .i64 0, Value.int .i64 v8]) (by kernel_rfl) (⟨by kernel_rfl, ⟨by kernel_rfl, trivial⟩⟩) (by kernel_rfl) ⟨0, v8, rfl, h⟩
   · replace h := h.2 hb
     refine wpE_skip (by kernel_rfl) ?_
     change WpE _ _ c95_16 _ _ _
     refine Zs c95_17 c95_26 ?_
     refine Zp c95_20 [.plain, .plain, .plain, .plain, .plain, .plain, .pick] [(1, .string key), (2, pv_ b_), (18, .bool ((key.toList == ByteArray.empty.toList) || (decide (((key.size : Nat) : Int) > 64))))] ?_
     refine Zc 18 ((key.toList == ByteArray.empty.toList) || (decide (((key.size : Nat) : Int) > 64))) c95_21 c95_25 (fun hb => ?_) (fun hb => ?_)
     · replace h := h.1 hb
       refine Zp c95_24 P2 [(4, .int .i64 0), (5, .int .i64 1)] ?_
       refine wpE_ret (by kernel_rfl) ?_
       repeat (first | refine seqQ_ret ?_ | refine blockQ_ret ?_ | refine loopQ_ret ?_ | refine cutQ_ret ?_)
       exact retT (rs := [(ResultVar.tmp 4), (ResultVar.tmp 5)]) (vs := [Value.int .i64 0, Value.int .i64 1]) (by kernel_rfl) (⟨by kernel_rfl, ⟨by kernel_rfl, trivial⟩⟩) (by kernel_rfl) ⟨0, 1, rfl, h⟩
     · replace h := h.2 hb
       refine wpE_skip (by kernel_rfl) ?_
       change WpE _ _ c95_26 _ _ _
       refine Zs c95_27 c95_29 ?_
       refine wpE_drawregion (id := 6) (ops := r95_27) (by kernel_rfl) (by kernel_rfl) (by kernel_rfl) ?_
       refine qreg_run P1 1 [(2, [], pv_ b_), (19, [], Value.string key)] (by kernel_rfl) (by kernel_rfl) ?_
       obtain ⟨v20, hq, h⟩ := h
       refine qreg_enter (op := (Op.call (Call.mk (Callee.value (Operand.func 116)) #[(Operand.tmp 19)] #[9]))) (ty := 178) (dst := some 20) 116 #[Value.string key] (Value.int .u32 v20) (by kernel_rfl) (fun ww => by kernel_rfl) (fun w' he => Calls.mono (hq w' he) (by rintro _ w'' ⟨_, rfl, rfl, hE⟩; exact ⟨rfl, hE⟩)) ?_
       clear hq
       refine qreg_run P1 3 [(20, [], Value.int .u32 v20), (21, [], Value.pointer (some ⟨b_, 1, none⟩))] (by kernel_rfl) (by kernel_rfl) ?_
       obtain ⟨v22, hc, h⟩ := h
       refine qreg_load1 (t := 3) (a := (Operand.tmp 21)) (b := b_) (o := 1) (ty := 3) (dst := some 22) (by kernel_rfl) (by kernel_rfl) (by kernel_rfl) hc ?_
       refine qreg_run P1 5 [(20, [], Value.int .u32 v20), (23, [], Value.int .u32 (IntKind.u32.wrap v22))] (by kernel_rfl) (by kernel_rfl) ?_
       obtain ⟨h0, h⟩ := h
       refine qreg_val (op := (Op.binOp BinOp.rem 178 (Operand.tmp 20) (Operand.tmp 23) 178)) (ty := 178) (dst := some 24) (Value.int .u32 (Int.tmod v20 (IntKind.u32.wrap v22))) (by kernel_rfl) (fun ww => run_rem (by kernel_rfl) (by kernel_rfl) h0 ww) ?_
       refine qreg_run P3 9 [(4, [], Value.int .i64 (IntKind.i64.wrap (Int.tmod v20 (IntKind.u32.wrap v22)))), (5, [], Value.int .i64 0)] (by kernel_rfl) (by kernel_rfl) ?_
       refine qreg_end [(4, Value.int .i64 (IntKind.i64.wrap (Int.tmod v20 (IntKind.u32.wrap v22)))), (5, Value.int .i64 0)] (by kernel_rfl) (by kernel_rfl) (fun w4 hw => ?_)
       replace h := h w4 hw
       clear hw
       change WpE _ _ c95_29 _ _ _
       refine wpE_ret (by kernel_rfl) ?_
       repeat (first | refine seqQ_ret ?_ | refine blockQ_ret ?_ | refine loopQ_ret ?_ | refine cutQ_ret ?_)
       exact retT (rs := [(ResultVar.tmp 4), (ResultVar.tmp 5)]) (vs := [Value.int .i64 (IntKind.i64.wrap (Int.tmod v20 (IntKind.u32.wrap v22))), Value.int .i64 0]) (by kernel_rfl) (⟨by kernel_rfl, ⟨by kernel_rfl, trivial⟩⟩) (by kernel_rfl) ⟨(IntKind.i64.wrap (Int.tmod v20 (IntKind.u32.wrap v22))), 0, rfl, h⟩
 · rintro e w' ⟨v, rfl, r0, r1, rfl, h⟩; exact ⟨r0, r1, rfl, h⟩
end
end Go.Proofs.Ytpedclhflmhakaa
