/- WRITTEN BY PROGRAM (dec.py): for each Go function the clean formula F, the call's contract C, and the proof S that F gives C. -/
import Derived.Test.YtpdegdnigcnjiaaGreatDoorRows
import Derived.Test.YtpdegdnigcnjiaaGreatDoorGF
namespace Go.Proofs.YtpdegdnigcnjiaaGreatDoor
open Go
set_option linter.unusedVariables false
set_option maxRecDepth 100000
set_option maxHeartbeats 4000000
noncomputable section

/-! ### towpath/towpathlaw01.Beyond (function 7) -/
def c7_0 := cb_ Tryz.f7
def c7_3 := cr_ c7_0
def c7_6 := cr_ c7_3
def c7_7 := cl_ c7_6
def c7_10 := cr_ c7_7
def c7_11 := cl_ c7_10
def c7_12 := cl_ c7_11
def c7_13 := cl_ c7_12
def c7_16 := cr_ c7_13
def c7_17 := cl_ c7_16
def c7_18 := cr_ c7_16
def c7_19 := cr_ c7_12
def c7_20 := cl_ c7_19
def c7_21 := cl_ c7_20
def c7_22 := cl_ c7_21
def r7_22 := co_ c7_22
def c7_24 := cr_ c7_21
def c7_27 := cr_ c7_24
def c7_28 := cl_ c7_27
def c7_31 := cr_ c7_28
def c7_32 := cr_ c7_27
def c7_33 := cr_ c7_19
def r7_33 := co_ c7_33
def c7_35 := cr_ c7_6
def c7_38 := cr_ c7_35

theorem S_towpathlaw01_Beyond {l_ : Slc} {w : World} {R : Bool → World → Prop} (h : F_towpathlaw01_Beyond l_ R w) : C_towpathlaw01_Beyond l_ w R := by
 unfold F_towpathlaw01_Beyond at h
 unfold C_towpathlaw01_Beyond
 refine Calls.mono (calls_of_wpE (args := [sv_ l_]) (R := fun v w' => ∃ (r0 : Bool), v = Value.bool r0 ∧ R r0 w') Tryz.func7 (c := c7_0) (by kernel_rfl) 19 (by kernel_rfl) (by kernel_rfl) [(0, sv_ l_)] (by kernel_rfl) ?_) ?_
 · refine Zp c7_3 P1 [(0, sv_ l_)] ?_
   refine Zp c7_6 P1 [(0, sv_ l_), (3, .int .i64 0)] ?_
   refine Zs c7_7 c7_35 ?_
   refine Zp c7_10 P1 [(0, sv_ l_), (3, .int .i64 0), (4, .int .i64 0)] ?_
   refine Zb 0 c7_11 ?_
   obtain ⟨I, μ, h0, hr⟩ := h
   refine wpE_loop (x := c7_12) (by kernel_rfl) (fun m l w => ∃ (n_ : Int) (i : Int), l = [(0, sv_ l_), (3, Value.int .i64 n_), (4, Value.int .i64 i)] ∧ I n_ i w ∧ μ n_ i w = m) (l' := [(0, sv_ l_), (3, Value.int .i64 0), (4, Value.int .i64 0)]) (Sub.mk (by kernel_rfl)) ⟨0, 0, rfl, h0, rfl⟩ ?_
   rintro _ _ w1 ⟨n_, i, rfl, hI, rfl⟩
   obtain ⟨again_, again__h, h⟩ : ∃ again_ : Int → Int → World → Prop, (∀ n_' i' w', again_ n_' i' w' → I n_' i' w' ∧ μ n_' i' w' < μ n_ i w1) ∧ F_towpathlaw01_Beyond_L0 l_ R again_ n_ i w1 := ⟨_, fun _ _ _ h => h, hr n_ i w1 hI⟩
   clear h0 hI
   unfold F_towpathlaw01_Beyond_L0 at h
   refine Zs c7_13 c7_19 ?_
   refine Zp c7_16 P4 [(0, sv_ l_), (3, .int .i64 n_), (4, .int .i64 i), (8, .bool (decide (i < ((l_.len : Nat) : Int))))] ?_
   refine Zc 8 (decide (i < ((l_.len : Nat) : Int))) c7_17 c7_18 (fun hb => ?_) (fun hb => ?_)
   · replace h := h.1 hb
     refine wpE_skip (by kernel_rfl) ?_
     change WpE _ _ c7_19 _ _ _
     refine Zs c7_20 c7_33 ?_
     refine Zb 1 c7_21 ?_
     refine Zt r7_22 c7_24 ?_
     refine Zn P3 3 [(0, [], sv_ l_), (3, [], .int .i64 n_), (4, [], .int .i64 i), (11, [], .int .i64 n_), (12, [], sv_ l_), (13, [], .int .i64 i)] ?_
     obtain ⟨hp_7, h⟩ := h
     refine Zv (fun pp => [(0, [], sv_ l_), (3, [], .int .i64 n_), (4, [], .int .i64 i), (11, [], .int .i64 n_), (12, [], .slice pp l_.len l_.cap), (13, [], .int .i64 i)]) hp_7 ?_
     obtain ⟨h0, h1, h⟩ := h
     refine Zi 23 3 12 13 (pblk l_.ptr) (poff l_.ptr) l_.len l_.cap i 14 0 h0 h1 ?_
     refine Zn [] 4 [(0, [], sv_ l_), (3, [], .int .i64 n_), (4, [], .int .i64 i), (11, [], .int .i64 n_), (14, [], .pointer (some ⟨(pblk l_.ptr), (poff l_.ptr) + i.toNat, none⟩))] ?_
     obtain ⟨v15, hc, h⟩ := h
     refine Zl 3 14 (pblk l_.ptr) ((poff l_.ptr) + i.toNat) 3 15 hc ?_
     refine Zf P2 [(0, sv_ l_), (3, .int .i64 (IntKind.i64.wrap (n_ + v15))), (4, .int .i64 i)] ?_
     change WpE _ _ c7_24 _ _ _
     refine Zp c7_27 P2 [(0, sv_ l_), (3, .int .i64 (IntKind.i64.wrap (n_ + v15))), (4, .int .i64 i), (18, .bool (decide ((IntKind.i64.wrap (n_ + v15)) > 1048576)))] ?_
     refine Zc 18 (decide ((IntKind.i64.wrap (n_ + v15)) > 1048576)) c7_28 c7_32 (fun hb => ?_) (fun hb => ?_)
     · replace h := h.1 hb
       refine Zp c7_31 P1 [(2, .bool true)] ?_
       refine wpE_ret (by kernel_rfl) ?_
       repeat (first | refine seqQ_ret ?_ | refine blockQ_ret ?_ | refine loopQ_ret ?_ | refine cutQ_ret ?_)
       exact retS (rs := [(ResultVar.tmp 2)]) (v := Value.bool true) (by kernel_rfl) (⟨by kernel_rfl, trivial⟩) ⟨true, rfl, h⟩
     · replace h := h.2 hb
       refine wpE_skip (by kernel_rfl) ?_
       change WpE _ _ c7_33 _ _ _
       refine Zr r7_33 ?_
       refine Zf P3 [(0, sv_ l_), (3, .int .i64 (IntKind.i64.wrap (n_ + v15))), (4, .int .i64 (IntKind.i64.wrap (i + 1)))] ?_
       have hb_ := again__h _ _ _ h
       exact ⟨_, hb_.2, [(0, sv_ l_), (3, Value.int .i64 (IntKind.i64.wrap (n_ + v15))), (4, Value.int .i64 (IntKind.i64.wrap (i + 1)))], Sub.mk (by kernel_rfl), (IntKind.i64.wrap (n_ + v15)), (IntKind.i64.wrap (i + 1)), rfl, hb_.1, rfl⟩
   · replace h := h.2 hb
     refine wpE_exit (id := 0) (by kernel_rfl) ?_
     change WpE _ _ c7_35 _ _ _
     refine Zp c7_38 P1 [(2, .bool false)] ?_
     refine wpE_ret (by kernel_rfl) ?_
     repeat (first | refine seqQ_ret ?_ | refine blockQ_ret ?_ | refine loopQ_ret ?_ | refine cutQ_ret ?_)
     exact retS (rs := [(ResultVar.tmp 2)]) (v := Value.bool false) (by kernel_rfl) (⟨by kernel_rfl, trivial⟩) ⟨false, rfl, h⟩
 · rintro e w' ⟨v, rfl, r0, rfl, h⟩; exact ⟨r0, rfl, h⟩

/-! ### (*towpath/towpathlaw01.Book).Txns (function 13) -/
def c13_0 := cb_ Tryz.f13
def c13_1 := cl_ c13_0
def c13_4 := cr_ c13_1
def c13_5 := cl_ c13_4
def c13_6 := cl_ c13_5
def c13_7 := cl_ c13_6
def c13_10 := cr_ c13_7
def c13_11 := cl_ c13_10
def c13_12 := cr_ c13_10
def c13_13 := cr_ c13_6
def c13_14 := cl_ c13_13
def c13_15 := cl_ c13_14
def r13_15 := co_ c13_15
def c13_17 := cr_ c13_13
def r13_17 := co_ c13_17
def c13_19 := cr_ c13_0
def r13_19 := co_ c13_19

theorem S_towpathlaw01_Book_Txns {b_ : Option Addr} {l_ : Slc} {w : World} {R : World → Prop} (h : F_towpathlaw01_Book_Txns b_ l_ R w) : C_towpathlaw01_Book_Txns b_ l_ w R := by
 unfold F_towpathlaw01_Book_Txns at h
 unfold C_towpathlaw01_Book_Txns
 refine Calls.mono (calls_of_wpE (args := [Value.pointer b_, sv_ l_]) (R := fun v w' => v = Value.tuple #[] ∧ R w') Tryz.func13 (c := c13_0) (by kernel_rfl) 20 (by kernel_rfl) (by kernel_rfl) [(0, Value.pointer b_), (1, sv_ l_)] (by kernel_rfl) ?_) ?_
 · refine Zs c13_1 c13_19 ?_
   refine Zp c13_4 P1 [(0, .pointer b_), (1, sv_ l_), (4, .int .i64 0)] ?_
   refine Zb 0 c13_5 ?_
   obtain ⟨I, μ, h0, hr⟩ := h
   refine wpE_loop (x := c13_6) (by kernel_rfl) (fun m l w => ∃ (i : Int), l = [(0, Value.pointer b_), (1, sv_ l_), (4, Value.int .i64 i)] ∧ I i w ∧ μ i w = m) (l' := [(0, Value.pointer b_), (1, sv_ l_), (4, Value.int .i64 0)]) (Sub.mk (by kernel_rfl)) ⟨0, rfl, h0, rfl⟩ ?_
   rintro _ _ w1 ⟨i, rfl, hI, rfl⟩
   obtain ⟨again_, again__h, h⟩ : ∃ again_ : Int → World → Prop, (∀ i' w', again_ i' w' → I i' w' ∧ μ i' w' < μ i w1) ∧ F_towpathlaw01_Book_Txns_L0 b_ l_ R again_ i w1 := ⟨_, fun _ _ h => h, hr i w1 hI⟩
   clear h0 hI
   unfold F_towpathlaw01_Book_Txns_L0 at h
   refine Zs c13_7 c13_13 ?_
   refine Zp c13_10 P4 [(0, .pointer b_), (1, sv_ l_), (4, .int .i64 i), (8, .bool (decide (i < ((l_.len : Nat) : Int))))] ?_
   refine Zc 8 (decide (i < ((l_.len : Nat) : Int))) c13_11 c13_12 (fun hb => ?_) (fun hb => ?_)
   · replace h := h.1 hb
     refine wpE_skip (by kernel_rfl) ?_
     change WpE _ _ c13_13 _ _ _
     refine Zs c13_14 c13_17 ?_
     refine Zb 1 c13_15 ?_
     refine Zr r13_15 ?_
     refine Zn P3 3 [(0, [], .pointer b_), (1, [], sv_ l_), (4, [], .int .i64 i), (11, [], .pointer b_), (12, [], sv_ l_), (13, [], .int .i64 i)] ?_
     obtain ⟨hp_3, h⟩ := h
     refine Zv (fun pp => [(0, [], .pointer b_), (1, [], sv_ l_), (4, [], .int .i64 i), (11, [], .pointer b_), (12, [], .slice pp l_.len l_.cap), (13, [], .int .i64 i)]) hp_3 ?_
     obtain ⟨h0, h1, h⟩ := h
     refine Zj 22 52 12 13 (pblk l_.ptr) (poff l_.ptr) l_.len l_.cap i 2 14 0 h0 h1 ?_
     refine Zn [] 4 [(0, [], .pointer b_), (1, [], sv_ l_), (4, [], .int .i64 i), (11, [], .pointer b_), (14, [], .pointer (some ⟨(pblk l_.ptr), (poff l_.ptr) + i.toNat * 2, none⟩))] ?_
     obtain ⟨v15, hc, h⟩ := h
     refine reg_loadN (t := 52) (a := (Operand.tmp 14)) (b := (pblk l_.ptr)) (o := ((poff l_.ptr) + i.toNat * 2)) (ty := 52) (dst := some 15) [Value.int .i64 v15.Number, sv_ v15.Writes] (by kernel_rfl) (by kernel_rfl) (by kernel_rfl) (k := 2) (by kernel_rfl) (by kernel_rfl) hc ?_
     refine Zn [] 5 [(0, [], .pointer b_), (1, [], sv_ l_), (4, [], .int .i64 i), (11, [], .pointer b_), (15, [], .agg #[.int .i64 v15.Number, sv_ v15.Writes])] ?_
     refine Zm 20 #[.pointer b_, .agg #[.int .i64 v15.Number, sv_ v15.Writes]] (some 16) (Calls.mono h ?_)
     rintro _ w2 ⟨rfl, h⟩
     refine ⟨_, rfl, ?_⟩
     refine Ze [(0, .pointer b_), (1, sv_ l_), (4, .int .i64 i)] ?_
     change WpE _ _ c13_17 _ _ _
     refine Zr r13_17 ?_
     refine Zf P3 [(0, .pointer b_), (1, sv_ l_), (4, .int .i64 (IntKind.i64.wrap (i + 1)))] ?_
     have hb_ := again__h _ _ h
     exact ⟨_, hb_.2, [(0, Value.pointer b_), (1, sv_ l_), (4, Value.int .i64 (IntKind.i64.wrap (i + 1)))], Sub.mk (by kernel_rfl), (IntKind.i64.wrap (i + 1)), rfl, hb_.1, rfl⟩
   · replace h := h.2 hb
     refine wpE_exit (id := 0) (by kernel_rfl) ?_
     change WpE _ _ c13_19 _ _ _
     refine Zr r13_19 ?_
     refine Zn P2 2 [(17, [], .pointer b_), (18, [], sv_ l_)] ?_
     refine Zm 49 #[.pointer b_, sv_ l_] (some 19) (Calls.mono h ?_)
     rintro _ w3 ⟨rfl, h⟩
     refine ⟨_, rfl, ?_⟩
     refine Ze [] ?_
     repeat (first | refine seqQ_exit ?_ | refine loopQ_exit ?_ | refine cutQ_exit ?_ | refine blockQ_hit ?_ | refine blockQ_miss (by kernel_rfl) ?_)
     refine retQ_normal ?_
     repeat (first | refine seqQ_ret ?_ | refine blockQ_ret ?_ | refine loopQ_ret ?_ | refine cutQ_ret ?_)
     exact retT (rs := []) (vs := []) (by kernel_rfl) (trivial) (by kernel_rfl) ⟨rfl, h⟩
 · rintro e w' ⟨v, rfl, rfl, h⟩; exact ⟨rfl, h⟩

/-! ### (*towpath/towpathlaw01.Book).Apart (function 14) -/
def c14_0 := cb_ Tryz.f14
def c14_3 := cr_ c14_0
def c14_4 := cl_ c14_3
def r14_4 := co_ c14_4
def c14_6 := cr_ c14_3
def c14_7 := cl_ c14_6
def r14_7 := co_ c14_7
def c14_9 := cr_ c14_6
def c14_10 := cl_ c14_9
def r14_10 := co_ c14_10
def c14_12 := cr_ c14_9
def c14_13 := cl_ c14_12
def r14_13 := co_ c14_13
def c14_15 := cr_ c14_12
def c14_16 := cl_ c14_15
def r14_16 := co_ c14_16
def c14_18 := cr_ c14_15
def c14_19 := cl_ c14_18
def r14_19 := co_ c14_19
def c14_21 := cr_ c14_18
def c14_22 := cl_ c14_21
def r14_22 := co_ c14_22
def c14_24 := cr_ c14_21
def c14_25 := cl_ c14_24
def r14_25 := co_ c14_25
def c14_27 := cr_ c14_24
def c14_28 := cl_ c14_27
def r14_28 := co_ c14_28
def c14_30 := cr_ c14_27
def c14_31 := cl_ c14_30
def r14_31 := co_ c14_31
def c14_33 := cr_ c14_30
def c14_34 := cl_ c14_33
def r14_34 := co_ c14_34
def c14_36 := cr_ c14_33
def c14_37 := cl_ c14_36
def r14_37 := co_ c14_37
def c14_39 := cr_ c14_36
def c14_40 := cl_ c14_39
def r14_40 := co_ c14_40
def c14_42 := cr_ c14_39
def c14_43 := cl_ c14_42
def r14_43 := co_ c14_43
def c14_45 := cr_ c14_42
def c14_46 := cl_ c14_45
def r14_46 := co_ c14_46
def c14_48 := cr_ c14_45
def c14_49 := cl_ c14_48
def r14_49 := co_ c14_49
def c14_51 := cr_ c14_48
def c14_52 := cl_ c14_51
def r14_52 := co_ c14_52
def c14_54 := cr_ c14_51
def c14_55 := cl_ c14_54
def r14_55 := co_ c14_55
def c14_57 := cr_ c14_54
def c14_58 := cl_ c14_57
def r14_58 := co_ c14_58
def c14_60 := cr_ c14_57
def c14_61 := cl_ c14_60
def r14_61 := co_ c14_61
def c14_63 := cr_ c14_60
def c14_64 := cl_ c14_63
def r14_64 := co_ c14_64
def c14_66 := cr_ c14_63
def c14_67 := cl_ c14_66
def r14_67 := co_ c14_67
def c14_69 := cr_ c14_66
def c14_70 := cl_ c14_69
def r14_70 := co_ c14_70
def c14_72 := cr_ c14_69

theorem S_towpathlaw01_Book_Apart {b_ : Option Addr} {w : World} {R : Bool → World → Prop} (h : F_towpathlaw01_Book_Apart b_ R w) : C_towpathlaw01_Book_Apart b_ w R := by
 unfold F_towpathlaw01_Book_Apart at h
 unfold C_towpathlaw01_Book_Apart
 refine Calls.mono (calls_of_wpE (args := [Value.pointer b_]) (R := fun v w' => ∃ (r0 : Bool), v = Value.bool r0 ∧ R r0 w') Tryz.func14 (c := c14_0) (by kernel_rfl) 89 (by kernel_rfl) (by kernel_rfl) [(0, Value.pointer b_)] (by kernel_rfl) ?_) ?_
 · refine Zp c14_3 P1 [(0, .pointer b_)] ?_
   refine Zt r14_4 c14_6 ?_
   refine Zn P1 1 [(0, [], .pointer b_), (3, [], .pointer b_)] ?_
   refine Zm 50 #[.pointer b_] (some 4) (Calls.mono h ?_)
   rintro _ w1 ⟨rfl, h⟩
   refine ⟨_, rfl, ?_⟩
   refine Ze [(0, .pointer b_)] ?_
   change WpE _ _ c14_6 _ _ _
   refine Zt r14_7 c14_9 ?_
   refine Zn P1 1 [(0, [], .pointer b_), (5, [], .pointer b_)] ?_
   refine Zm 51 #[.pointer b_] (some 6) (Calls.mono h ?_)
   rintro _ w2 ⟨rfl, h⟩
   refine ⟨_, rfl, ?_⟩
   refine Ze [(0, .pointer b_)] ?_
   change WpE _ _ c14_9 _ _ _
   refine Zt r14_10 c14_12 ?_
   refine Zn P1 1 [(0, [], .pointer b_), (7, [], .pointer b_)] ?_
   refine Zm 52 #[.pointer b_] (some 8) (Calls.mono h ?_)
   rintro _ w3 ⟨rfl, h⟩
   refine ⟨_, rfl, ?_⟩
   refine Ze [(0, .pointer b_)] ?_
   change WpE _ _ c14_12 _ _ _
   refine Zt r14_13 c14_15 ?_
   refine Zn P1 1 [(0, [], .pointer b_), (9, [], .pointer b_)] ?_
   refine Zm 53 #[.pointer b_] (some 10) (Calls.mono h ?_)
   rintro _ w4 ⟨rfl, h⟩
   refine ⟨_, rfl, ?_⟩
   refine Ze [(0, .pointer b_)] ?_
   change WpE _ _ c14_15 _ _ _
   refine Zt r14_16 c14_18 ?_
   refine Zn P1 1 [(0, [], .pointer b_), (11, [], .pointer b_)] ?_
   refine Zm 54 #[.pointer b_] (some 12) (Calls.mono h ?_)
   rintro _ w5 ⟨rfl, h⟩
   refine ⟨_, rfl, ?_⟩
   refine Ze [(0, .pointer b_)] ?_
   change WpE _ _ c14_18 _ _ _
   refine Zt r14_19 c14_21 ?_
   refine Zn P1 1 [(0, [], .pointer b_), (13, [], .pointer b_)] ?_
   refine Zm 55 #[.pointer b_] (some 14) (Calls.mono h ?_)
   rintro _ w6 ⟨rfl, h⟩
   refine ⟨_, rfl, ?_⟩
   refine Ze [(0, .pointer b_)] ?_
   change WpE _ _ c14_21 _ _ _
   refine Zt r14_22 c14_24 ?_
   refine Zn P1 1 [(0, [], .pointer b_), (15, [], .pointer b_)] ?_
   refine Zm 56 #[.pointer b_] (some 16) (Calls.mono h ?_)
   rintro _ w7 ⟨rfl, h⟩
   refine ⟨_, rfl, ?_⟩
   refine Ze [(0, .pointer b_)] ?_
   change WpE _ _ c14_24 _ _ _
   refine Zt r14_25 c14_27 ?_
   refine Zn P1 1 [(0, [], .pointer b_), (17, [], .pointer b_)] ?_
   refine Zm 57 #[.pointer b_] (some 18) (Calls.mono h ?_)
   rintro _ w8 ⟨rfl, h⟩
   refine ⟨_, rfl, ?_⟩
   refine Ze [(0, .pointer b_)] ?_
   change WpE _ _ c14_27 _ _ _
   refine Zt r14_28 c14_30 ?_
   refine Zn P1 1 [(0, [], .pointer b_), (19, [], .pointer b_)] ?_
   refine Zm 58 #[.pointer b_] (some 20) (Calls.mono h ?_)
   rintro _ w9 ⟨rfl, h⟩
   refine ⟨_, rfl, ?_⟩
   refine Ze [(0, .pointer b_)] ?_
   change WpE _ _ c14_30 _ _ _
   refine Zt r14_31 c14_33 ?_
   refine Zn P1 1 [(0, [], .pointer b_), (21, [], .pointer b_)] ?_
   refine Zm 59 #[.pointer b_] (some 22) (Calls.mono h ?_)
   rintro _ w10 ⟨rfl, h⟩
   refine ⟨_, rfl, ?_⟩
   refine Ze [(0, .pointer b_)] ?_
   change WpE _ _ c14_33 _ _ _
   refine Zt r14_34 c14_36 ?_
   refine Zn P1 1 [(0, [], .pointer b_), (23, [], .pointer b_)] ?_
   refine Zm 60 #[.pointer b_] (some 24) (Calls.mono h ?_)
   rintro _ w11 ⟨rfl, h⟩
   refine ⟨_, rfl, ?_⟩
   refine Ze [(0, .pointer b_)] ?_
   change WpE _ _ c14_36 _ _ _
   refine Zt r14_37 c14_39 ?_
   refine Zn P1 1 [(0, [], .pointer b_), (25, [], .pointer b_)] ?_
   refine Zm 61 #[.pointer b_] (some 26) (Calls.mono h ?_)
   rintro _ w12 ⟨rfl, h⟩
   refine ⟨_, rfl, ?_⟩
   refine Ze [(0, .pointer b_)] ?_
   change WpE _ _ c14_39 _ _ _
   refine Zt r14_40 c14_42 ?_
   refine Zn P1 1 [(0, [], .pointer b_), (27, [], .pointer b_)] ?_
   refine Zm 62 #[.pointer b_] (some 28) (Calls.mono h ?_)
   rintro _ w13 ⟨rfl, h⟩
   refine ⟨_, rfl, ?_⟩
   refine Ze [(0, .pointer b_)] ?_
   change WpE _ _ c14_42 _ _ _
   refine Zt r14_43 c14_45 ?_
   refine Zn P1 1 [(0, [], .pointer b_), (29, [], .pointer b_)] ?_
   refine Zm 63 #[.pointer b_] (some 30) (Calls.mono h ?_)
   rintro _ w14 ⟨rfl, h⟩
   refine ⟨_, rfl, ?_⟩
   refine Ze [(0, .pointer b_)] ?_
   change WpE _ _ c14_45 _ _ _
   refine Zt r14_46 c14_48 ?_
   refine Zn P1 1 [(0, [], .pointer b_), (31, [], .pointer b_)] ?_
   refine Zm 64 #[.pointer b_] (some 32) (Calls.mono h ?_)
   rintro _ w15 ⟨rfl, h⟩
   refine ⟨_, rfl, ?_⟩
   refine Ze [(0, .pointer b_)] ?_
   change WpE _ _ c14_48 _ _ _
   refine Zt r14_49 c14_51 ?_
   refine Zn P1 1 [(0, [], .pointer b_), (33, [], .pointer b_)] ?_
   refine Zm 65 #[.pointer b_] (some 34) (Calls.mono h ?_)
   rintro _ w16 ⟨rfl, h⟩
   refine ⟨_, rfl, ?_⟩
   refine Ze [(0, .pointer b_)] ?_
   change WpE _ _ c14_51 _ _ _
   refine Zt r14_52 c14_54 ?_
   refine Zn P1 1 [(0, [], .pointer b_), (35, [], .pointer b_)] ?_
   refine Zm 66 #[.pointer b_] (some 36) (Calls.mono h ?_)
   rintro _ w17 ⟨rfl, h⟩
   refine ⟨_, rfl, ?_⟩
   refine Ze [(0, .pointer b_)] ?_
   change WpE _ _ c14_54 _ _ _
   refine Zt r14_55 c14_57 ?_
   refine Zn P1 1 [(0, [], .pointer b_), (37, [], .pointer b_)] ?_
   refine Zm 67 #[.pointer b_] (some 38) (Calls.mono h ?_)
   rintro _ w18 ⟨rfl, h⟩
   refine ⟨_, rfl, ?_⟩
   refine Ze [(0, .pointer b_)] ?_
   change WpE _ _ c14_57 _ _ _
   refine Zt r14_58 c14_60 ?_
   refine Zn P1 1 [(0, [], .pointer b_), (39, [], .pointer b_)] ?_
   refine Zm 68 #[.pointer b_] (some 40) (Calls.mono h ?_)
   rintro _ w19 ⟨rfl, h⟩
   refine ⟨_, rfl, ?_⟩
   refine Ze [(0, .pointer b_)] ?_
   change WpE _ _ c14_60 _ _ _
   refine Zt r14_61 c14_63 ?_
   refine Zn P1 1 [(0, [], .pointer b_), (41, [], .pointer b_)] ?_
   refine Zm 69 #[.pointer b_] (some 42) (Calls.mono h ?_)
   rintro _ w20 ⟨rfl, h⟩
   refine ⟨_, rfl, ?_⟩
   refine Ze [(0, .pointer b_)] ?_
   change WpE _ _ c14_63 _ _ _
   refine Zt r14_64 c14_66 ?_
   refine Zn P1 1 [(0, [], .pointer b_), (43, [], .pointer b_)] ?_
   refine Zm 70 #[.pointer b_] (some 44) (Calls.mono h ?_)
   rintro _ w21 ⟨rfl, h⟩
   refine ⟨_, rfl, ?_⟩
   refine Ze [(0, .pointer b_)] ?_
   change WpE _ _ c14_66 _ _ _
   refine Zt r14_67 c14_69 ?_
   refine Zn P1 1 [(0, [], .pointer b_), (45, [], .pointer b_)] ?_
   refine Zm 71 #[.pointer b_] (some 46) (Calls.mono h ?_)
   rintro _ w22 ⟨rfl, h⟩
   refine ⟨_, rfl, ?_⟩
   refine Ze [(0, .pointer b_)] ?_
   change WpE _ _ c14_69 _ _ _
   refine Zt r14_70 c14_72 ?_
   refine Zn P1 1 [(0, [], .pointer b_), (47, [], .pointer b_)] ?_
   refine Zm 72 #[.pointer b_] (some 48) (Calls.mono h ?_)
   rintro _ w23 ⟨v48, rfl, h⟩
   refine ⟨_, rfl, ?_⟩
   refine Zn P2 4 [(0, [], .pointer b_), (49, [], .bool v48), (50, [(49, true)], .pointer b_)] ?_
   refine reg_split 49 v48 (by kernel_rfl) (fun hb => ?_) (fun hb => ?_)
   · replace h := h.1 hb
     refine Zn [] 4 [(0, [], .pointer b_), (49, [], .bool true), (50, [], .pointer b_)] ?_
     refine Zn [] 4 [(0, [], .pointer b_), (49, [], .bool true), (50, [], .pointer b_)] ?_
     refine Zm 73 #[.pointer b_] (some 51) (Calls.mono h ?_)
     rintro _ w24 ⟨v51, rfl, h⟩
     refine ⟨_, rfl, ?_⟩
     refine Zn P3 8 [(0, [], .pointer b_), (53, [], .bool v51), (54, [(53, true)], .pointer b_)] ?_
     refine reg_split 53 v51 (by kernel_rfl) (fun hb => ?_) (fun hb => ?_)
     · replace h := h.1 hb
       refine Zn [] 8 [(0, [], .pointer b_), (53, [], .bool true), (54, [], .pointer b_)] ?_
       refine Zn [] 8 [(0, [], .pointer b_), (53, [], .bool true), (54, [], .pointer b_)] ?_
       refine Zm 74 #[.pointer b_] (some 55) (Calls.mono h ?_)
       rintro _ w25 ⟨v55, rfl, h⟩
       refine ⟨_, rfl, ?_⟩
       refine Zn P3 12 [(0, [], .pointer b_), (57, [], .bool v55), (58, [(57, true)], .pointer b_)] ?_
       refine reg_split 57 v55 (by kernel_rfl) (fun hb => ?_) (fun hb => ?_)
       · replace h := h.1 hb
         refine Zn [] 12 [(0, [], .pointer b_), (57, [], .bool true), (58, [], .pointer b_)] ?_
         refine Zn [] 12 [(0, [], .pointer b_), (57, [], .bool true), (58, [], .pointer b_)] ?_
         refine Zm 75 #[.pointer b_] (some 59) (Calls.mono h ?_)
         rintro _ w26 ⟨v59, rfl, h⟩
         refine ⟨_, rfl, ?_⟩
         refine Zn P3 16 [(0, [], .pointer b_), (61, [], .bool v59), (62, [(61, true)], .pointer b_)] ?_
         refine reg_split 61 v59 (by kernel_rfl) (fun hb => ?_) (fun hb => ?_)
         · replace h := h.1 hb
           refine Zn [] 16 [(0, [], .pointer b_), (61, [], .bool true), (62, [], .pointer b_)] ?_
           refine Zn [] 16 [(0, [], .pointer b_), (61, [], .bool true), (62, [], .pointer b_)] ?_
           refine Zm 76 #[.pointer b_] (some 63) (Calls.mono h ?_)
           rintro _ w27 ⟨v63, rfl, h⟩
           refine ⟨_, rfl, ?_⟩
           refine Zn P3 20 [(0, [], .pointer b_), (65, [], .bool v63), (66, [(65, true)], .pointer b_)] ?_
           refine reg_split 65 v63 (by kernel_rfl) (fun hb => ?_) (fun hb => ?_)
           · replace h := h.1 hb
             refine Zn [] 20 [(0, [], .pointer b_), (65, [], .bool true), (66, [], .pointer b_)] ?_
             refine Zn [] 20 [(0, [], .pointer b_), (65, [], .bool true), (66, [], .pointer b_)] ?_
             refine Zm 77 #[.pointer b_] (some 67) (Calls.mono h ?_)
             rintro _ w28 ⟨v67, rfl, h⟩
             refine ⟨_, rfl, ?_⟩
             refine Zn P3 24 [(0, [], .pointer b_), (69, [], .bool v67), (70, [(69, true)], .pointer b_)] ?_
             refine reg_split 69 v67 (by kernel_rfl) (fun hb => ?_) (fun hb => ?_)
             · replace h := h.1 hb
               refine Zn [] 24 [(0, [], .pointer b_), (69, [], .bool true), (70, [], .pointer b_)] ?_
               refine Zn [] 24 [(0, [], .pointer b_), (69, [], .bool true), (70, [], .pointer b_)] ?_
               refine Zm 78 #[.pointer b_] (some 71) (Calls.mono h ?_)
               rintro _ w29 ⟨v71, rfl, h⟩
               refine ⟨_, rfl, ?_⟩
               refine Zn P3 28 [(0, [], .pointer b_), (73, [], .bool v71), (74, [(73, true)], .pointer b_)] ?_
               refine reg_split 73 v71 (by kernel_rfl) (fun hb => ?_) (fun hb => ?_)
               · replace h := h.1 hb
                 refine Zn [] 28 [(0, [], .pointer b_), (73, [], .bool true), (74, [], .pointer b_)] ?_
                 refine Zn [] 28 [(0, [], .pointer b_), (73, [], .bool true), (74, [], .pointer b_)] ?_
                 refine Zm 79 #[.pointer b_] (some 75) (Calls.mono h ?_)
                 rintro _ w30 ⟨v75, rfl, h⟩
                 refine ⟨_, rfl, ?_⟩
                 refine Zn P3 32 [(0, [], .pointer b_), (77, [], .bool v75), (78, [(77, true)], .pointer b_)] ?_
                 refine reg_split 77 v75 (by kernel_rfl) (fun hb => ?_) (fun hb => ?_)
                 · replace h := h.1 hb
                   refine Zn [] 32 [(0, [], .pointer b_), (77, [], .bool true), (78, [], .pointer b_)] ?_
                   refine Zn [] 32 [(0, [], .pointer b_), (77, [], .bool true), (78, [], .pointer b_)] ?_
                   refine Zm 80 #[.pointer b_] (some 79) (Calls.mono h ?_)
                   rintro _ w31 ⟨v79, rfl, h⟩
                   refine ⟨_, rfl, ?_⟩
                   refine Zn P3 36 [(0, [], .pointer b_), (81, [], .bool v79), (82, [(81, true)], .pointer b_)] ?_
                   refine reg_split 81 v79 (by kernel_rfl) (fun hb => ?_) (fun hb => ?_)
                   · replace h := h.1 hb
                     refine Zn [] 36 [(0, [], .pointer b_), (81, [], .bool true), (82, [], .pointer b_)] ?_
                     refine Zn [] 36 [(0, [], .pointer b_), (81, [], .bool true), (82, [], .pointer b_)] ?_
                     refine Zm 81 #[.pointer b_] (some 83) (Calls.mono h ?_)
                     rintro _ w32 ⟨v83, rfl, h⟩
                     refine ⟨_, rfl, ?_⟩
                     refine Zn P3 40 [(85, [], .bool v83), (86, [(85, true)], .pointer b_)] ?_
                     refine reg_split 85 v83 (by kernel_rfl) (fun hb => ?_) (fun hb => ?_)
                     · replace h := h.1 hb
                       refine Zn [] 40 [(85, [], .bool true), (86, [], .pointer b_)] ?_
                       refine Zn [] 40 [(85, [], .bool true), (86, [], .pointer b_)] ?_
                       refine Zm 82 #[.pointer b_] (some 87) (Calls.mono h ?_)
                       rintro _ w33 ⟨v87, rfl, h⟩
                       refine ⟨_, rfl, ?_⟩
                       refine Zf P2 [(2, .bool v87)] ?_
                       change WpE _ _ c14_72 _ _ _
                       refine wpE_ret (by kernel_rfl) ?_
                       repeat (first | refine seqQ_ret ?_ | refine blockQ_ret ?_ | refine loopQ_ret ?_ | refine cutQ_ret ?_)
                       exact retS (rs := [(ResultVar.tmp 2)]) (v := Value.bool v87) (by kernel_rfl) (⟨by kernel_rfl, trivial⟩) ⟨v87, rfl, h⟩
                     · replace h := h.2 hb
                       refine Zn [] 40 [(85, [], .bool false), (86, [], undef)] ?_
                       refine Zf [.skip, .plain, .plain] [(2, .bool false)] ?_
                       change WpE _ _ c14_72 _ _ _
                       refine wpE_ret (by kernel_rfl) ?_
                       repeat (first | refine seqQ_ret ?_ | refine blockQ_ret ?_ | refine loopQ_ret ?_ | refine cutQ_ret ?_)
                       exact retS (rs := [(ResultVar.tmp 2)]) (v := Value.bool false) (by kernel_rfl) (⟨by kernel_rfl, trivial⟩) ⟨false, rfl, h⟩
                   · replace h := h.2 hb
                     refine Zn [] 36 [(0, [], .pointer b_), (81, [], .bool false), (82, [], undef)] ?_
                     refine Zf [.skip, .plain, .plain, .skip, .skip, .plain, .plain] [(2, .bool false)] ?_
                     change WpE _ _ c14_72 _ _ _
                     refine wpE_ret (by kernel_rfl) ?_
                     repeat (first | refine seqQ_ret ?_ | refine blockQ_ret ?_ | refine loopQ_ret ?_ | refine cutQ_ret ?_)
                     exact retS (rs := [(ResultVar.tmp 2)]) (v := Value.bool false) (by kernel_rfl) (⟨by kernel_rfl, trivial⟩) ⟨false, rfl, h⟩
                 · replace h := h.2 hb
                   refine Zn [] 32 [(0, [], .pointer b_), (77, [], .bool false), (78, [], undef)] ?_
                   refine Zf [.skip, .plain, .plain, .skip, .skip, .plain, .plain, .skip, .skip, .plain, .plain] [(2, .bool false)] ?_
                   change WpE _ _ c14_72 _ _ _
                   refine wpE_ret (by kernel_rfl) ?_
                   repeat (first | refine seqQ_ret ?_ | refine blockQ_ret ?_ | refine loopQ_ret ?_ | refine cutQ_ret ?_)
                   exact retS (rs := [(ResultVar.tmp 2)]) (v := Value.bool false) (by kernel_rfl) (⟨by kernel_rfl, trivial⟩) ⟨false, rfl, h⟩
               · replace h := h.2 hb
                 refine Zn [] 28 [(0, [], .pointer b_), (73, [], .bool false), (74, [], undef)] ?_
                 refine Zf [.skip, .plain, .plain, .skip, .skip, .plain, .plain, .skip, .skip, .plain, .plain, .skip, .skip, .plain, .plain] [(2, .bool false)] ?_
                 change WpE _ _ c14_72 _ _ _
                 refine wpE_ret (by kernel_rfl) ?_
                 repeat (first | refine seqQ_ret ?_ | refine blockQ_ret ?_ | refine loopQ_ret ?_ | refine cutQ_ret ?_)
                 exact retS (rs := [(ResultVar.tmp 2)]) (v := Value.bool false) (by kernel_rfl) (⟨by kernel_rfl, trivial⟩) ⟨false, rfl, h⟩
             · replace h := h.2 hb
               refine Zn [] 24 [(0, [], .pointer b_), (69, [], .bool false), (70, [], undef)] ?_
               refine Zf [.skip, .plain, .plain, .skip, .skip, .plain, .plain, .skip, .skip, .plain, .plain, .skip, .skip, .plain, .plain, .skip, .skip, .plain, .plain] [(2, .bool false)] ?_
               change WpE _ _ c14_72 _ _ _
               refine wpE_ret (by kernel_rfl) ?_
               repeat (first | refine seqQ_ret ?_ | refine blockQ_ret ?_ | refine loopQ_ret ?_ | refine cutQ_ret ?_)
               exact retS (rs := [(ResultVar.tmp 2)]) (v := Value.bool false) (by kernel_rfl) (⟨by kernel_rfl, trivial⟩) ⟨false, rfl, h⟩
           · replace h := h.2 hb
             refine Zn [] 20 [(0, [], .pointer b_), (65, [], .bool false), (66, [], undef)] ?_
             refine Zf [.skip, .plain, .plain, .skip, .skip, .plain, .plain, .skip, .skip, .plain, .plain, .skip, .skip, .plain, .plain, .skip, .skip, .plain, .plain, .skip, .skip, .plain, .plain] [(2, .bool false)] ?_
             change WpE _ _ c14_72 _ _ _
             refine wpE_ret (by kernel_rfl) ?_
             repeat (first | refine seqQ_ret ?_ | refine blockQ_ret ?_ | refine loopQ_ret ?_ | refine cutQ_ret ?_)
             exact retS (rs := [(ResultVar.tmp 2)]) (v := Value.bool false) (by kernel_rfl) (⟨by kernel_rfl, trivial⟩) ⟨false, rfl, h⟩
         · replace h := h.2 hb
           refine Zn [] 16 [(0, [], .pointer b_), (61, [], .bool false), (62, [], undef)] ?_
           refine Zf [.skip, .plain, .plain, .skip, .skip, .plain, .plain, .skip, .skip, .plain, .plain, .skip, .skip, .plain, .plain, .skip, .skip, .plain, .plain, .skip, .skip, .plain, .plain, .skip, .skip, .plain, .plain] [(2, .bool false)] ?_
           change WpE _ _ c14_72 _ _ _
           refine wpE_ret (by kernel_rfl) ?_
           repeat (first | refine seqQ_ret ?_ | refine blockQ_ret ?_ | refine loopQ_ret ?_ | refine cutQ_ret ?_)
           exact retS (rs := [(ResultVar.tmp 2)]) (v := Value.bool false) (by kernel_rfl) (⟨by kernel_rfl, trivial⟩) ⟨false, rfl, h⟩
       · replace h := h.2 hb
         refine Zn [] 12 [(0, [], .pointer b_), (57, [], .bool false), (58, [], undef)] ?_
         refine Zf [.skip, .plain, .plain, .skip, .skip, .plain, .plain, .skip, .skip, .plain, .plain, .skip, .skip, .plain, .plain, .skip, .skip, .plain, .plain, .skip, .skip, .plain, .plain, .skip, .skip, .plain, .plain, .skip, .skip, .plain, .plain] [(2, .bool false)] ?_
         change WpE _ _ c14_72 _ _ _
         refine wpE_ret (by kernel_rfl) ?_
         repeat (first | refine seqQ_ret ?_ | refine blockQ_ret ?_ | refine loopQ_ret ?_ | refine cutQ_ret ?_)
         exact retS (rs := [(ResultVar.tmp 2)]) (v := Value.bool false) (by kernel_rfl) (⟨by kernel_rfl, trivial⟩) ⟨false, rfl, h⟩
     · replace h := h.2 hb
       refine Zn [] 8 [(0, [], .pointer b_), (53, [], .bool false), (54, [], undef)] ?_
       refine Zf [.skip, .plain, .plain, .skip, .skip, .plain, .plain, .skip, .skip, .plain, .plain, .skip, .skip, .plain, .plain, .skip, .skip, .plain, .plain, .skip, .skip, .plain, .plain, .skip, .skip, .plain, .plain, .skip, .skip, .plain, .plain, .skip, .skip, .plain, .plain] [(2, .bool false)] ?_
       change WpE _ _ c14_72 _ _ _
       refine wpE_ret (by kernel_rfl) ?_
       repeat (first | refine seqQ_ret ?_ | refine blockQ_ret ?_ | refine loopQ_ret ?_ | refine cutQ_ret ?_)
       exact retS (rs := [(ResultVar.tmp 2)]) (v := Value.bool false) (by kernel_rfl) (⟨by kernel_rfl, trivial⟩) ⟨false, rfl, h⟩
   · replace h := h.2 hb
     refine Zn [] 4 [(0, [], .pointer b_), (49, [], .bool false), (50, [], undef)] ?_
     refine Zf [.skip, .plain, .plain, .skip, .skip, .plain, .plain, .skip, .skip, .plain, .plain, .skip, .skip, .plain, .plain, .skip, .skip, .plain, .plain, .skip, .skip, .plain, .plain, .skip, .skip, .plain, .plain, .skip, .skip, .plain, .plain, .skip, .skip, .plain, .plain, .skip, .skip, .plain, .plain] [(2, .bool false)] ?_
     change WpE _ _ c14_72 _ _ _
     refine wpE_ret (by kernel_rfl) ?_
     repeat (first | refine seqQ_ret ?_ | refine blockQ_ret ?_ | refine loopQ_ret ?_ | refine cutQ_ret ?_)
     exact retS (rs := [(ResultVar.tmp 2)]) (v := Value.bool false) (by kernel_rfl) (⟨by kernel_rfl, trivial⟩) ⟨false, rfl, h⟩
 · rintro e w' ⟨v, rfl, r0, rfl, h⟩; exact ⟨r0, rfl, h⟩

/-! ### towpath/towpathlaw01.SameTxn (function 17) -/
def c17_0 := cb_ Tryz.f17
def c17_1 := cl_ c17_0
def r17_1 := co_ c17_1
def c17_3 := cr_ c17_0
def c17_4 := cl_ c17_3
def r17_4 := co_ c17_4
def c17_6 := cr_ c17_3

theorem S_towpathlaw01_SameTxn {a_ : T_api_Txn} {b_ : T_api_Txn} {w : World} {R : Bool → World → Prop} (h : F_towpathlaw01_SameTxn a_ b_ R w) : C_towpathlaw01_SameTxn a_ b_ w R := by
 unfold F_towpathlaw01_SameTxn at h
 unfold C_towpathlaw01_SameTxn
 refine Calls.mono (calls_of_wpE (args := [Value.agg #[Value.int .i64 a_.Number, sv_ a_.Writes], Value.agg #[Value.int .i64 b_.Number, sv_ b_.Writes]]) (R := fun v w' => ∃ (r0 : Bool), v = Value.bool r0 ∧ R r0 w') Tryz.func17 (c := c17_0) (by kernel_rfl) 17 (by kernel_rfl) (by kernel_rfl) [(0, Value.agg #[Value.int .i64 a_.Number, sv_ a_.Writes]), (1, Value.agg #[Value.int .i64 b_.Number, sv_ b_.Writes])] (by kernel_rfl) ?_) ?_
 · refine Zt r17_1 c17_3 ?_
   refine Zn [] 0 [(0, [], .agg #[.int .i64 a_.Number, sv_ a_.Writes]), (1, [], .agg #[.int .i64 b_.Number, sv_ b_.Writes])] ?_
   refine Zw (some 2) (fun bb => pv_ bb) (Obj.cells ([.int .i64 a_.Number, sv_ a_.Writes]).toArray ty_api_Txn (0, 0)) (fun b_1 w1 hb hw => ?_)
   replace h := h b_1 w1 hb hw
   clear hb hw
   refine Zn [] 1 [(1, [], .agg #[.int .i64 b_.Number, sv_ b_.Writes]), (2, [], pv_ b_1)] ?_
   refine Zw (some 3) (fun bb => pv_ bb) (Obj.cells ([.int .i64 b_.Number, sv_ b_.Writes]).toArray ty_api_Txn (0, 0)) (fun b_2 w2 hb hw => ?_)
   replace h := h b_2 w2 hb hw
   clear hb hw
   refine Zf P1 [(2, pv_ b_1), (3, pv_ b_2)] ?_
   change WpE _ _ c17_3 _ _ _
   refine Zt r17_4 c17_6 ?_
   refine Zn P1 1 [(2, [], pv_ b_1), (3, [], pv_ b_2), (5, [], pv_ b_1)] ?_
   obtain ⟨v6, hc, h⟩ := h
   refine Zl 3 5 b_1 0 3 6 hc ?_
   refine Zn P1 3 [(2, [], pv_ b_1), (3, [], pv_ b_2), (6, [], .int .i64 v6), (7, [], pv_ b_2)] ?_
   obtain ⟨v8, hc, h⟩ := h
   refine Zl 3 7 b_2 0 3 8 hc ?_
   refine Zn P3 7 [(3, [], pv_ b_2), (10, [], .bool (v6 == v8)), (11, [(10, true)], .pointer (some ⟨b_1, 1, none⟩))] ?_
   refine reg_split 10 (v6 == v8) (by kernel_rfl) (fun hb => ?_) (fun hb => ?_)
   · replace h := h.1 hb
     refine Zn [] 7 [(3, [], pv_ b_2), (10, [], .bool true), (11, [], .pointer (some ⟨b_1, 1, none⟩))] ?_
     refine Zn [] 7 [(3, [], pv_ b_2), (10, [], .bool true), (11, [], .pointer (some ⟨b_1, 1, none⟩))] ?_
     obtain ⟨v12, hc, h⟩ := h
     refine Zl 50 11 b_1 1 50 12 hc ?_
     refine Zn [.sure] 9 [(10, [], .bool true), (12, [], sv_ v12), (13, [], .pointer (some ⟨b_2, 1, none⟩))] ?_
     obtain ⟨v14, hc, h⟩ := h
     refine Zl 50 13 b_2 1 50 14 hc ?_
     refine Zn [] 10 [(10, [], .bool true), (12, [], sv_ v12), (14, [], sv_ v14)] ?_
     refine Zm 83 #[sv_ v12, sv_ v14] (some 15) (Calls.mono h ?_)
     rintro _ w3 ⟨v15, rfl, h⟩
     refine ⟨_, rfl, ?_⟩
     refine Zf P2 [(4, .bool v15)] ?_
     change WpE _ _ c17_6 _ _ _
     refine wpE_ret (by kernel_rfl) ?_
     repeat (first | refine seqQ_ret ?_ | refine blockQ_ret ?_ | refine loopQ_ret ?_ | refine cutQ_ret ?_)
     exact retS (rs := [(ResultVar.tmp 4)]) (v := Value.bool v15) (by kernel_rfl) (⟨by kernel_rfl, trivial⟩) ⟨v15, rfl, h⟩
   · replace h := h.2 hb
     refine Zn [] 7 [(3, [], pv_ b_2), (10, [], .bool false), (11, [], undef)] ?_
     refine Zf [.skip, .skip, .skip, .skip, .plain, .plain] [(4, .bool false)] ?_
     change WpE _ _ c17_6 _ _ _
     refine wpE_ret (by kernel_rfl) ?_
     repeat (first | refine seqQ_ret ?_ | refine blockQ_ret ?_ | refine loopQ_ret ?_ | refine cutQ_ret ?_)
     exact retS (rs := [(ResultVar.tmp 4)]) (v := Value.bool false) (by kernel_rfl) (⟨by kernel_rfl, trivial⟩) ⟨false, rfl, h⟩
 · rintro e w' ⟨v, rfl, r0, rfl, h⟩; exact ⟨r0, rfl, h⟩

/-! ### (*towpath/towpathlaw01.Book).Txn (function 20) -/
def c20_0 := cb_ Tryz.f20
def c20_1 := cl_ c20_0
def r20_1 := co_ c20_1
def c20_3 := cr_ c20_0
def r20_3 := co_ c20_3

theorem S_towpathlaw01_Book_Txn {b_ : Option Addr} {t_ : T_api_Txn} {w : World} {R : World → Prop} (h : F_towpathlaw01_Book_Txn b_ t_ R w) : C_towpathlaw01_Book_Txn b_ t_ w R := by
 unfold F_towpathlaw01_Book_Txn at h
 unfold C_towpathlaw01_Book_Txn
 refine Calls.mono (calls_of_wpE (args := [Value.pointer b_, Value.agg #[Value.int .i64 t_.Number, sv_ t_.Writes]]) (R := fun v w' => v = Value.tuple #[] ∧ R w') Tryz.func20 (c := c20_0) (by kernel_rfl) 8 (by kernel_rfl) (by kernel_rfl) [(0, Value.pointer b_), (1, Value.agg #[Value.int .i64 t_.Number, sv_ t_.Writes])] (by kernel_rfl) ?_) ?_
 · refine Zt r20_1 c20_3 ?_
   refine Zn [] 0 [(0, [], .pointer b_), (1, [], .agg #[.int .i64 t_.Number, sv_ t_.Writes])] ?_
   refine Zw (some 3) (fun bb => pv_ bb) (Obj.cells ([.int .i64 t_.Number, sv_ t_.Writes]).toArray ty_api_Txn (0, 0)) (fun b_1 w1 hb hw => ?_)
   replace h := h b_1 w1 hb hw
   clear hb hw
   refine Ze [(0, .pointer b_), (3, pv_ b_1)] ?_
   change WpE _ _ c20_3 _ _ _
   refine Zr r20_3 ?_
   refine Zn P2 2 [(4, [], .pointer b_), (5, [], .pointer (some ⟨b_1, 1, none⟩))] ?_
   obtain ⟨v6, hc, h⟩ := h
   refine Zl 50 5 b_1 1 50 6 hc ?_
   refine Zn [] 3 [(4, [], .pointer b_), (6, [], sv_ v6)] ?_
   refine Zm 84 #[.pointer b_, sv_ v6] (some 7) (Calls.mono h ?_)
   rintro _ w2 ⟨rfl, h⟩
   refine ⟨_, rfl, ?_⟩
   refine Ze [] ?_
   repeat (first | refine seqQ_exit ?_ | refine loopQ_exit ?_ | refine cutQ_exit ?_ | refine blockQ_hit ?_ | refine blockQ_miss (by kernel_rfl) ?_)
   refine retQ_normal ?_
   repeat (first | refine seqQ_ret ?_ | refine blockQ_ret ?_ | refine loopQ_ret ?_ | refine cutQ_ret ?_)
   exact retT (rs := []) (vs := []) (by kernel_rfl) (trivial) (by kernel_rfl) ⟨rfl, h⟩
 · rintro e w' ⟨v, rfl, rfl, h⟩; exact ⟨rfl, h⟩

/-! ### (*towpath/towpathlaw01.Book).Bytes (function 37) -/
def c37_0 := cb_ Tryz.f37
def r37_0 := co_ c37_0

theorem S_towpathlaw01_Book_Bytes {b_ : Option Addr} {l_ : Slc} {w : World} {R : World → Prop} (h : F_towpathlaw01_Book_Bytes b_ l_ R w) : C_towpathlaw01_Book_Bytes b_ l_ w R := by
 unfold F_towpathlaw01_Book_Bytes at h
 unfold C_towpathlaw01_Book_Bytes
 refine Calls.mono (calls_of_wpE (args := [Value.pointer b_, sv_ l_]) (R := fun v w' => v = Value.tuple #[] ∧ R w') Tryz.func37 (c := c37_0) (by kernel_rfl) 7 (by kernel_rfl) (by kernel_rfl) [(0, Value.pointer b_), (1, sv_ l_)] (by kernel_rfl) ?_) ?_
 · refine Zr r37_0 ?_
   refine Zn P2 2 [(4, [], .pointer b_), (5, [], sv_ l_)] ?_
   refine Zm 114 #[.pointer b_, sv_ l_] (some 6) (Calls.mono h ?_)
   rintro _ w1 ⟨rfl, h⟩
   refine ⟨_, rfl, ?_⟩
   refine Ze [] ?_
   repeat (first | refine seqQ_exit ?_ | refine loopQ_exit ?_ | refine cutQ_exit ?_ | refine blockQ_hit ?_ | refine blockQ_miss (by kernel_rfl) ?_)
   refine retQ_normal ?_
   repeat (first | refine seqQ_ret ?_ | refine blockQ_ret ?_ | refine loopQ_ret ?_ | refine cutQ_ret ?_)
   exact retT (rs := []) (vs := []) (by kernel_rfl) (trivial) (by kernel_rfl) ⟨rfl, h⟩
 · rintro e w' ⟨v, rfl, rfl, h⟩; exact ⟨rfl, h⟩

/-! ### towpath/towpathlaw01.TwinBytes (function 38) -/
def c38_0 := cb_ Tryz.f38
def c38_3 := cr_ c38_0
def c38_4 := cl_ c38_3
def r38_4 := co_ c38_4
def c38_6 := cr_ c38_3
def c38_7 := cl_ c38_6
def c38_10 := cr_ c38_7
def c38_11 := cl_ c38_10
def c38_12 := cl_ c38_11
def c38_13 := cl_ c38_12
def c38_16 := cr_ c38_13
def c38_17 := cl_ c38_16
def c38_18 := cr_ c38_16
def c38_19 := cr_ c38_12
def c38_20 := cl_ c38_19
def c38_21 := cl_ c38_20
def r38_21 := co_ c38_21
def c38_23 := cr_ c38_19
def r38_23 := co_ c38_23
def c38_25 := cr_ c38_6
def c38_26 := cl_ c38_25
def r38_26 := co_ c38_26
def c38_28 := cr_ c38_25

theorem S_towpathlaw01_TwinBytes {l_ : Slc} {w : World} {R : Slc → World → Prop} (h : F_towpathlaw01_TwinBytes l_ R w) : C_towpathlaw01_TwinBytes l_ w R := by
 unfold F_towpathlaw01_TwinBytes at h
 unfold C_towpathlaw01_TwinBytes
 refine Calls.mono (calls_of_wpE (args := [sv_ l_]) (R := fun v w' => ∃ (r0 : Slc), v = sv_ r0 ∧ R r0 w') Tryz.func38 (c := c38_0) (by kernel_rfl) 28 (by kernel_rfl) (by kernel_rfl) [(0, sv_ l_)] (by kernel_rfl) ?_) ?_
 · refine Zp c38_3 P1 [(0, sv_ l_)] ?_
   refine Zt r38_4 c38_6 ?_
   refine Zn P3 3 [(0, [], sv_ l_), (7, [], .int .i64 (IntKind.i64.wrap (((l_.len : Nat) : Int) + 1)))] ?_
   obtain ⟨h0, h1, h2, h⟩ := h
   refine reg_makeSlice (t := 79) (e := 5) (lo := (Operand.const (Value.int Go.IntKind.i64 0))) (co := (Operand.tmp 7)) (l := 0) (c := (IntKind.i64.wrap (((l_.len : Nat) : Int) + 1))) (sz := 1) (by_ := 1) (zs := [Value.int .u8 0]) (ty := 79) (dst := some 8) (by kernel_rfl) (by kernel_rfl) (by kernel_rfl) (by kernel_rfl) (by kernel_rfl) (by kernel_rfl) (by kernel_rfl) (by kernel_rfl) (by kernel_rfl) h0 h1 h2 (fun b_ w1 hb hw => ?_)
   replace h := h b_ w1 hb hw
   clear hb hw
   refine Zf P1 [(0, sv_ l_), (3, .slice (some ⟨b_, 0, none⟩) 0 ((IntKind.i64.wrap (((l_.len : Nat) : Int) + 1)).toNat))] ?_
   change WpE _ _ c38_6 _ _ _
   refine Zs c38_7 c38_25 ?_
   refine Zp c38_10 P1 [(0, sv_ l_), (3, .slice (some ⟨b_, 0, none⟩) 0 ((IntKind.i64.wrap (((l_.len : Nat) : Int) + 1)).toNat)), (4, .int .i64 0)] ?_
   refine Zb 0 c38_11 ?_
   obtain ⟨I, μ, h0, hr⟩ := h
   refine wpE_loop (x := c38_12) (by kernel_rfl) (fun m l w => ∃ (t_ : Slc) (i : Int), l = [(0, sv_ l_), (3, sv_ t_), (4, Value.int .i64 i)] ∧ I t_ i w ∧ μ t_ i w = m) (l' := [(0, sv_ l_), (3, Value.slice (some ⟨b_, 0, none⟩) 0 ((IntKind.i64.wrap (((l_.len : Nat) : Int) + 1)).toNat)), (4, Value.int .i64 0)]) (Sub.mk (by kernel_rfl)) ⟨(Slc.mk (some ⟨b_, 0, none⟩) 0 ((IntKind.i64.wrap (((l_.len : Nat) : Int) + 1)).toNat)), 0, rfl, h0, rfl⟩ ?_
   rintro _ _ w2 ⟨t_, i, rfl, hI, rfl⟩
   obtain ⟨again_, again__h, h⟩ : ∃ again_ : Slc → Int → World → Prop, (∀ t_' i' w', again_ t_' i' w' → I t_' i' w' ∧ μ t_' i' w' < μ t_ i w2) ∧ F_towpathlaw01_TwinBytes_L0 l_ R again_ t_ i w2 := ⟨_, fun _ _ _ h => h, hr t_ i w2 hI⟩
   clear h0 hI
   unfold F_towpathlaw01_TwinBytes_L0 at h
   refine Zs c38_13 c38_19 ?_
   refine Zp c38_16 P4 [(0, sv_ l_), (3, sv_ t_), (4, .int .i64 i), (12, .bool (decide (i < ((l_.len : Nat) : Int))))] ?_
   refine Zc 12 (decide (i < ((l_.len : Nat) : Int))) c38_17 c38_18 (fun hb => ?_) (fun hb => ?_)
   · replace h := h.1 hb
     refine wpE_skip (by kernel_rfl) ?_
     change WpE _ _ c38_19 _ _ _
     refine Zs c38_20 c38_23 ?_
     refine Zb 1 c38_21 ?_
     refine Zr r38_21 ?_
     refine Zn P3 3 [(0, [], sv_ l_), (3, [], sv_ t_), (4, [], .int .i64 i), (15, [], sv_ t_), (16, [], sv_ l_), (17, [], .int .i64 i)] ?_
     obtain ⟨hp_3, h⟩ := h
     refine Zv (fun pp => [(0, [], sv_ l_), (3, [], sv_ t_), (4, [], .int .i64 i), (15, [], sv_ t_), (16, [], .slice pp l_.len l_.cap), (17, [], .int .i64 i)]) hp_3 ?_
     obtain ⟨h0, h1, h⟩ := h
     refine Zi 79 5 16 17 (pblk l_.ptr) (poff l_.ptr) l_.len l_.cap i 18 0 h0 h1 ?_
     refine Zn [] 4 [(0, [], sv_ l_), (3, [], sv_ t_), (4, [], .int .i64 i), (15, [], sv_ t_), (18, [], .pointer (some ⟨(pblk l_.ptr), (poff l_.ptr) + i.toNat, none⟩))] ?_
     obtain ⟨v19, hc, h⟩ := h
     refine Zl 5 18 (pblk l_.ptr) ((poff l_.ptr) + i.toNat) 5 19 hc ?_
     refine Zn [] 5 [(0, [], sv_ l_), (3, [], sv_ t_), (4, [], .int .i64 i), (15, [], sv_ t_), (19, [], .int .u8 v19)] ?_
     refine Zw (some 20) (fun bb => .slice (some ⟨bb, 0, none⟩) 1 1) (Obj.cells ([.int .u8 v19]).toArray ty_uint8 (0, 0)) (fun b_1 w3 hb hw => ?_)
     replace h := h b_1 w3 hb hw
     clear hb hw
     refine Zn [] 6 [(0, [], sv_ l_), (3, [], sv_ t_), (4, [], .int .i64 i), (15, [], sv_ t_), (20, [], .slice (some ⟨b_1, 0, none⟩) 1 1)] ?_
     obtain ⟨src, hs, h⟩ := h
     refine reg_append (t := 79) (tx := 79) (e := 5) (a := (Operand.tmp 15)) (xo := (Operand.tmp 20)) (s := t_) (x := (Slc.mk (some ⟨b_1, 0, none⟩) 1 1)) (sz := 1) (by_ := 1) (zs := [Value.int .u8 0]) (ty := 79) (dst := some 21)  src (by kernel_rfl) (by kernel_rfl) (by kernel_rfl) (by kernel_rfl) (by kernel_rfl) (by kernel_rfl) (by kernel_rfl) (by kernel_rfl) (by kernel_rfl) hs (AppendW.mono h (fun t_1 w4 h => ?_))
     refine Zf P1 [(0, sv_ l_), (3, sv_ t_1), (4, .int .i64 i)] ?_
     change WpE _ _ c38_23 _ _ _
     refine Zr r38_23 ?_
     refine Zf P3 [(0, sv_ l_), (3, sv_ t_1), (4, .int .i64 (IntKind.i64.wrap (i + 1)))] ?_
     have hb_ := again__h _ _ _ h
     exact ⟨_, hb_.2, [(0, sv_ l_), (3, sv_ t_1), (4, Value.int .i64 (IntKind.i64.wrap (i + 1)))], Sub.mk (by kernel_rfl), t_1, (IntKind.i64.wrap (i + 1)), rfl, hb_.1, rfl⟩
   · replace h := h.2 hb
     refine wpE_exit (id := 0) (by kernel_rfl) ?_
     change WpE _ _ c38_25 _ _ _
     refine Zt r38_26 c38_28 ?_
     refine Zn P1 1 [(0, [], sv_ l_), (22, [], sv_ t_)] ?_
     refine Zw (some 23) (fun bb => .slice (some ⟨bb, 0, none⟩) 1 1) (Obj.cells ([.int .u8 77]).toArray ty_uint8 (0, 0)) (fun b_2 w5 hb hw => ?_)
     replace h := h b_2 w5 hb hw
     clear hb hw
     refine Zn [] 2 [(0, [], sv_ l_), (22, [], sv_ t_), (23, [], .slice (some ⟨b_2, 0, none⟩) 1 1)] ?_
     obtain ⟨src, hs, h⟩ := h
     refine reg_append (t := 79) (tx := 79) (e := 5) (a := (Operand.tmp 22)) (xo := (Operand.tmp 23)) (s := t_) (x := (Slc.mk (some ⟨b_2, 0, none⟩) 1 1)) (sz := 1) (by_ := 1) (zs := [Value.int .u8 0]) (ty := 79) (dst := some 24)  src (by kernel_rfl) (by kernel_rfl) (by kernel_rfl) (by kernel_rfl) (by kernel_rfl) (by kernel_rfl) (by kernel_rfl) (by kernel_rfl) (by kernel_rfl) hs (AppendW.mono h (fun v24 w6 h => ?_))
     refine Zn P2 5 [(24, [], sv_ v24), (26, [], .int .i64 ((l_.len : Nat) : Int))] ?_
     obtain ⟨h0, h1, h⟩ := h
     refine reg_sliceHi (t := 79) (e := 5) (x := (Operand.tmp 24)) (hi := (Operand.tmp 26)) (p := v24.ptr) (l := v24.len) (c := v24.cap) (sz := 1) (k := .i64) (j := ((l_.len : Nat) : Int)) (ty := 79) (dst := some 27) (by kernel_rfl) (by kernel_rfl) (by kernel_rfl) (by kernel_rfl) (by kernel_rfl) h0 h1 ?_
     refine Zf P1 [(2, .slice v24.ptr (((l_.len : Nat) : Int).toNat) v24.cap)] ?_
     change WpE _ _ c38_28 _ _ _
     refine wpE_ret (by kernel_rfl) ?_
     repeat (first | refine seqQ_ret ?_ | refine blockQ_ret ?_ | refine loopQ_ret ?_ | refine cutQ_ret ?_)
     exact retS (rs := [(ResultVar.tmp 2)]) (v := Value.slice v24.ptr (((l_.len : Nat) : Int).toNat) v24.cap) (by kernel_rfl) (⟨by kernel_rfl, trivial⟩) ⟨(Slc.mk v24.ptr (((l_.len : Nat) : Int).toNat) v24.cap), rfl, h⟩
 · rintro e w' ⟨v, rfl, r0, rfl, h⟩; exact ⟨r0, rfl, h⟩

/-! ### towpath/towpathlaw01.SameTxns (function 41) -/
def c41_0 := cb_ Tryz.f41
def c41_3 := cr_ c41_0
def c41_4 := cl_ c41_3
def c41_7 := cr_ c41_4
def c41_8 := cl_ c41_7
def c41_11 := cr_ c41_8
def c41_12 := cr_ c41_7
def c41_13 := cr_ c41_3
def c41_14 := cl_ c41_13
def c41_17 := cr_ c41_14
def c41_18 := cl_ c41_17
def c41_19 := cl_ c41_18
def c41_20 := cl_ c41_19
def c41_23 := cr_ c41_20
def c41_24 := cl_ c41_23
def c41_25 := cr_ c41_23
def c41_26 := cr_ c41_19
def c41_27 := cl_ c41_26
def c41_28 := cl_ c41_27
def c41_29 := cl_ c41_28
def r41_29 := co_ c41_29
def c41_31 := cr_ c41_28
def c41_32 := cl_ c41_31
def c41_35 := cr_ c41_32
def c41_36 := cr_ c41_31
def c41_37 := cr_ c41_26
def r41_37 := co_ c41_37
def c41_39 := cr_ c41_13
def c41_42 := cr_ c41_39

theorem S_towpathlaw01_SameTxns {a_ : Slc} {b_ : Slc} {w : World} {R : Bool → World → Prop} (h : F_towpathlaw01_SameTxns a_ b_ R w) : C_towpathlaw01_SameTxns a_ b_ w R := by
 unfold F_towpathlaw01_SameTxns at h
 unfold C_towpathlaw01_SameTxns
 refine Calls.mono (calls_of_wpE (args := [sv_ a_, sv_ b_]) (R := fun v w' => ∃ (r0 : Bool), v = Value.bool r0 ∧ R r0 w') Tryz.func41 (c := c41_0) (by kernel_rfl) 27 (by kernel_rfl) (by kernel_rfl) [(0, sv_ a_), (1, sv_ b_)] (by kernel_rfl) ?_) ?_
 · refine Zp c41_3 P1 [(0, sv_ a_), (1, sv_ b_)] ?_
   refine Zs c41_4 c41_13 ?_
   refine Zp c41_7 (Pl 5) [(0, sv_ a_), (1, sv_ b_), (10, .bool (((a_.len : Nat) : Int) != ((b_.len : Nat) : Int)))] ?_
   refine Zc 10 (((a_.len : Nat) : Int) != ((b_.len : Nat) : Int)) c41_8 c41_12 (fun hb => ?_) (fun hb => ?_)
   · replace h := h.1 hb
     refine Zp c41_11 P1 [(4, .bool false)] ?_
     refine wpE_ret (by kernel_rfl) ?_
     repeat (first | refine seqQ_ret ?_ | refine blockQ_ret ?_ | refine loopQ_ret ?_ | refine cutQ_ret ?_)
     exact retS (rs := [(ResultVar.tmp 4)]) (v := Value.bool false) (by kernel_rfl) (⟨by kernel_rfl, trivial⟩) ⟨false, rfl, h⟩
   · replace h := h.2 hb
     refine wpE_skip (by kernel_rfl) ?_
     change WpE _ _ c41_13 _ _ _
     refine Zs c41_14 c41_39 ?_
     refine Zp c41_17 P1 [(0, sv_ a_), (1, sv_ b_), (5, .int .i64 0)] ?_
     refine Zb 0 c41_18 ?_
     obtain ⟨I, μ, h0, hr⟩ := h
     refine wpE_loop (x := c41_19) (by kernel_rfl) (fun m l w => ∃ (i : Int), l = [(0, sv_ a_), (1, sv_ b_), (5, Value.int .i64 i)] ∧ I i w ∧ μ i w = m) (l' := [(0, sv_ a_), (1, sv_ b_), (5, Value.int .i64 0)]) (Sub.mk (by kernel_rfl)) ⟨0, rfl, h0, rfl⟩ ?_
     rintro _ _ w1 ⟨i, rfl, hI, rfl⟩
     obtain ⟨again_, again__h, h⟩ : ∃ again_ : Int → World → Prop, (∀ i' w', again_ i' w' → I i' w' ∧ μ i' w' < μ i w1) ∧ F_towpathlaw01_SameTxns_L0 a_ b_ R again_ i w1 := ⟨_, fun _ _ h => h, hr i w1 hI⟩
     clear h0 hI
     unfold F_towpathlaw01_SameTxns_L0 at h
     refine Zs c41_20 c41_26 ?_
     refine Zp c41_23 P4 [(0, sv_ a_), (1, sv_ b_), (5, .int .i64 i), (14, .bool (decide (i < ((a_.len : Nat) : Int))))] ?_
     refine Zc 14 (decide (i < ((a_.len : Nat) : Int))) c41_24 c41_25 (fun hb => ?_) (fun hb => ?_)
     · replace h := h.1 hb
       refine wpE_skip (by kernel_rfl) ?_
       change WpE _ _ c41_26 _ _ _
       refine Zs c41_27 c41_37 ?_
       refine Zb 1 c41_28 ?_
       refine Zs c41_29 c41_31 ?_
       refine wpE_drawregion (id := 6) (ops := r41_29) (by kernel_rfl) (by kernel_rfl) (by kernel_rfl) ?_
       refine qreg_run P2 2 [(0, [], sv_ a_), (1, [], sv_ b_), (5, [], Value.int .i64 i), (17, [], sv_ a_), (18, [], Value.int .i64 i)] (by kernel_rfl) (by kernel_rfl) ?_
       obtain ⟨hp_14, h⟩ := h
       refine qreg_conv [(0, [], sv_ a_), (1, [], sv_ b_), (5, [], Value.int .i64 i), (17, [], Value.slice (some ⟨(pblk a_.ptr), (poff a_.ptr), none⟩) a_.len a_.cap), (18, [], Value.int .i64 i)] (congrArg (fun pp => ([(0, [], sv_ a_), (1, [], sv_ b_), (5, [], Value.int .i64 i), (17, [], Value.slice pp a_.len a_.cap), (18, [], Value.int .i64 i)] : GEnv)) hp_14) ?_
       obtain ⟨h0, h1, h⟩ := h
       refine qreg_indexS (t := 22) (e := 52) (x := (Operand.tmp 17)) (ix := (Operand.tmp 18)) (b := (pblk a_.ptr)) (o := (poff a_.ptr)) (l := a_.len) (c := a_.cap) (k := .i64) (j := i) (ty := 0) (dst := some 19) (sz := 2) (by kernel_rfl) (by kernel_rfl) (by kernel_rfl) (by kernel_rfl) (by kernel_rfl) h0 h1 ?_
       refine qreg_run [] 3 [(0, [], sv_ a_), (1, [], sv_ b_), (5, [], Value.int .i64 i), (19, [], Value.pointer (some ⟨(pblk a_.ptr), (poff a_.ptr) + i.toNat * 2, none⟩))] (by kernel_rfl) (by kernel_rfl) ?_
       obtain ⟨v20, hc, h⟩ := h
       refine qreg_loadN (t := 52) (a := (Operand.tmp 19)) (b := (pblk a_.ptr)) (o := ((poff a_.ptr) + i.toNat * 2)) (ty := 52) (dst := some 20) [Value.int .i64 v20.Number, sv_ v20.Writes] (by kernel_rfl) (by kernel_rfl) (by kernel_rfl) (k := 2) (by kernel_rfl) (by kernel_rfl) hc ?_
       refine qreg_run P2 6 [(0, [], sv_ a_), (1, [], sv_ b_), (5, [], Value.int .i64 i), (20, [], Value.agg #[Value.int .i64 v20.Number, sv_ v20.Writes]), (21, [], sv_ b_), (22, [], Value.int .i64 i)] (by kernel_rfl) (by kernel_rfl) ?_
       obtain ⟨hp_15, h⟩ := h
       refine qreg_conv [(0, [], sv_ a_), (1, [], sv_ b_), (5, [], Value.int .i64 i), (20, [], Value.agg #[Value.int .i64 v20.Number, sv_ v20.Writes]), (21, [], Value.slice (some ⟨(pblk b_.ptr), (poff b_.ptr), none⟩) b_.len b_.cap), (22, [], Value.int .i64 i)] (congrArg (fun pp => ([(0, [], sv_ a_), (1, [], sv_ b_), (5, [], Value.int .i64 i), (20, [], Value.agg #[Value.int .i64 v20.Number, sv_ v20.Writes]), (21, [], Value.slice pp b_.len b_.cap), (22, [], Value.int .i64 i)] : GEnv)) hp_15) ?_
       obtain ⟨h0, h1, h⟩ := h
       refine qreg_indexS (t := 22) (e := 52) (x := (Operand.tmp 21)) (ix := (Operand.tmp 22)) (b := (pblk b_.ptr)) (o := (poff b_.ptr)) (l := b_.len) (c := b_.cap) (k := .i64) (j := i) (ty := 0) (dst := some 23) (sz := 2) (by kernel_rfl) (by kernel_rfl) (by kernel_rfl) (by kernel_rfl) (by kernel_rfl) h0 h1 ?_
       refine qreg_run [] 7 [(0, [], sv_ a_), (1, [], sv_ b_), (5, [], Value.int .i64 i), (20, [], Value.agg #[Value.int .i64 v20.Number, sv_ v20.Writes]), (23, [], Value.pointer (some ⟨(pblk b_.ptr), (poff b_.ptr) + i.toNat * 2, none⟩))] (by kernel_rfl) (by kernel_rfl) ?_
       obtain ⟨v24, hc, h⟩ := h
       refine qreg_loadN (t := 52) (a := (Operand.tmp 23)) (b := (pblk b_.ptr)) (o := ((poff b_.ptr) + i.toNat * 2)) (ty := 52) (dst := some 24) [Value.int .i64 v24.Number, sv_ v24.Writes] (by kernel_rfl) (by kernel_rfl) (by kernel_rfl) (k := 2) (by kernel_rfl) (by kernel_rfl) hc ?_
       refine qreg_run [] 8 [(0, [], sv_ a_), (1, [], sv_ b_), (5, [], Value.int .i64 i), (20, [], Value.agg #[Value.int .i64 v20.Number, sv_ v20.Writes]), (24, [], Value.agg #[Value.int .i64 v24.Number, sv_ v24.Writes])] (by kernel_rfl) (by kernel_rfl) ?_
       obtain ⟨v25, hq, h⟩ := h
       refine qreg_enter (op := (Op.call (Call.mk (Callee.value (Operand.func 17)) #[(Operand.tmp 20), (Operand.tmp 24)] #[52, 52]))) (ty := 4) (dst := some 25) 17 #[Value.agg #[Value.int .i64 v20.Number, sv_ v20.Writes], Value.agg #[Value.int .i64 v24.Number, sv_ v24.Writes]] (Value.bool v25) (by kernel_rfl) (fun ww => by kernel_rfl) (fun w' he => Calls.mono (hq w' he) (by rintro _ w'' ⟨_, rfl, rfl, hE⟩; exact ⟨rfl, hE⟩)) ?_
       clear hq
       refine qreg_run P1 10 [(0, [], sv_ a_), (1, [], sv_ b_), (5, [], Value.int .i64 i), (26, [], Value.bool (!v25))] (by kernel_rfl) (by kernel_rfl) ?_
       refine qreg_end [(0, sv_ a_), (1, sv_ b_), (5, Value.int .i64 i), (26, Value.bool (!v25))] (by kernel_rfl) (by kernel_rfl) (fun w3 hw => ?_)
       replace h := h w3 hw
       clear hw
       change WpE _ _ c41_31 _ _ _
       refine Zc 26 (!v25) c41_32 c41_36 (fun hb => ?_) (fun hb => ?_)
       · replace h := h.1 hb
         refine Zp c41_35 P1 [(4, .bool false)] ?_
         refine wpE_ret (by kernel_rfl) ?_
         repeat (first | refine seqQ_ret ?_ | refine blockQ_ret ?_ | refine loopQ_ret ?_ | refine cutQ_ret ?_)
         exact retS (rs := [(ResultVar.tmp 4)]) (v := Value.bool false) (by kernel_rfl) (⟨by kernel_rfl, trivial⟩) ⟨false, rfl, h⟩
       · replace h := h.2 hb
         refine wpE_skip (by kernel_rfl) ?_
         change WpE _ _ c41_37 _ _ _
         refine Zr r41_37 ?_
         refine Zf P3 [(0, sv_ a_), (1, sv_ b_), (5, .int .i64 (IntKind.i64.wrap (i + 1)))] ?_
         have hb_ := again__h _ _ h
         exact ⟨_, hb_.2, [(0, sv_ a_), (1, sv_ b_), (5, Value.int .i64 (IntKind.i64.wrap (i + 1)))], Sub.mk (by kernel_rfl), (IntKind.i64.wrap (i + 1)), rfl, hb_.1, rfl⟩
     · replace h := h.2 hb
       refine wpE_exit (id := 0) (by kernel_rfl) ?_
       change WpE _ _ c41_39 _ _ _
       refine Zp c41_42 P1 [(4, .bool true)] ?_
       refine wpE_ret (by kernel_rfl) ?_
       repeat (first | refine seqQ_ret ?_ | refine blockQ_ret ?_ | refine loopQ_ret ?_ | refine cutQ_ret ?_)
       exact retS (rs := [(ResultVar.tmp 4)]) (v := Value.bool true) (by kernel_rfl) (⟨by kernel_rfl, trivial⟩) ⟨true, rfl, h⟩
 · rintro e w' ⟨v, rfl, r0, rfl, h⟩; exact ⟨r0, rfl, h⟩

/-! ### towpath/towpathlaw01.LeftBytes (function 42) -/
def c42_0 := cb_ Tryz.f42
def c42_3 := cr_ c42_0
def c42_4 := cl_ c42_3
def c42_7 := cr_ c42_4
def c42_8 := cl_ c42_7
def c42_11 := cr_ c42_8
def c42_12 := cr_ c42_7
def c42_13 := cr_ c42_3
def c42_14 := cl_ c42_13
def c42_17 := cr_ c42_14
def c42_18 := cl_ c42_17
def c42_19 := cl_ c42_18
def c42_20 := cl_ c42_19
def c42_23 := cr_ c42_20
def c42_24 := cl_ c42_23
def c42_25 := cr_ c42_23
def c42_26 := cr_ c42_19
def c42_27 := cl_ c42_26
def c42_28 := cl_ c42_27
def c42_29 := cl_ c42_28
def r42_29 := co_ c42_29
def c42_31 := cr_ c42_28
def c42_32 := cl_ c42_31
def c42_35 := cr_ c42_32
def c42_36 := cr_ c42_31
def c42_37 := cr_ c42_26
def r42_37 := co_ c42_37
def c42_39 := cr_ c42_13
def c42_40 := cl_ c42_39
def r42_40 := co_ c42_40
def c42_42 := cr_ c42_39
def c42_45 := cr_ c42_42

theorem S_towpathlaw01_LeftBytes {t_ : Slc} {l_ : Slc} {w : World} {R : Bool → World → Prop} (h : F_towpathlaw01_LeftBytes t_ l_ R w) : C_towpathlaw01_LeftBytes t_ l_ w R := by
 unfold F_towpathlaw01_LeftBytes at h
 unfold C_towpathlaw01_LeftBytes
 refine Calls.mono (calls_of_wpE (args := [sv_ t_, sv_ l_]) (R := fun v w' => ∃ (r0 : Bool), v = Value.bool r0 ∧ R r0 w') Tryz.func42 (c := c42_0) (by kernel_rfl) 45 (by kernel_rfl) (by kernel_rfl) [(0, sv_ t_), (1, sv_ l_)] (by kernel_rfl) ?_) ?_
 · refine Zp c42_3 P1 [(0, sv_ t_), (1, sv_ l_)] ?_
   refine Zs c42_4 c42_13 ?_
   refine Zp c42_7 [.plain, .plain, .plain, .plain, .plain, .plain, .plain, .plain, .plain, .plain, .plain, .pick] [(0, sv_ t_), (1, sv_ l_), (18, .bool ((((t_.len : Nat) : Int) != ((l_.len : Nat) : Int)) || (decide (((t_.cap : Nat) : Int) ≤ ((l_.len : Nat) : Int)))))] ?_
   refine Zc 18 ((((t_.len : Nat) : Int) != ((l_.len : Nat) : Int)) || (decide (((t_.cap : Nat) : Int) ≤ ((l_.len : Nat) : Int)))) c42_8 c42_12 (fun hb => ?_) (fun hb => ?_)
   · replace h := h.1 hb
     refine Zp c42_11 P1 [(4, .bool false)] ?_
     refine wpE_ret (by kernel_rfl) ?_
     repeat (first | refine seqQ_ret ?_ | refine blockQ_ret ?_ | refine loopQ_ret ?_ | refine cutQ_ret ?_)
     exact retS (rs := [(ResultVar.tmp 4)]) (v := Value.bool false) (by kernel_rfl) (⟨by kernel_rfl, trivial⟩) ⟨false, rfl, h⟩
   · replace h := h.2 hb
     refine wpE_skip (by kernel_rfl) ?_
     change WpE _ _ c42_13 _ _ _
     refine Zs c42_14 c42_39 ?_
     refine Zp c42_17 P1 [(0, sv_ t_), (1, sv_ l_), (5, .int .i64 0)] ?_
     refine Zb 0 c42_18 ?_
     obtain ⟨I, μ, h0, hr⟩ := h
     refine wpE_loop (x := c42_19) (by kernel_rfl) (fun m l w => ∃ (i : Int), l = [(0, sv_ t_), (1, sv_ l_), (5, Value.int .i64 i)] ∧ I i w ∧ μ i w = m) (l' := [(0, sv_ t_), (1, sv_ l_), (5, Value.int .i64 0)]) (Sub.mk (by kernel_rfl)) ⟨0, rfl, h0, rfl⟩ ?_
     rintro _ _ w1 ⟨i, rfl, hI, rfl⟩
     obtain ⟨again_, again__h, h⟩ : ∃ again_ : Int → World → Prop, (∀ i' w', again_ i' w' → I i' w' ∧ μ i' w' < μ i w1) ∧ F_towpathlaw01_LeftBytes_L0 t_ l_ R again_ i w1 := ⟨_, fun _ _ h => h, hr i w1 hI⟩
     clear h0 hI
     unfold F_towpathlaw01_LeftBytes_L0 at h
     refine Zs c42_20 c42_26 ?_
     refine Zp c42_23 P4 [(0, sv_ t_), (1, sv_ l_), (5, .int .i64 i), (22, .bool (decide (i < ((l_.len : Nat) : Int))))] ?_
     refine Zc 22 (decide (i < ((l_.len : Nat) : Int))) c42_24 c42_25 (fun hb => ?_) (fun hb => ?_)
     · replace h := h.1 hb
       refine wpE_skip (by kernel_rfl) ?_
       change WpE _ _ c42_26 _ _ _
       refine Zs c42_27 c42_37 ?_
       refine Zb 1 c42_28 ?_
       refine Zs c42_29 c42_31 ?_
       refine wpE_drawregion (id := 6) (ops := r42_29) (by kernel_rfl) (by kernel_rfl) (by kernel_rfl) ?_
       refine qreg_run P2 2 [(0, [], sv_ t_), (1, [], sv_ l_), (5, [], Value.int .i64 i), (25, [], sv_ t_), (26, [], Value.int .i64 i)] (by kernel_rfl) (by kernel_rfl) ?_
       obtain ⟨hp_14, h⟩ := h
       refine qreg_conv [(0, [], sv_ t_), (1, [], sv_ l_), (5, [], Value.int .i64 i), (25, [], Value.slice (some ⟨(pblk t_.ptr), (poff t_.ptr), none⟩) t_.len t_.cap), (26, [], Value.int .i64 i)] (congrArg (fun pp => ([(0, [], sv_ t_), (1, [], sv_ l_), (5, [], Value.int .i64 i), (25, [], Value.slice pp t_.len t_.cap), (26, [], Value.int .i64 i)] : GEnv)) hp_14) ?_
       obtain ⟨h0, h1, h⟩ := h
       refine qreg_indexS1 (t := 79) (e := 5) (x := (Operand.tmp 25)) (ix := (Operand.tmp 26)) (b := (pblk t_.ptr)) (o := (poff t_.ptr)) (l := t_.len) (c := t_.cap) (k := .i64) (j := i) (ty := 0) (dst := some 27) (by kernel_rfl) (by kernel_rfl) (by kernel_rfl) (by kernel_rfl) (by kernel_rfl) h0 h1 ?_
       refine qreg_run [] 3 [(0, [], sv_ t_), (1, [], sv_ l_), (5, [], Value.int .i64 i), (27, [], Value.pointer (some ⟨(pblk t_.ptr), (poff t_.ptr) + i.toNat, none⟩))] (by kernel_rfl) (by kernel_rfl) ?_
       obtain ⟨v28, hc, h⟩ := h
       refine qreg_load1 (t := 5) (a := (Operand.tmp 27)) (b := (pblk t_.ptr)) (o := ((poff t_.ptr) + i.toNat)) (ty := 5) (dst := some 28) (by kernel_rfl) (by kernel_rfl) (by kernel_rfl) hc ?_
       refine qreg_run P2 6 [(0, [], sv_ t_), (1, [], sv_ l_), (5, [], Value.int .i64 i), (28, [], Value.int .u8 v28), (29, [], sv_ l_), (30, [], Value.int .i64 i)] (by kernel_rfl) (by kernel_rfl) ?_
       obtain ⟨hp_15, h⟩ := h
       refine qreg_conv [(0, [], sv_ t_), (1, [], sv_ l_), (5, [], Value.int .i64 i), (28, [], Value.int .u8 v28), (29, [], Value.slice (some ⟨(pblk l_.ptr), (poff l_.ptr), none⟩) l_.len l_.cap), (30, [], Value.int .i64 i)] (congrArg (fun pp => ([(0, [], sv_ t_), (1, [], sv_ l_), (5, [], Value.int .i64 i), (28, [], Value.int .u8 v28), (29, [], Value.slice pp l_.len l_.cap), (30, [], Value.int .i64 i)] : GEnv)) hp_15) ?_
       obtain ⟨h0, h1, h⟩ := h
       refine qreg_indexS1 (t := 79) (e := 5) (x := (Operand.tmp 29)) (ix := (Operand.tmp 30)) (b := (pblk l_.ptr)) (o := (poff l_.ptr)) (l := l_.len) (c := l_.cap) (k := .i64) (j := i) (ty := 0) (dst := some 31) (by kernel_rfl) (by kernel_rfl) (by kernel_rfl) (by kernel_rfl) (by kernel_rfl) h0 h1 ?_
       refine qreg_run [] 7 [(0, [], sv_ t_), (1, [], sv_ l_), (5, [], Value.int .i64 i), (28, [], Value.int .u8 v28), (31, [], Value.pointer (some ⟨(pblk l_.ptr), (poff l_.ptr) + i.toNat, none⟩))] (by kernel_rfl) (by kernel_rfl) ?_
       obtain ⟨v32, hc, h⟩ := h
       refine qreg_load1 (t := 5) (a := (Operand.tmp 31)) (b := (pblk l_.ptr)) (o := ((poff l_.ptr) + i.toNat)) (ty := 5) (dst := some 32) (by kernel_rfl) (by kernel_rfl) (by kernel_rfl) hc ?_
       refine qreg_run P1 9 [(0, [], sv_ t_), (1, [], sv_ l_), (5, [], Value.int .i64 i), (33, [], Value.bool (v28 != v32))] (by kernel_rfl) (by kernel_rfl) ?_
       refine qreg_end [(0, sv_ t_), (1, sv_ l_), (5, Value.int .i64 i), (33, Value.bool (v28 != v32))] (by kernel_rfl) (by kernel_rfl) (fun w2 hw => ?_)
       replace h := h w2 hw
       clear hw
       change WpE _ _ c42_31 _ _ _
       refine Zc 33 (v28 != v32) c42_32 c42_36 (fun hb => ?_) (fun hb => ?_)
       · replace h := h.1 hb
         refine Zp c42_35 P1 [(4, .bool false)] ?_
         refine wpE_ret (by kernel_rfl) ?_
         repeat (first | refine seqQ_ret ?_ | refine blockQ_ret ?_ | refine loopQ_ret ?_ | refine cutQ_ret ?_)
         exact retS (rs := [(ResultVar.tmp 4)]) (v := Value.bool false) (by kernel_rfl) (⟨by kernel_rfl, trivial⟩) ⟨false, rfl, h⟩
       · replace h := h.2 hb
         refine wpE_skip (by kernel_rfl) ?_
         change WpE _ _ c42_37 _ _ _
         refine Zr r42_37 ?_
         refine Zf P3 [(0, sv_ t_), (1, sv_ l_), (5, .int .i64 (IntKind.i64.wrap (i + 1)))] ?_
         have hb_ := again__h _ _ h
         exact ⟨_, hb_.2, [(0, sv_ t_), (1, sv_ l_), (5, Value.int .i64 (IntKind.i64.wrap (i + 1)))], Sub.mk (by kernel_rfl), (IntKind.i64.wrap (i + 1)), rfl, hb_.1, rfl⟩
     · replace h := h.2 hb
       refine wpE_exit (id := 0) (by kernel_rfl) ?_
       change WpE _ _ c42_39 _ _ _
       refine Zt r42_40 c42_42 ?_
       refine Zn P4 4 [(1, [], sv_ l_), (34, [], sv_ t_), (37, [], .int .i64 (IntKind.i64.wrap (((l_.len : Nat) : Int) + 1)))] ?_
       obtain ⟨h0, h1, h⟩ := h
       refine reg_sliceHi (t := 79) (e := 5) (x := (Operand.tmp 34)) (hi := (Operand.tmp 37)) (p := t_.ptr) (l := t_.len) (c := t_.cap) (sz := 1) (k := .i64) (j := (IntKind.i64.wrap (((l_.len : Nat) : Int) + 1))) (ty := 79) (dst := some 38) (by kernel_rfl) (by kernel_rfl) (by kernel_rfl) (by kernel_rfl) (by kernel_rfl) h0 h1 ?_
       refine Zn P2 7 [(38, [], .slice t_.ptr ((IntKind.i64.wrap (((l_.len : Nat) : Int) + 1)).toNat) t_.cap), (40, [], .int .i64 ((l_.len : Nat) : Int))] ?_
       obtain ⟨hp_17, h⟩ := h
       refine Zv (fun pp => [(38, [], .slice pp ((IntKind.i64.wrap (((l_.len : Nat) : Int) + 1)).toNat) t_.cap), (40, [], .int .i64 ((l_.len : Nat) : Int))]) hp_17 ?_
       obtain ⟨h0, h1, h⟩ := h
       refine Zi 79 5 38 40 (pblk t_.ptr) (poff t_.ptr) ((IntKind.i64.wrap (((l_.len : Nat) : Int) + 1)).toNat) t_.cap ((l_.len : Nat) : Int) 41 0 h0 h1 ?_
       refine Zn [] 8 [(41, [], .pointer (some ⟨(pblk t_.ptr), (poff t_.ptr) + ((l_.len : Nat) : Int).toNat, none⟩))] ?_
       obtain ⟨x, hc, h⟩ := h
       refine Zl 5 41 (pblk t_.ptr) ((poff t_.ptr) + ((l_.len : Nat) : Int).toNat) 5 42 hc ?_
       refine Zf P1 [(6, .int .u8 x)] ?_
       change WpE _ _ c42_42 _ _ _
       refine Zp c42_45 P3 [(4, .bool (x == 77))] ?_
       refine wpE_ret (by kernel_rfl) ?_
       repeat (first | refine seqQ_ret ?_ | refine blockQ_ret ?_ | refine loopQ_ret ?_ | refine cutQ_ret ?_)
       exact retS (rs := [(ResultVar.tmp 4)]) (v := Value.bool (x == 77)) (by kernel_rfl) (⟨by kernel_rfl, trivial⟩) ⟨(x == 77), rfl, h⟩
 · rintro e w' ⟨v, rfl, r0, rfl, h⟩; exact ⟨r0, rfl, h⟩

/-! ### (*towpath/towpathlaw01.Book).keepTxn (function 49) -/
def c49_0 := cb_ Tryz.f49
def c49_1 := cl_ c49_0
def r49_1 := co_ c49_1
def c49_3 := cr_ c49_0
def r49_3 := co_ c49_3
def o_towpathlaw01_Book_keepTxn_3 : List Nat := [0, 1, 2, 3, 4, 5, 6, 7, 8, 9, 10, 11, 12, 13, 14, 15]

theorem S_towpathlaw01_Book_keepTxn {b_ : Option Addr} {l_ : Slc} {w : World} {R : World → Prop} (h : F_towpathlaw01_Book_keepTxn b_ l_ R w) : C_towpathlaw01_Book_keepTxn b_ l_ w R := by
 unfold F_towpathlaw01_Book_keepTxn at h
 unfold C_towpathlaw01_Book_keepTxn
 refine Calls.mono (calls_of_wpE (args := [Value.pointer b_, sv_ l_]) (R := fun v w' => v = Value.tuple #[] ∧ R w') Tryz.func49 (c := c49_0) (by kernel_rfl) 26 (by kernel_rfl) (by kernel_rfl) [(0, Value.pointer b_), (1, sv_ l_)] (by kernel_rfl) ?_) ?_
 · refine Zt r49_1 c49_3 ?_
   refine Zn P1 1 [(0, [], .pointer b_), (1, [], sv_ l_), (4, [], .pointer b_)] ?_
   obtain ⟨hp_1, h⟩ := h
   refine Zv (fun pp => [(0, [], .pointer b_), (1, [], sv_ l_), (4, [], .pointer pp)]) hp_1 ?_
   refine Zn P1 2 [(0, [], .pointer b_), (1, [], sv_ l_), (4, [], .pointer (some ⟨(pblk b_), (poff b_), none⟩)), (5, [], .pointer (some ⟨(pblk b_), (poff b_), none⟩))] ?_
   refine Zn P1 3 [(0, [], .pointer b_), (1, [], sv_ l_), (4, [], .pointer (some ⟨(pblk b_), (poff b_), none⟩)), (6, [], .pointer (some ⟨(pblk b_), (poff b_), none⟩))] ?_
   obtain ⟨v7, hc, h⟩ := h
   refine Zl 3 6 (pblk b_) (poff b_) 3 7 hc ?_
   refine Zn P3 7 [(0, [], .pointer b_), (1, [], sv_ l_), (8, [], .int .i64 (IntKind.i64.wrap (v7 + 1))), (10, [], .pointer (some ⟨(pblk b_), (poff b_), none⟩))] ?_
   obtain ⟨hc, h⟩ := h
   refine Zo 3 10 8 (pblk b_) (poff b_) 1 [.int .i64 (IntKind.i64.wrap (v7 + 1))] hc (fun w1 hw => ?_)
   replace h := h w1 hw
   clear hw
   refine Ze [(0, .pointer b_), (1, sv_ l_)] ?_
   change WpE _ _ c49_3 _ _ _
   refine wpE_mixregion (id := 1) (ops := r49_3) o_towpathlaw01_Book_keepTxn_3 (by kernel_rfl) (by kernel_rfl) (by kernel_rfl) (by kernel_rfl) (fun w2 hw => ?_)
   replace h := h w2 hw
   clear hw
   refine mreg_run P2 2 [(0, [], Value.pointer b_), (1, [], sv_ l_), (11, [], Value.pointer b_), (12, [], Value.pointer b_)] (by kernel_rfl) (by kernel_rfl) ?_
   obtain ⟨hp_2, h⟩ := h
   refine mreg_conv [(0, [], Value.pointer b_), (1, [], sv_ l_), (11, [], Value.pointer b_), (12, [], Value.pointer (some ⟨(pblk b_), (poff b_), none⟩))] (congrArg (fun pp => ([(0, [], Value.pointer b_), (1, [], sv_ l_), (11, [], Value.pointer b_), (12, [], Value.pointer pp)] : GEnv)) hp_2) ?_
   refine mreg_run P1 3 [(0, [], Value.pointer b_), (1, [], sv_ l_), (11, [], Value.pointer b_), (12, [], Value.pointer (some ⟨(pblk b_), (poff b_), none⟩)), (13, [], Value.pointer (some ⟨(pblk b_), (poff b_), none⟩))] (by kernel_rfl) (by kernel_rfl) ?_
   refine mreg_run P1 4 [(0, [], Value.pointer b_), (1, [], sv_ l_), (11, [], Value.pointer b_), (14, [], Value.pointer (some ⟨(pblk b_), (poff b_) + 7, none⟩))] (by kernel_rfl) (by kernel_rfl) ?_
   obtain ⟨v15, hc, h⟩ := h
   refine mreg_load1 (i := 4) (by kernel_rfl) (t := 41) (a := (Operand.tmp 14)) (b := (pblk b_)) (o := ((poff b_) + 7)) (ty := 41) (dst := some 15) (by kernel_rfl) (by kernel_rfl) (by kernel_rfl) hc ?_
   refine mreg_run P2 7 [(11, [], Value.pointer b_), (15, [], sv_ v15), (16, [], sv_ l_), (17, [], Value.pointer b_)] (by kernel_rfl) (by kernel_rfl) ?_
   obtain ⟨hp_3, h⟩ := h
   refine mreg_conv [(11, [], Value.pointer b_), (15, [], sv_ v15), (16, [], sv_ l_), (17, [], Value.pointer (some ⟨(pblk b_), (poff b_), none⟩))] (congrArg (fun pp => ([(11, [], Value.pointer b_), (15, [], sv_ v15), (16, [], sv_ l_), (17, [], Value.pointer pp)] : GEnv)) hp_3) ?_
   refine mreg_run P1 8 [(11, [], Value.pointer b_), (15, [], sv_ v15), (16, [], sv_ l_), (17, [], Value.pointer (some ⟨(pblk b_), (poff b_), none⟩)), (18, [], Value.pointer (some ⟨(pblk b_), (poff b_), none⟩))] (by kernel_rfl) (by kernel_rfl) ?_
   refine mreg_run P1 9 [(11, [], Value.pointer b_), (15, [], sv_ v15), (16, [], sv_ l_), (19, [], Value.pointer (some ⟨(pblk b_), (poff b_), none⟩))] (by kernel_rfl) (by kernel_rfl) ?_
   obtain ⟨v20, hc, h⟩ := h
   refine mreg_load1 (i := 9) (by kernel_rfl) (t := 3) (a := (Operand.tmp 19)) (b := (pblk b_)) (o := (poff b_)) (ty := 3) (dst := some 20) (by kernel_rfl) (by kernel_rfl) (by kernel_rfl) hc ?_
   refine mreg_run P1 11 [(11, [], Value.pointer b_), (15, [], sv_ v15), (21, [], Value.agg #[sv_ l_, Value.slice none 0 0, Value.int .i64 v20])] (by kernel_rfl) (by kernel_rfl) ?_
   refine mreg_new (op := (Op.buildSlice 41 1 #[(0, (Operand.tmp 21))])) (ty := 41) (dst := some 22) 11 [10, 5, 9, 8, 7, 6] [(4, fun w' => w'.cell? ⟨(pblk b_), (poff b_) + 7, none⟩ = some (sv_ v15))] (fun bb => Value.slice (some ⟨bb, 0, none⟩) 1 1) (Obj.cells ([sv_ l_, Value.slice none 0 0, Value.int .i64 v20]).toArray ty_towpathlaw01_heldTxn (0, 0)) (by kernel_rfl) (by kernel_rfl) (by kernel_rfl) (by kernel_rfl) (by kernel_rfl) (by kernel_rfl) (fun b_1 w3 hb hw => ?_)
   replace h := h b_1 w3 hb hw
   clear hb hw
   obtain ⟨hk0, h⟩ := h
   refine ⟨⟨hk0, trivial⟩, ?_⟩
   refine mreg_run [] 12 [(11, [], Value.pointer b_), (15, [], sv_ v15), (22, [], Value.slice (some ⟨b_1, 0, none⟩) 1 1)] (by kernel_rfl) (by kernel_rfl) ?_
   obtain ⟨src, hs, h⟩ := h
   refine mreg_append (t := 41) (tx := 41) (e := 141) (a := (Operand.tmp 15)) (xo := (Operand.tmp 22)) (s := v15) (x := (Slc.mk (some ⟨b_1, 0, none⟩) 1 1)) (sz := 3) (by_ := 56) (zs := [Value.slice none 0 0, Value.slice none 0 0, Value.int .i64 0]) (ty := 41) (dst := some 23) 12 [4, 11, 3, 10, 2, 5, 9, 1, 8, 7, 6] [] src (by kernel_rfl) (by kernel_rfl) (by kernel_rfl) (by kernel_rfl) (by kernel_rfl) (by kernel_rfl) (by kernel_rfl) (by kernel_rfl) (by kernel_rfl) (by kernel_rfl) (by kernel_rfl) (by kernel_rfl) (by kernel_rfl) hs (AppendW.mono h (fun v23 w4 h => ?_))
   refine ⟨trivial, ?_⟩
   refine mreg_run [] 13 [(11, [], Value.pointer b_), (23, [], sv_ v23)] (by kernel_rfl) (by kernel_rfl) ?_
   obtain ⟨hp_4, h⟩ := h
   refine mreg_conv [(11, [], Value.pointer (some ⟨(pblk b_), (poff b_), none⟩)), (23, [], sv_ v23)] (congrArg (fun pp => ([(11, [], Value.pointer pp), (23, [], sv_ v23)] : GEnv)) hp_4) ?_
   refine mreg_run P1 14 [(11, [], Value.pointer (some ⟨(pblk b_), (poff b_), none⟩)), (23, [], sv_ v23), (24, [], Value.pointer (some ⟨(pblk b_), (poff b_), none⟩))] (by kernel_rfl) (by kernel_rfl) ?_
   refine mreg_run P1 15 [(23, [], sv_ v23), (25, [], Value.pointer (some ⟨(pblk b_), (poff b_) + 7, none⟩))] (by kernel_rfl) (by kernel_rfl) ?_
   obtain ⟨hc, h⟩ := h
   refine mreg_store (t := 41) (a := (Operand.tmp 25)) (x := (Operand.tmp 23)) (b := (pblk b_)) (o := ((poff b_) + 7)) (k := 1) (ty := 0) (dst := none) 15 [0, 1, 2, 3, 4, 5, 6, 7, 8, 9, 10, 11, 12, 14, 13] [] [sv_ v23] (by kernel_rfl) (by kernel_rfl) (by kernel_rfl) (by kernel_rfl) (by kernel_rfl) (by kernel_rfl) (by kernel_rfl) (by kernel_rfl) (by kernel_rfl) (by kernel_rfl) hc (fun w5 hw => ?_)
   replace h := h w5 hw
   clear hw
   refine ⟨trivial, ?_⟩
   refine mreg_end [] (by kernel_rfl) (by kernel_rfl) (by kernel_rfl) ?_
   repeat (first | refine seqQ_exit ?_ | refine loopQ_exit ?_ | refine cutQ_exit ?_ | refine blockQ_hit ?_ | refine blockQ_miss (by kernel_rfl) ?_)
   refine retQ_normal ?_
   repeat (first | refine seqQ_ret ?_ | refine blockQ_ret ?_ | refine loopQ_ret ?_ | refine cutQ_ret ?_)
   exact retT (rs := []) (vs := []) (by kernel_rfl) (trivial) (by kernel_rfl) ⟨rfl, h⟩
 · rintro e w' ⟨v, rfl, rfl, h⟩; exact ⟨rfl, h⟩
end
end Go.Proofs.YtpdegdnigcnjiaaGreatDoor
