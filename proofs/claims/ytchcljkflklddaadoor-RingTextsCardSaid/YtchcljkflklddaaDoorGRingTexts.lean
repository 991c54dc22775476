/- WRITTEN BY PROGRAM (dec.py): for each Go function the clean formula F, the call's contract C, and the proof S that F gives C. -/
import Derived.Test.YtchcljkflklddaaDoorRows
import Derived.Test.YtchcljkflklddaaDoorGF
namespace Go.Proofs.YtchcljkflklddaaDoor
open Go
set_option linter.unusedVariables false
set_option maxRecDepth 100000
set_option maxHeartbeats 4000000
noncomputable section

/-! ### towpath/towpathlaw10.RingTexts (function 4) -/
def c4_0 := cb_ Tryd.f4
def c4_1 := cl_ c4_0
def r4_1 := co_ c4_1
def c4_3 := cr_ c4_0
def c4_4 := cl_ c4_3
def c4_7 := cr_ c4_4
def c4_8 := cl_ c4_7
def c4_9 := cl_ c4_8
def r4_9 := co_ c4_9
def c4_11 := cr_ c4_8
def c4_12 := cr_ c4_7
def c4_13 := cr_ c4_3
def c4_14 := cl_ c4_13
def r4_14 := co_ c4_14
def c4_16 := cr_ c4_13
def c4_17 := cl_ c4_16
def r4_17 := co_ c4_17
def c4_19 := cr_ c4_16
def c4_20 := cl_ c4_19
def c4_23 := cr_ c4_20
def c4_24 := cl_ c4_23
def c4_25 := cl_ c4_24
def r4_25 := co_ c4_25
def c4_27 := cr_ c4_24
def c4_28 := cr_ c4_23
def c4_29 := cr_ c4_19
def c4_30 := cl_ c4_29
def c4_33 := cr_ c4_30
def c4_34 := cl_ c4_33
def c4_35 := cl_ c4_34
def c4_36 := cl_ c4_35
def c4_39 := cr_ c4_36
def c4_40 := cl_ c4_39
def c4_41 := cr_ c4_39
def c4_42 := cr_ c4_35
def c4_43 := cl_ c4_42
def c4_44 := cl_ c4_43
def c4_45 := cl_ c4_44
def r4_45 := co_ c4_45
def c4_47 := cr_ c4_44
def c4_48 := cl_ c4_47
def c4_49 := cl_ c4_48
def r4_49 := co_ c4_49
def c4_51 := cr_ c4_48
def c4_52 := cl_ c4_51
def r4_52 := co_ c4_52
def c4_54 := cr_ c4_51
def c4_55 := cl_ c4_54
def r4_55 := co_ c4_55
def c4_57 := cr_ c4_54
def c4_58 := cl_ c4_57
def c4_59 := cl_ c4_58
def r4_59 := co_ c4_59
def c4_61 := cr_ c4_58
def c4_62 := cr_ c4_57
def c4_63 := cr_ c4_47
def c4_64 := cl_ c4_63
def r4_64 := co_ c4_64
def c4_66 := cr_ c4_63
def c4_67 := cl_ c4_66
def c4_68 := cl_ c4_67
def r4_68 := co_ c4_68
def c4_70 := cr_ c4_67
def c4_71 := cr_ c4_66
def c4_72 := cr_ c4_42
def r4_72 := co_ c4_72
def c4_74 := cr_ c4_29
def c4_75 := cl_ c4_74
def r4_75 := co_ c4_75
def c4_77 := cr_ c4_74
def c4_78 := cl_ c4_77
def r4_78 := co_ c4_78
def c4_80 := cr_ c4_77
def c4_81 := cl_ c4_80
def c4_82 := cl_ c4_81
def r4_82 := co_ c4_82
def c4_84 := cr_ c4_81
def c4_85 := cl_ c4_84
def c4_86 := cl_ c4_85
def r4_86 := co_ c4_86
def c4_88 := cr_ c4_85
def c4_89 := cl_ c4_88
def c4_90 := cl_ c4_89
def c4_91 := cl_ c4_90
def r4_91 := co_ c4_91
def c4_93 := cr_ c4_90
def c4_94 := cl_ c4_93
def c4_95 := cl_ c4_94
def r4_95 := co_ c4_95
def c4_97 := cr_ c4_94
def c4_98 := cr_ c4_93
def c4_99 := cr_ c4_89
def r4_99 := co_ c4_99
def c4_101 := cr_ c4_80
def c4_102 := cl_ c4_101
def r4_102 := co_ c4_102
def c4_104 := cr_ c4_101
def o_towpathlaw10_RingTexts_64 : List Nat := [0, 1, 2, 3, 4, 5, 8, 9, 10, 11, 12, 13, 6, 7, 14, 15]

theorem S_towpathlaw10_RingTexts {capacity : Int} {script : Slc} {w : World} {R : Bool → World → Prop} (h : F_towpathlaw10_RingTexts capacity script R w) : C_towpathlaw10_RingTexts capacity script w R := by
 unfold F_towpathlaw10_RingTexts at h
 unfold C_towpathlaw10_RingTexts
 refine Calls.mono (calls_of_wpY (args := [Value.int .u8 capacity, sv_ script]) (R := fun v w' => ∃ (r0 : Bool), v = Value.bool r0 ∧ R r0 w') Tryd.func4 (c := c4_0) (by kernel_rfl) 122 (by kernel_rfl) (by kernel_rfl) [(0, Value.int .u8 capacity), (1, sv_ script)] (by kernel_rfl) ?_) ?_
 · letI : Rnd := rndY Tryd.prog Tryd.f4 (fun v w' => ∃ (r0 : Bool), v = Value.bool r0 ∧ R r0 w')
   refine Zt r4_1 c4_3 ?_
   refine Zn [] 0 [(0, [], .int .u8 capacity), (1, [], sv_ script)] ?_
   refine Zw (some 4) (fun bb => pv_ bb) (Obj.cells ([.bool false]).toArray ty_bool (0, 0)) (fun b_ w1 hb hw => ?_)
   replace h := h b_ w1 hb hw
   clear hb hw
   refine Ze [(0, .int .u8 capacity), (1, sv_ script), (4, pv_ b_)] ?_
   change WpE _ _ c4_3 _ _ _
   refine Zs c4_4 c4_13 ?_
   refine Zp c4_7 P3 [(0, .int .u8 capacity), (1, sv_ script), (4, pv_ b_), (19, .bool (decide (((script.len : Nat) : Int) > 5000)))] ?_
   refine Zc 19 (decide (((script.len : Nat) : Int) > 5000)) c4_8 c4_12 (fun hb => ?_) (fun hb => ?_)
   · replace h := h.1 hb
     refine Zt r4_9 c4_11 ?_
     refine Zn [] 0 [(4, [], pv_ b_)] ?_
     obtain ⟨hc, h⟩ := h
     refine reg_store (t := 4) (a := (Operand.tmp 4)) (x := (Operand.const (Value.bool true))) (b := b_) (o := 0) (ty := 0) (dst := none) [Value.bool true] (by kernel_rfl) (by kernel_rfl) (by kernel_rfl) (k := 1) (by kernel_rfl) (by kernel_rfl) (by kernel_rfl) hc (fun w2 hw => ?_)
     replace h := h w2 hw
     clear hw
     refine Ze [(4, pv_ b_)] ?_
     change WpE _ _ c4_11 _ _ _
     refine wpE_ret (by kernel_rfl) ?_
     obtain ⟨res, hc_res, h⟩ := h
     repeat (first | refine seqQ_ret ?_ | refine blockQ_ret ?_ | refine loopQ_ret ?_ | refine cutQ_ret ?_)
     exact retS (rs := [(ResultVar.cell 4 4)]) (v := Value.bool res) (by kernel_rfl) (⟨b_, 0, [Value.bool res], by kernel_rfl, hc_res, (sizeP_of (k := 1) (by kernel_rfl) (by kernel_rfl)), .inr ⟨by kernel_rfl, rfl⟩, trivial⟩) ⟨res, rfl, h⟩
   · replace h := h.2 hb
     refine wpE_skip (by kernel_rfl) ?_
     change WpE _ _ c4_13 _ _ _
     refine Zt r4_14 c4_16 ?_
     refine Zn P3 3 [(0, [], .int .u8 capacity), (1, [], sv_ script), (4, [], pv_ b_), (23, [], .int .i64 (IntKind.i64.wrap (1 + (IntKind.i64.wrap capacity))))] ?_
     refine Zm 20 #[.int .i64 (IntKind.i64.wrap (1 + (IntKind.i64.wrap capacity)))] (some 24) (Calls.mono h ?_)
     rintro _ w3 ⟨r, e, rfl, h⟩
     refine ⟨_, rfl, ?_⟩
     refine Zf (Pl 5) [(0, .int .u8 capacity), (1, sv_ script), (4, pv_ b_), (5, .pointer r), (6, .int .i64 e)] ?_
     change WpE _ _ c4_16 _ _ _
     refine Zt r4_17 c4_19 ?_
     refine Zn P3 3 [(1, [], sv_ script), (4, [], pv_ b_), (5, [], .pointer r), (6, [], .int .i64 e), (30, [], .int .i64 (IntKind.i64.wrap (1 + (IntKind.i64.wrap capacity))))] ?_
     refine Zm 21 #[.int .i64 (IntKind.i64.wrap (1 + (IntKind.i64.wrap capacity)))] (some 31) (Calls.mono h ?_)
     rintro _ w4 ⟨x, f, rfl, h⟩
     refine ⟨_, rfl, ?_⟩
     refine Zf (Pl 5) [(1, sv_ script), (4, pv_ b_), (5, .pointer r), (6, .int .i64 e), (7, .pointer x), (8, .int .i64 f)] ?_
     change WpE _ _ c4_19 _ _ _
     refine Zs c4_20 c4_29 ?_
     refine Zp c4_23 [.plain, .plain, .plain, .plain, .plain, .pick] [(1, sv_ script), (4, pv_ b_), (5, .pointer r), (7, .pointer x), (39, .bool ((e != 0) || (f != 0)))] ?_
     refine Zc 39 ((e != 0) || (f != 0)) c4_24 c4_28 (fun hb => ?_) (fun hb => ?_)
     · replace h := h.1 hb
       refine Zt r4_25 c4_27 ?_
       refine Zn [] 0 [(4, [], pv_ b_)] ?_
       obtain ⟨hc, h⟩ := h
       refine reg_store (t := 4) (a := (Operand.tmp 4)) (x := (Operand.const (Value.bool false))) (b := b_) (o := 0) (ty := 0) (dst := none) [Value.bool false] (by kernel_rfl) (by kernel_rfl) (by kernel_rfl) (k := 1) (by kernel_rfl) (by kernel_rfl) (by kernel_rfl) hc (fun w5 hw => ?_)
       replace h := h w5 hw
       clear hw
       refine Ze [(4, pv_ b_)] ?_
       change WpE _ _ c4_27 _ _ _
       refine wpE_ret (by kernel_rfl) ?_
       obtain ⟨res1, hc_res1, h⟩ := h
       repeat (first | refine seqQ_ret ?_ | refine blockQ_ret ?_ | refine loopQ_ret ?_ | refine cutQ_ret ?_)
       exact retS (rs := [(ResultVar.cell 4 4)]) (v := Value.bool res1) (by kernel_rfl) (⟨b_, 0, [Value.bool res1], by kernel_rfl, hc_res1, (sizeP_of (k := 1) (by kernel_rfl) (by kernel_rfl)), .inr ⟨by kernel_rfl, rfl⟩, trivial⟩) ⟨res1, rfl, h⟩
     · replace h := h.2 hb
       refine wpE_skip (by kernel_rfl) ?_
       change WpE _ _ c4_29 _ _ _
       refine Zs c4_30 c4_74 ?_
       refine Zp c4_33 P1 [(1, sv_ script), (4, pv_ b_), (5, .pointer r), (7, .pointer x), (9, .int .i64 0)] ?_
       refine Zb 0 c4_34 ?_
       obtain ⟨I, μ, h0, hr⟩ := h
       refine wpE_loop (x := c4_35) (by kernel_rfl) (fun m l w => ∃ (i : Int), l = [(1, sv_ script), (4, pv_ b_), (5, Value.pointer r), (7, Value.pointer x), (9, Value.int .i64 i)] ∧ I i w ∧ μ i w = m) (l' := [(1, sv_ script), (4, pv_ b_), (5, Value.pointer r), (7, Value.pointer x), (9, Value.int .i64 0)]) (Sub.mk (by kernel_rfl)) ⟨0, rfl, h0, rfl⟩ ?_
       rintro _ _ w6 ⟨i, rfl, hI, rfl⟩
       obtain ⟨again_, again__h, h⟩ : ∃ again_ : Int → World → Prop, (∀ i' w', again_ i' w' → I i' w' ∧ μ i' w' < μ i w6) ∧ F_towpathlaw10_RingTexts_L0 script R b_ r x again_ i w6 := ⟨_, fun _ _ h => h, hr i w6 hI⟩
       clear h0 hI
       unfold F_towpathlaw10_RingTexts_L0 at h
       refine Zs c4_36 c4_42 ?_
       refine Zp c4_39 P4 [(1, sv_ script), (4, pv_ b_), (5, .pointer r), (7, .pointer x), (9, .int .i64 i), (43, .bool (decide (i < ((script.len : Nat) : Int))))] ?_
       refine Zc 43 (decide (i < ((script.len : Nat) : Int))) c4_40 c4_41 (fun hb => ?_) (fun hb => ?_)
       · replace h := h.1 hb
         refine wpE_skip (by kernel_rfl) ?_
         change WpE _ _ c4_42 _ _ _
         refine wpE_seq_cut (x := c4_43) (y := c4_72) (by kernel_rfl) (fun l w => l = [(1, sv_ script), (4, pv_ b_), (5, Value.pointer r), (7, Value.pointer x), (9, Value.int .i64 i)] ∧ F_towpathlaw10_RingTexts_k1 i again_ w) ?_ ?_
         · refine Zb 1 c4_44 ?_
           refine Zt r4_45 c4_47 ?_
           refine Zn P2 2 [(1, [], sv_ script), (4, [], pv_ b_), (5, [], .pointer r), (7, [], .pointer x), (9, [], .int .i64 i), (46, [], sv_ script), (47, [], .int .i64 i)] ?_
           obtain ⟨hp_19, h⟩ := h
           refine Zv (fun pp => [(1, [], sv_ script), (4, [], pv_ b_), (5, [], .pointer r), (7, [], .pointer x), (9, [], .int .i64 i), (46, [], .slice pp script.len script.cap), (47, [], .int .i64 i)]) hp_19 ?_
           obtain ⟨h0, h1, h⟩ := h
           refine Zj 58 66 46 47 (pblk script.ptr) (poff script.ptr) script.len script.cap i 2 48 0 h0 h1 ?_
           refine Zn P1 4 [(1, [], sv_ script), (4, [], pv_ b_), (5, [], .pointer r), (7, [], .pointer x), (9, [], .int .i64 i), (49, [], .pointer (some ⟨(pblk script.ptr), (poff script.ptr) + i.toNat * 2, none⟩))] ?_
           obtain ⟨v50, hc, h⟩ := h
           refine Zl 5 49 (pblk script.ptr) ((poff script.ptr) + i.toNat * 2) 5 50 hc ?_
           refine Zf P1 [(1, sv_ script), (4, pv_ b_), (5, .pointer r), (7, .pointer x), (9, .int .i64 i), (51, .bool (v50 == 2))] ?_
           change WpE _ _ c4_47 _ _ _
           refine Zc 51 (v50 == 2) c4_48 c4_63 (fun hb => ?_) (fun hb => ?_)
           · replace h := h.1 hb
             refine Zt r4_49 c4_51 ?_
             refine Zn P1 1 [(1, [], sv_ script), (4, [], pv_ b_), (5, [], .pointer r), (7, [], .pointer x), (9, [], .int .i64 i), (53, [], .pointer r)] ?_
             refine Zm 22 #[.pointer r] (some 54) (Calls.mono h ?_)
             rintro _ w8 ⟨s, ok, rfl, h⟩
             refine ⟨_, rfl, ?_⟩
             refine Zf (Pl 5) [(1, sv_ script), (4, pv_ b_), (5, .pointer r), (7, .pointer x), (9, .int .i64 i), (10, .string s), (11, .bool ok)] ?_
             change WpE _ _ c4_51 _ _ _
             refine Zt r4_52 c4_54 ?_
             refine Zn P1 1 [(1, [], sv_ script), (4, [], pv_ b_), (5, [], .pointer r), (7, [], .pointer x), (9, [], .int .i64 i), (10, [], .string s), (11, [], .bool ok), (58, [], .pointer x)] ?_
             refine Zm 23 #[.pointer x] (some 59) (Calls.mono h ?_)
             rintro _ w9 ⟨n_, is, rfl, h⟩
             refine ⟨_, rfl, ?_⟩
             refine Zf (Pl 5) [(1, sv_ script), (4, pv_ b_), (5, .pointer r), (7, .pointer x), (9, .int .i64 i), (10, .string s), (11, .bool ok), (12, .int .i64 n_), (13, .bool is)] ?_
             change WpE _ _ c4_54 _ _ _
             refine wpE_seq_cut (x := c4_55) (y := c4_57) (by kernel_rfl) (fun l w => ∃ (t81 : Bool), l = [(1, sv_ script), (4, pv_ b_), (5, Value.pointer r), (7, Value.pointer x), (9, Value.int .i64 i), (81, Value.bool t81)] ∧ F_towpathlaw10_RingTexts_k2 R b_ i again_ t81 w) ?_ ?_
             · refine Zr r4_55 ?_
               refine Zn (Pl 8) 8 [(1, [], sv_ script), (4, [], pv_ b_), (5, [], .pointer r), (7, [], .pointer x), (9, [], .int .i64 i), (10, [], .string s), (11, [], .bool ok), (65, [], .bool (!(ok == is))), (67, [(65, false)], .bool ok), (68, [(67, true), (65, false)], .string s), (69, [(67, true), (65, false)], .int .i64 n_)] ?_
               refine reg_split 65 (!(ok == is)) (by kernel_rfl) (fun hb => ?_) (fun hb => ?_)
               · replace h := h.1 hb
                 refine Zn [] 8 [(1, [], sv_ script), (4, [], pv_ b_), (5, [], .pointer r), (7, [], .pointer x), (9, [], .int .i64 i), (10, [], .string s), (11, [], .bool ok), (65, [], .bool true), (67, [], undef), (68, [], undef), (69, [], undef)] ?_
                 refine Zf [.skip, .skip, .skip, .plain, .plain, .skip, .skip, .skip, .skip, .skip, .skip, .plain] [(1, sv_ script), (4, pv_ b_), (5, .pointer r), (7, .pointer x), (9, .int .i64 i), (81, .bool true)] ?_
                 exact ⟨[(1, sv_ script), (4, pv_ b_), (5, Value.pointer r), (7, Value.pointer x), (9, Value.int .i64 i), (81, Value.bool true)], Sub.mk (by kernel_rfl), true, rfl, h⟩
               · replace h := h.2 hb
                 refine Zn [] 8 [(1, [], sv_ script), (4, [], pv_ b_), (5, [], .pointer r), (7, [], .pointer x), (9, [], .int .i64 i), (10, [], .string s), (11, [], .bool ok), (65, [], .bool false), (67, [], .bool ok), (68, [(67, true)], .string s), (69, [(67, true)], .int .i64 n_)] ?_
                 refine Zn [] 8 [(1, [], sv_ script), (4, [], pv_ b_), (5, [], .pointer r), (7, [], .pointer x), (9, [], .int .i64 i), (10, [], .string s), (11, [], .bool ok), (65, [], .bool false), (67, [], .bool ok), (68, [(67, true)], .string s), (69, [(67, true)], .int .i64 n_)] ?_
                 refine reg_split 67 ok (by kernel_rfl) (fun hb => ?_) (fun hb => ?_)
                 · replace h := h.1 hb
                   refine Zn [] 8 [(1, [], sv_ script), (4, [], pv_ b_), (5, [], .pointer r), (7, [], .pointer x), (9, [], .int .i64 i), (10, [], .string s), (11, [], .bool ok), (65, [], .bool false), (67, [], .bool true), (68, [], .string s), (69, [], .int .i64 n_)] ?_
                   refine Zn [] 8 [(1, [], sv_ script), (4, [], pv_ b_), (5, [], .pointer r), (7, [], .pointer x), (9, [], .int .i64 i), (10, [], .string s), (11, [], .bool ok), (65, [], .bool false), (67, [], .bool true), (68, [], .string s), (69, [], .int .i64 n_)] ?_
                   refine Zm 24 #[.int .i64 n_] (some 70) (Calls.mono h ?_)
                   rintro _ w12 ⟨v70, rfl, h⟩
                   refine ⟨_, rfl, ?_⟩
                   refine Zf [.sure, .sure, .plain, .plain, .plain, .plain, .plain, .plain, .plain, .pick, .pick] [(1, sv_ script), (4, pv_ b_), (5, .pointer r), (7, .pointer x), (9, .int .i64 i), (81, .bool ((!(s.toList == v70.toList)) || ((!ok) && (!(s.toList == ByteArray.empty.toList)))))] ?_
                   exact ⟨[(1, sv_ script), (4, pv_ b_), (5, Value.pointer r), (7, Value.pointer x), (9, Value.int .i64 i), (81, Value.bool ((!(s.toList == v70.toList)) || ((!ok) && (!(s.toList == ByteArray.empty.toList)))))], Sub.mk (by kernel_rfl), ((!(s.toList == v70.toList)) || ((!ok) && (!(s.toList == ByteArray.empty.toList)))), rfl, h⟩
                 · replace h := h.2 hb
                   refine Zn [] 8 [(1, [], sv_ script), (4, [], pv_ b_), (5, [], .pointer r), (7, [], .pointer x), (9, [], .int .i64 i), (10, [], .string s), (11, [], .bool ok), (65, [], .bool false), (67, [], .bool false), (68, [], undef), (69, [], undef)] ?_
                   refine Zf [.skip, .skip, .sure, .plain, .plain, .sure, .sure, .sure, .plain, .plain, .spick, .plain] [(1, sv_ script), (4, pv_ b_), (5, .pointer r), (7, .pointer x), (9, .int .i64 i), (81, .bool ((!ok) && (!(s.toList == ByteArray.empty.toList))))] ?_
                   exact ⟨[(1, sv_ script), (4, pv_ b_), (5, Value.pointer r), (7, Value.pointer x), (9, Value.int .i64 i), (81, Value.bool ((!ok) && (!(s.toList == ByteArray.empty.toList))))], Sub.mk (by kernel_rfl), ((!ok) && (!(s.toList == ByteArray.empty.toList))), rfl, h⟩
             · rintro _ w10 ⟨t81, rfl, h⟩
               unfold F_towpathlaw10_RingTexts_k2 at h
               refine Zc 81 t81 c4_58 c4_62 (fun hb => ?_) (fun hb => ?_)
               · replace h := h.1 hb
                 refine Zt r4_59 c4_61 ?_
                 refine Zn [] 0 [(4, [], pv_ b_)] ?_
                 obtain ⟨hc, h⟩ := h
                 refine reg_store (t := 4) (a := (Operand.tmp 4)) (x := (Operand.const (Value.bool false))) (b := b_) (o := 0) (ty := 0) (dst := none) [Value.bool false] (by kernel_rfl) (by kernel_rfl) (by kernel_rfl) (k := 1) (by kernel_rfl) (by kernel_rfl) (by kernel_rfl) hc (fun w11 hw => ?_)
                 replace h := h w11 hw
                 clear hw
                 refine Ze [(4, pv_ b_)] ?_
                 change WpE _ _ c4_61 _ _ _
                 refine wpE_ret (by kernel_rfl) ?_
                 obtain ⟨res2, hc_res2, h⟩ := h
                 repeat (first | refine seqQ_ret ?_ | refine blockQ_ret ?_ | refine loopQ_ret ?_ | refine cutQ_ret ?_)
                 exact retS (rs := [(ResultVar.cell 4 4)]) (v := Value.bool res2) (by kernel_rfl) (⟨b_, 0, [Value.bool res2], by kernel_rfl, hc_res2, (sizeP_of (k := 1) (by kernel_rfl) (by kernel_rfl)), .inr ⟨by kernel_rfl, rfl⟩, trivial⟩) ⟨res2, rfl, h⟩
               · replace h := h.2 hb
                 refine wpE_skip (by kernel_rfl) ?_
                 exact ⟨[(1, sv_ script), (4, pv_ b_), (5, Value.pointer r), (7, Value.pointer x), (9, Value.int .i64 i)], Sub.mk (by kernel_rfl), rfl, h⟩
           · replace h := h.2 hb
             refine Zs c4_64 c4_66 ?_
             refine wpE_mixregionY (id := 15) (ops := r4_64) o_towpathlaw10_RingTexts_64 (by kernel_rfl) (by kernel_rfl) (by kernel_rfl) (by kernel_rfl) (by kernel_rfl) (fun w13 hw => ?_)
             replace h := h w13 hw
             clear hw
             refine mreg_run P3 3 [(1, [], sv_ script), (4, [], pv_ b_), (5, [], Value.pointer r), (7, [], Value.pointer x), (9, [], Value.int .i64 i), (82, [], Value.pointer r), (83, [], sv_ script), (84, [], Value.int .i64 i)] (by kernel_rfl) (by kernel_rfl) ?_
             obtain ⟨hp_22, h⟩ := h
             refine mreg_conv [(1, [], sv_ script), (4, [], pv_ b_), (5, [], Value.pointer r), (7, [], Value.pointer x), (9, [], Value.int .i64 i), (82, [], Value.pointer r), (83, [], Value.slice (some ⟨(pblk script.ptr), (poff script.ptr), none⟩) script.len script.cap), (84, [], Value.int .i64 i)] (congrArg (fun pp => ([(1, [], sv_ script), (4, [], pv_ b_), (5, [], Value.pointer r), (7, [], Value.pointer x), (9, [], Value.int .i64 i), (82, [], Value.pointer r), (83, [], Value.slice pp script.len script.cap), (84, [], Value.int .i64 i)] : GEnv)) hp_22) ?_
             obtain ⟨h0, h1, h⟩ := h
             refine mreg_indexS (i := 3) (by kernel_rfl) (t := 58) (e := 66) (x := (Operand.tmp 83)) (ix := (Operand.tmp 84)) (b := (pblk script.ptr)) (o := (poff script.ptr)) (l := script.len) (c := script.cap) (k := .i64) (j := i) (ty := 0) (dst := some 85) (sz := 2) (by kernel_rfl) (by kernel_rfl) (by kernel_rfl) (by kernel_rfl) (by kernel_rfl) h0 h1 ?_
             refine mreg_run P1 5 [(1, [], sv_ script), (4, [], pv_ b_), (5, [], Value.pointer r), (7, [], Value.pointer x), (9, [], Value.int .i64 i), (82, [], Value.pointer r), (86, [], Value.pointer (some ⟨(pblk script.ptr), ((poff script.ptr) + i.toNat * 2) + 1, none⟩))] (by kernel_rfl) (by kernel_rfl) ?_
             obtain ⟨v87, hc, h⟩ := h
             refine mreg_load1 (i := 5) (by kernel_rfl) (t := 3) (a := (Operand.tmp 86)) (b := (pblk script.ptr)) (o := (((poff script.ptr) + i.toNat * 2) + 1)) (ty := 3) (dst := some 87) (by kernel_rfl) (by kernel_rfl) (by kernel_rfl) hc ?_
             refine mreg_run P3 9 [(1, [], sv_ script), (4, [], pv_ b_), (5, [], Value.pointer r), (7, [], Value.pointer x), (9, [], Value.int .i64 i), (82, [], Value.pointer r), (87, [], Value.int .i64 v87), (90, [], Value.pointer x), (91, [], sv_ script), (92, [], Value.int .i64 i)] (by kernel_rfl) (by kernel_rfl) ?_
             obtain ⟨hp_23, h⟩ := h
             refine mreg_conv [(1, [], sv_ script), (4, [], pv_ b_), (5, [], Value.pointer r), (7, [], Value.pointer x), (9, [], Value.int .i64 i), (82, [], Value.pointer r), (87, [], Value.int .i64 v87), (90, [], Value.pointer x), (91, [], Value.slice (some ⟨(pblk script.ptr), (poff script.ptr), none⟩) script.len script.cap), (92, [], Value.int .i64 i)] (congrArg (fun pp => ([(1, [], sv_ script), (4, [], pv_ b_), (5, [], Value.pointer r), (7, [], Value.pointer x), (9, [], Value.int .i64 i), (82, [], Value.pointer r), (87, [], Value.int .i64 v87), (90, [], Value.pointer x), (91, [], Value.slice pp script.len script.cap), (92, [], Value.int .i64 i)] : GEnv)) hp_23) ?_
             obtain ⟨h0, h1, h⟩ := h
             refine mreg_indexS (i := 11) (by kernel_rfl) (t := 58) (e := 66) (x := (Operand.tmp 91)) (ix := (Operand.tmp 92)) (b := (pblk script.ptr)) (o := (poff script.ptr)) (l := script.len) (c := script.cap) (k := .i64) (j := i) (ty := 0) (dst := some 93) (sz := 2) (by kernel_rfl) (by kernel_rfl) (by kernel_rfl) (by kernel_rfl) (by kernel_rfl) h0 h1 ?_
             refine mreg_run P1 11 [(1, [], sv_ script), (4, [], pv_ b_), (5, [], Value.pointer r), (7, [], Value.pointer x), (9, [], Value.int .i64 i), (82, [], Value.pointer r), (87, [], Value.int .i64 v87), (90, [], Value.pointer x), (94, [], Value.pointer (some ⟨(pblk script.ptr), ((poff script.ptr) + i.toNat * 2) + 1, none⟩))] (by kernel_rfl) (by kernel_rfl) ?_
             obtain ⟨v95, hc, h⟩ := h
             refine mreg_load1 (i := 13) (by kernel_rfl) (t := 3) (a := (Operand.tmp 94)) (b := (pblk script.ptr)) (o := (((poff script.ptr) + i.toNat * 2) + 1)) (ty := 3) (dst := some 95) (by kernel_rfl) (by kernel_rfl) (by kernel_rfl) hc ?_
             refine mreg_run [] 12 [(1, [], sv_ script), (4, [], pv_ b_), (5, [], Value.pointer r), (7, [], Value.pointer x), (9, [], Value.int .i64 i), (82, [], Value.pointer r), (87, [], Value.int .i64 v87), (90, [], Value.pointer x), (95, [], Value.int .i64 v95)] (by kernel_rfl) (by kernel_rfl) ?_
             refine mreg_enter (op := (Op.call (Call.mk (Callee.value (Operand.func 24)) #[(Operand.tmp 87)] #[3]))) (ty := 9) (dst := some 88) 6 [5, 4, 3, 1, 2] [(13, fun w' => w'.cell? ⟨(pblk script.ptr), ((poff script.ptr) + i.toNat * 2) + 1, none⟩ = some (Value.int .i64 v95))] 24 #[Value.int .i64 v87] (by kernel_rfl) (by kernel_rfl) (by kernel_rfl) (by kernel_rfl) (by kernel_rfl) (fun ww => by kernel_rfl) (Calls.mono h ?_)
             rintro _ w14 ⟨v88, rfl, h⟩
             obtain ⟨hk0, h⟩ := h
             refine ⟨_, rfl, ⟨hk0, trivial⟩, ?_⟩
             refine mreg_run [] 13 [(1, [], sv_ script), (4, [], pv_ b_), (5, [], Value.pointer r), (7, [], Value.pointer x), (9, [], Value.int .i64 i), (82, [], Value.pointer r), (88, [], Value.string v88), (90, [], Value.pointer x), (95, [], Value.int .i64 v95)] (by kernel_rfl) (by kernel_rfl) ?_
             refine mreg_enter (op := (Op.call (Call.mk (Callee.value (Operand.func 25)) #[(Operand.tmp 82), (Operand.tmp 88)] #[59, 9]))) (ty := 4) (dst := some 89) 7 [0, 6, 5, 4, 3, 1, 2] [(13, fun w' => w'.cell? ⟨(pblk script.ptr), ((poff script.ptr) + i.toNat * 2) + 1, none⟩ = some (Value.int .i64 v95))] 25 #[Value.pointer r, Value.string v88] (by kernel_rfl) (by kernel_rfl) (by kernel_rfl) (by kernel_rfl) (by kernel_rfl) (fun ww => by kernel_rfl) (Calls.mono h ?_)
             rintro _ w15 ⟨v89, rfl, h⟩
             obtain ⟨hk0, h⟩ := h
             refine ⟨_, rfl, ⟨hk0, trivial⟩, ?_⟩
             refine mreg_run [] 14 [(1, [], sv_ script), (4, [], pv_ b_), (5, [], Value.pointer r), (7, [], Value.pointer x), (9, [], Value.int .i64 i), (89, [], Value.bool v89), (90, [], Value.pointer x), (95, [], Value.int .i64 v95)] (by kernel_rfl) (by kernel_rfl) ?_
             refine mreg_enter (op := (Op.call (Call.mk (Callee.value (Operand.func 26)) #[(Operand.tmp 90), (Operand.tmp 95)] #[62, 3]))) (ty := 4) (dst := some 96) 14 [7, 8, 13, 0, 6, 12, 5, 11, 4, 9, 10, 3, 1, 2] [] 26 #[Value.pointer x, Value.int .i64 v95] (by kernel_rfl) (by kernel_rfl) (by kernel_rfl) (by kernel_rfl) (by kernel_rfl) (fun ww => by kernel_rfl) (Calls.mono h ?_)
             rintro _ w16 ⟨v96, rfl, h⟩
             refine ⟨_, rfl, trivial, ?_⟩
             refine mreg_run P1 16 [(1, [], sv_ script), (4, [], pv_ b_), (5, [], Value.pointer r), (7, [], Value.pointer x), (9, [], Value.int .i64 i), (97, [], Value.bool (!(v89 == v96)))] (by kernel_rfl) (by kernel_rfl) ?_
             refine mreg_end [(1, sv_ script), (4, pv_ b_), (5, Value.pointer r), (7, Value.pointer x), (9, Value.int .i64 i), (97, Value.bool (!(v89 == v96)))] (by kernel_rfl) (by kernel_rfl) (by kernel_rfl) ?_
             change WpE _ _ c4_66 _ _ _
             refine Zc 97 (!(v89 == v96)) c4_67 c4_71 (fun hb => ?_) (fun hb => ?_)
             · replace h := h.1 hb
               refine Zt r4_68 c4_70 ?_
               refine Zn [] 0 [(4, [], pv_ b_)] ?_
               obtain ⟨hc, h⟩ := h
               refine reg_store (t := 4) (a := (Operand.tmp 4)) (x := (Operand.const (Value.bool false))) (b := b_) (o := 0) (ty := 0) (dst := none) [Value.bool false] (by kernel_rfl) (by kernel_rfl) (by kernel_rfl) (k := 1) (by kernel_rfl) (by kernel_rfl) (by kernel_rfl) hc (fun w17 hw => ?_)
               replace h := h w17 hw
               clear hw
               refine Ze [(4, pv_ b_)] ?_
               change WpE _ _ c4_70 _ _ _
               refine wpE_ret (by kernel_rfl) ?_
               obtain ⟨res3, hc_res3, h⟩ := h
               repeat (first | refine seqQ_ret ?_ | refine blockQ_ret ?_ | refine loopQ_ret ?_ | refine cutQ_ret ?_)
               exact retS (rs := [(ResultVar.cell 4 4)]) (v := Value.bool res3) (by kernel_rfl) (⟨b_, 0, [Value.bool res3], by kernel_rfl, hc_res3, (sizeP_of (k := 1) (by kernel_rfl) (by kernel_rfl)), .inr ⟨by kernel_rfl, rfl⟩, trivial⟩) ⟨res3, rfl, h⟩
             · replace h := h.2 hb
               refine wpE_skip (by kernel_rfl) ?_
               exact ⟨[(1, sv_ script), (4, pv_ b_), (5, Value.pointer r), (7, Value.pointer x), (9, Value.int .i64 i)], Sub.mk (by kernel_rfl), rfl, h⟩
         · rintro _ w7 ⟨rfl, h⟩
           unfold F_towpathlaw10_RingTexts_k1 at h
           refine Zr r4_72 ?_
           refine Zf P3 [(1, sv_ script), (4, pv_ b_), (5, .pointer r), (7, .pointer x), (9, .int .i64 (IntKind.i64.wrap (i + 1)))] ?_
           have hb_ := again__h _ _ h
           exact ⟨_, hb_.2, [(1, sv_ script), (4, pv_ b_), (5, Value.pointer r), (7, Value.pointer x), (9, Value.int .i64 (IntKind.i64.wrap (i + 1)))], Sub.mk (by kernel_rfl), (IntKind.i64.wrap (i + 1)), rfl, hb_.1, rfl⟩
       · replace h := h.2 hb
         refine wpE_exit (id := 0) (by kernel_rfl) ?_
         change WpE _ _ c4_74 _ _ _
         refine Zt r4_75 c4_77 ?_
         refine Zn P1 1 [(4, [], pv_ b_), (5, [], .pointer r), (98, [], .pointer x)] ?_
         refine Zm 27 #[.pointer x] (some 99) (Calls.mono h ?_)
         rintro _ w18 ⟨v99, rfl, h⟩
         refine ⟨_, rfl, ?_⟩
         refine Zn [] 2 [(4, [], pv_ b_), (5, [], .pointer r), (99, [], sv_ v99)] ?_
         refine Zw (some 14) (fun bb => pv_ bb) (Obj.cells ([.slice none 0 0]).toArray ty_sl_int (0, 0)) (fun b_1 w19 hb hw => ?_)
         replace h := h b_1 w19 hb hw
         clear hb hw
         refine Zn [] 3 [(4, [], pv_ b_), (5, [], .pointer r), (14, [], pv_ b_1), (99, [], sv_ v99)] ?_
         obtain ⟨hc, h⟩ := h
         refine Zo 22 14 99 b_1 0 1 [sv_ v99] hc (fun w20 hw => ?_)
         replace h := h w20 hw
         clear hw
         refine Ze [(4, pv_ b_), (5, .pointer r), (14, pv_ b_1)] ?_
         change WpE _ _ c4_77 _ _ _
         refine Zt r4_78 c4_80 ?_
         refine Zn [] 0 [(4, [], pv_ b_), (5, [], .pointer r), (14, [], pv_ b_1)] ?_
         refine Zw (some 15) (fun bb => pv_ bb) (Obj.cells ([.int .i64 0]).toArray ty_int (0, 0)) (fun b_2 w21 hb hw => ?_)
         replace h := h b_2 w21 hb hw
         clear hb hw
         refine Zn [] 1 [(4, [], pv_ b_), (5, [], .pointer r), (14, [], pv_ b_1), (15, [], pv_ b_2)] ?_
         obtain ⟨hc, h⟩ := h
         refine reg_store (t := 3) (a := (Operand.tmp 15)) (x := (Operand.const (Value.int Go.IntKind.i64 0))) (b := b_2) (o := 0) (ty := 0) (dst := none) [Value.int .i64 0] (by kernel_rfl) (by kernel_rfl) (by kernel_rfl) (k := 1) (by kernel_rfl) (by kernel_rfl) (by kernel_rfl) hc (fun w22 hw => ?_)
         replace h := h w22 hw
         clear hw
         refine Ze [(4, pv_ b_), (5, .pointer r), (14, pv_ b_1), (15, pv_ b_2)] ?_
         change WpE _ _ c4_80 _ _ _
         refine wpE_seq_range (x := c4_81) (r1 := c4_82) (b := c4_84) (id := 2) (rg := c4_85) (rest := c4_101) (assign := c4_86) (body := c4_88) (g := (Operand.tmp 101)) (ps := [102]) (psa := #[102]) (by kernel_rfl) (by kernel_rfl) (by kernel_rfl) (by kernel_rfl) (by kernel_rfl) ?_
         refine Zr r4_82 ?_
         refine Zn P1 1 [(4, [], pv_ b_), (14, [], pv_ b_1), (15, [], pv_ b_2), (100, [], .pointer r)] ?_
         refine Zm 28 #[.pointer r] (some 101) (Calls.mono h ?_)
         rintro _ w23 ⟨v101, rfl, h⟩
         refine ⟨_, rfl, ?_⟩
         refine Ze [(4, pv_ b_), (14, pv_ b_1), (15, pv_ b_2), (101, v101)] ?_
         refine rangeJ_mk (gv := v101) (by kernel_rfl) (by kernel_rfl) (fun rec_ D w24 hD_ hw_ hB_ => ?_)
         have hB_ : ∀ (t102 : ByteArray) (w25 : World) (Kb : Bool → World → Prop), w25.heap[D + 1]? = some (.loop (rec_ .ready none)) → (∀ w33, w33 = w25.putObj (D + 1) (.loop (rec_ .busy none)) → F_towpathlaw10_RingTexts_B3 b_ b_1 b_2 rec_ D Kb t102 w33) → CallsY (P := Tryd.prog) (yieldV (D + 1)) #[Value.string t102] w25 (fun e_ W_ => ∃ b_, e_ = Ending.returned (.bool b_) ∧ Kb b_ W_) := by
           clear h
           intro t102 w25 Kb hl_ hf_
           refine hB_ [Value.string t102] w25 _ (by kernel_rfl) hl_ ?_
           letI : Rnd := mkRnd (some (D + 1)) [] noEsc
           change WpE _ _ c4_86 _ _ _
           refine Zr r4_86 ?_
           refine Zf P1 [(4, pv_ b_), (14, pv_ b_1), (15, pv_ b_2), (16, .string t102)] ?_
           refine And.intro hl_ (fun w26 hw_ => ?_)
           have h := hf_ w26 hw_
           clear hw_ hf_ hl_
           unfold F_towpathlaw10_RingTexts_B3 at h
           change WpE _ _ c4_88 _ _ _
           refine Zb 3 c4_89 ?_
           refine Zs c4_90 c4_99 ?_
           refine wpE_seq_cut (x := c4_91) (y := c4_93) (by kernel_rfl) (fun l w => ∃ (t115 : Bool), l = [(4, pv_ b_), (15, pv_ b_2), (115, Value.bool t115)] ∧ F_towpathlaw10_RingTexts_k4 b_ b_2 D rec_ Kb t115 w) ?_ ?_
           · refine Zr r4_91 ?_
             refine Zn [] 0 [(4, [], pv_ b_), (14, [], pv_ b_1), (15, [], pv_ b_2), (16, [], .string t102)] ?_
             obtain ⟨v103, hc, h⟩ := h
             refine Zl 3 15 b_2 0 3 103 hc ?_
             refine Zn [] 1 [(4, [], pv_ b_), (14, [], pv_ b_1), (15, [], pv_ b_2), (16, [], .string t102), (103, [], .int .i64 v103)] ?_
             obtain ⟨v104, hc, h⟩ := h
             refine Zl 22 14 b_1 0 22 104 hc ?_
             refine Zn P4 6 [(4, [], pv_ b_), (14, [], pv_ b_1), (15, [], pv_ b_2), (107, [], .bool (decide (v103 ≥ ((v104.len : Nat) : Int)))), (108, [(107, false)], .string t102)] ?_
             refine reg_split 107 (decide (v103 ≥ ((v104.len : Nat) : Int))) (by kernel_rfl) (fun hb => ?_) (fun hb => ?_)
             · replace h := h.1 hb
               refine Zn [] 6 [(4, [], pv_ b_), (14, [], pv_ b_1), (15, [], pv_ b_2), (107, [], .bool true), (108, [], undef)] ?_
               refine Zf [.skip, .skip, .skip, .skip, .skip, .skip, .plain] [(4, pv_ b_), (15, pv_ b_2), (115, .bool true)] ?_
               exact ⟨[(4, pv_ b_), (15, pv_ b_2), (115, Value.bool true)], Sub.mk (by kernel_rfl), true, rfl, h⟩
             · replace h := h.2 hb
               refine Zn [] 6 [(4, [], pv_ b_), (14, [], pv_ b_1), (15, [], pv_ b_2), (107, [], .bool false), (108, [], .string t102)] ?_
               refine Zn [] 6 [(4, [], pv_ b_), (14, [], pv_ b_1), (15, [], pv_ b_2), (107, [], .bool false), (108, [], .string t102)] ?_
               obtain ⟨v109, hc, h⟩ := h
               refine Zl 22 14 b_1 0 22 109 hc ?_
               refine Zn [] 7 [(4, [], pv_ b_), (15, [], pv_ b_2), (107, [], .bool false), (108, [], .string t102), (109, [], sv_ v109)] ?_
               obtain ⟨v110, hc, h⟩ := h
               refine Zl 3 15 b_2 0 3 110 hc ?_
               refine Zn [] 8 [(4, [], pv_ b_), (15, [], pv_ b_2), (107, [], .bool false), (108, [], .string t102), (109, [], sv_ v109), (110, [], .int .i64 v110)] ?_
               obtain ⟨hp_27, h⟩ := h
               refine Zv (fun pp => [(4, [], pv_ b_), (15, [], pv_ b_2), (107, [], .bool false), (108, [], .string t102), (109, [], .slice pp v109.len v109.cap), (110, [], .int .i64 v110)]) hp_27 ?_
               obtain ⟨h0, h1, h⟩ := h
               refine Zi 22 3 109 110 (pblk v109.ptr) (poff v109.ptr) v109.len v109.cap v110 111 0 h0 h1 ?_
               refine Zn [] 9 [(4, [], pv_ b_), (15, [], pv_ b_2), (107, [], .bool false), (108, [], .string t102), (111, [], .pointer (some ⟨(pblk v109.ptr), (poff v109.ptr) + v110.toNat, none⟩))] ?_
               obtain ⟨v112, hc, h⟩ := h
               refine Zl 3 111 (pblk v109.ptr) ((poff v109.ptr) + v110.toNat) 3 112 hc ?_
               refine Zn [] 10 [(4, [], pv_ b_), (15, [], pv_ b_2), (107, [], .bool false), (108, [], .string t102), (112, [], .int .i64 v112)] ?_
               refine Zm 24 #[.int .i64 v112] (some 113) (Calls.mono h ?_)
               rintro _ w32 ⟨v113, rfl, h⟩
               refine ⟨_, rfl, ?_⟩
               refine Zf [.sure, .plain] [(4, pv_ b_), (15, pv_ b_2), (115, .bool (!(t102.toList == v113.toList)))] ?_
               exact ⟨[(4, pv_ b_), (15, pv_ b_2), (115, Value.bool (!(t102.toList == v113.toList)))], Sub.mk (by kernel_rfl), (!(t102.toList == v113.toList)), rfl, h⟩
           · rintro _ w27 ⟨t115, rfl, h⟩
             unfold F_towpathlaw10_RingTexts_k4 at h
             refine Zc 115 t115 c4_94 c4_98 (fun hb => ?_) (fun hb => ?_)
             · replace h := h.1 hb
               refine Zt r4_95 c4_97 ?_
               refine Zn [] 0 [(4, [], pv_ b_)] ?_
               obtain ⟨hc, h⟩ := h
               refine reg_store (t := 4) (a := (Operand.tmp 4)) (x := (Operand.const (Value.bool false))) (b := b_) (o := 0) (ty := 0) (dst := none) [Value.bool false] (by kernel_rfl) (by kernel_rfl) (by kernel_rfl) (k := 1) (by kernel_rfl) (by kernel_rfl) (by kernel_rfl) hc (fun w28 hw => ?_)
               replace h := h w28 hw
               clear hw
               refine Ze [] ?_
               change WpE _ _ c4_97 _ _ _
               refine wpE_ret (by kernel_rfl) ?_
               exact And.intro h.1 ⟨false, rfl, h.2 _ rfl⟩
             · replace h := h.2 hb
               refine wpE_skip (by kernel_rfl) ?_
               change WpE _ _ c4_99 _ _ _
               refine Zr r4_99 ?_
               refine Zn [] 0 [(15, [], pv_ b_2)] ?_
               obtain ⟨v116, hc, h⟩ := h
               refine Zl 3 15 b_2 0 3 116 hc ?_
               refine Zn P1 2 [(15, [], pv_ b_2), (117, [], .int .i64 (IntKind.i64.wrap (v116 + 1)))] ?_
               obtain ⟨hc, h⟩ := h
               refine Zo 3 15 117 b_2 0 1 [.int .i64 (IntKind.i64.wrap (v116 + 1))] hc (fun w30 hw => ?_)
               replace h := h w30 hw
               clear hw
               refine Ze [] ?_
               exact And.intro h.1 ⟨true, rfl, h.2 _ rfl⟩
         replace h := h rec_ D w24 hD_ hw_ hB_
         clear hB_ hw_
         have hA_ : ∀ w34, F_towpathlaw10_RingTexts_A5 R b_ b_1 b_2 D w34 → @WpE (rndD Tryd.prog Tryd.f4 (fun v w' => ∃ (r0 : Bool), v = Value.bool r0 ∧ R r0 w') D) Tryd.prog 122 c4_101 (fun _ _ _ => False) [(4, pv_ b_), (14, pv_ b_1), (15, pv_ b_2), (101, v101)] w34 := by
           clear h
           intro w34 h
           letI : Rnd := rndD Tryd.prog Tryd.f4 (fun v w' => ∃ (r0 : Bool), v = Value.bool r0 ∧ R r0 w') D
           unfold F_towpathlaw10_RingTexts_A5 at h
           change WpE _ _ c4_101 _ _ _
           refine Zt r4_102 c4_104 ?_
           refine Zn [] 0 [(4, [], pv_ b_), (14, [], pv_ b_1), (15, [], pv_ b_2)] ?_
           obtain ⟨v118, hc, h⟩ := h
           refine Zl 3 15 b_2 0 3 118 hc ?_
           refine Zn [] 1 [(4, [], pv_ b_), (14, [], pv_ b_1), (118, [], .int .i64 v118)] ?_
           obtain ⟨v119, hc, h⟩ := h
           refine Zl 22 14 b_1 0 22 119 hc ?_
           refine Zn P2 4 [(4, [], pv_ b_), (121, [], .bool (v118 == ((v119.len : Nat) : Int)))] ?_
           obtain ⟨hc, h⟩ := h
           refine Zo 4 4 121 b_ 0 1 [.bool (v118 == ((v119.len : Nat) : Int))] hc (fun w37 hw => ?_)
           replace h := h w37 hw
           clear hw
           refine Ze [(4, pv_ b_)] ?_
           change WpE _ _ c4_104 _ _ _
           refine wpE_retD (by kernel_rfl) h.1 ?_
           replace h := h.2 _ rfl
           obtain ⟨res4, hc_res4, h⟩ := h
           repeat (first | refine seqQ_ret ?_ | refine blockQ_ret ?_ | refine loopQ_ret ?_ | refine cutQ_ret ?_)
           exact retS (rs := [(ResultVar.cell 4 4)]) (v := Value.bool res4) (by kernel_rfl) (⟨b_, 0, [Value.bool res4], by kernel_rfl, hc_res4, (sizeP_of (k := 1) (by kernel_rfl) (by kernel_rfl)), .inr ⟨by kernel_rfl, rfl⟩, trivial⟩) ⟨res4, rfl, h⟩
         refine CallsV.mono h ?_
         rintro e_ w35 ⟨hv_, st_, pe_, hl_, hst_, h⟩
         refine ⟨hv_, st_, pe_, hl_, hst_, ?_⟩
         replace h := h _ rfl
         rcases h with h | ⟨rfl, h⟩
         · obtain ⟨hpe_, h⟩ := h
           subst hpe_
           exact hA_ _ h
         · refine And.intro h.1 ?_
           replace h := h.2 _ rfl
           obtain ⟨res5, hc_res5, h⟩ := h
           repeat (first | refine seqQ_ret ?_ | refine blockQ_ret ?_ | refine loopQ_ret ?_ | refine cutQ_ret ?_)
           exact retS (rs := [(ResultVar.cell 4 4)]) (v := Value.bool res5) (by kernel_rfl) (⟨b_, 0, [Value.bool res5], by kernel_rfl, hc_res5, (sizeP_of (k := 1) (by kernel_rfl) (by kernel_rfl)), .inr ⟨by kernel_rfl, rfl⟩, trivial⟩) ⟨res5, rfl, h⟩
 · rintro e w' ⟨v, rfl, r0, rfl, h⟩; exact ⟨r0, rfl, h⟩
end
end Go.Proofs.YtchcljkflklddaaDoor
