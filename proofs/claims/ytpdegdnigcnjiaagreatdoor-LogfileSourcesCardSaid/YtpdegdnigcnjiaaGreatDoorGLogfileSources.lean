/- WRITTEN BY PROGRAM (dec.py): for each Go function the clean formula F, the call's contract C, and the proof S that F gives C. -/
import Derived.Test.YtpdegdnigcnjiaaGreatDoorRows
import Derived.Test.YtpdegdnigcnjiaaGreatDoorGF
namespace Go.Proofs.YtpdegdnigcnjiaaGreatDoor
open Go
set_option linter.unusedVariables false
set_option maxRecDepth 100000
set_option maxHeartbeats 4000000
noncomputable section

/-! ### towpath/towpathlaw06.LogfileSources (function 3) -/
def c3_0 := cb_ Tryz.f3
def c3_3 := cr_ c3_0
def c3_4 := cl_ c3_3
def c3_5 := cl_ c3_4
def r3_5 := co_ c3_5
def c3_7 := cr_ c3_4
def c3_8 := cl_ c3_7
def c3_11 := cr_ c3_8
def c3_12 := cr_ c3_7
def c3_13 := cr_ c3_3
def c3_14 := cl_ c3_13
def r3_14 := co_ c3_14
def c3_16 := cr_ c3_13
def c3_17 := cl_ c3_16
def r3_17 := co_ c3_17
def c3_19 := cr_ c3_16
def c3_20 := cl_ c3_19
def r3_20 := co_ c3_20
def c3_22 := cr_ c3_19
def c3_23 := cl_ c3_22
def c3_24 := cl_ c3_23
def r3_24 := co_ c3_24
def c3_26 := cr_ c3_23
def c3_27 := cl_ c3_26
def c3_30 := cr_ c3_27
def c3_31 := cr_ c3_26
def c3_32 := cr_ c3_22
def c3_33 := cl_ c3_32
def r3_33 := co_ c3_33
def c3_35 := cr_ c3_32
def c3_36 := cl_ c3_35
def r3_36 := co_ c3_36
def c3_38 := cr_ c3_35
def c3_39 := cl_ c3_38
def c3_40 := cl_ c3_39
def r3_40 := co_ c3_40
def c3_42 := cr_ c3_39
def c3_43 := cl_ c3_42
def c3_46 := cr_ c3_43
def c3_47 := cr_ c3_42
def c3_48 := cr_ c3_38
def c3_49 := cl_ c3_48
def r3_49 := co_ c3_49
def c3_51 := cr_ c3_48
def c3_52 := cl_ c3_51
def c3_55 := cr_ c3_52
def c3_56 := cl_ c3_55
def c3_57 := cl_ c3_56
def c3_58 := cl_ c3_57
def c3_61 := cr_ c3_58
def c3_62 := cl_ c3_61
def c3_63 := cr_ c3_61
def c3_64 := cr_ c3_57
def c3_65 := cl_ c3_64
def c3_66 := cl_ c3_65
def c3_67 := cl_ c3_66
def r3_67 := co_ c3_67
def c3_69 := cr_ c3_66
def c3_70 := cl_ c3_69
def r3_70 := co_ c3_70
def c3_72 := cr_ c3_69
def c3_73 := cl_ c3_72
def c3_74 := cl_ c3_73
def r3_74 := co_ c3_74
def c3_76 := cr_ c3_73
def c3_77 := cl_ c3_76
def c3_80 := cr_ c3_77
def c3_81 := cr_ c3_76
def c3_82 := cr_ c3_72
def c3_85 := cr_ c3_82
def c3_86 := cl_ c3_85
def c3_87 := cl_ c3_86
def r3_87 := co_ c3_87
def c3_89 := cr_ c3_86
def r3_89 := co_ c3_89
def c3_91 := cr_ c3_85
def c3_92 := cr_ c3_64
def r3_92 := co_ c3_92
def c3_94 := cr_ c3_51
def c3_95 := cl_ c3_94
def r3_95 := co_ c3_95
def c3_97 := cr_ c3_94
def c3_98 := cl_ c3_97
def r3_98 := co_ c3_98
def c3_100 := cr_ c3_97
def c3_101 := cl_ c3_100
def r3_101 := co_ c3_101
def c3_103 := cr_ c3_100

theorem S_towpathlaw06_LogfileSources {l_ : Slc} {asks : Slc} {w : World} {R : Bool → World → Prop} (h : F_towpathlaw06_LogfileSources l_ asks R w) : C_towpathlaw06_LogfileSources l_ asks w R := by
 unfold F_towpathlaw06_LogfileSources at h
 unfold C_towpathlaw06_LogfileSources
 refine Calls.mono (calls_of_wpE (args := [sv_ l_, sv_ asks]) (R := fun v w' => ∃ (r0 : Bool), v = Value.bool r0 ∧ R r0 w') Tryz.func3 (c := c3_0) (by kernel_rfl) 144 (by kernel_rfl) (by kernel_rfl) [(0, sv_ l_), (1, sv_ asks)] (by kernel_rfl) ?_) ?_
 · refine Zp c3_3 P1 [(0, sv_ l_), (1, sv_ asks)] ?_
   refine Zs c3_4 c3_13 ?_
   refine Zt r3_5 c3_7 ?_
   refine Zn P1 1 [(0, [], sv_ l_), (1, [], sv_ asks), (20, [], sv_ l_)] ?_
   refine Zm 8 #[sv_ l_] (some 21) (Calls.mono h ?_)
   rintro _ w1 ⟨v21, rfl, h⟩
   refine ⟨_, rfl, ?_⟩
   refine Zn P2 4 [(0, [], sv_ l_), (1, [], sv_ asks), (21, [], .int .i64 v21), (23, [], .int .i64 ((asks.len : Nat) : Int))] ?_
   refine Zw (some 24) (fun bb => .slice (some ⟨bb, 0, none⟩) 2 2) (Obj.cells ([.int .i64 v21, .int .i64 ((asks.len : Nat) : Int)]).toArray ty_int (0, 0)) (fun b_ w2 hb hw => ?_)
   replace h := h b_ w2 hb hw
   clear hb hw
   refine Zn [] 5 [(0, [], sv_ l_), (1, [], sv_ asks), (24, [], .slice (some ⟨b_, 0, none⟩) 2 2)] ?_
   refine Zm 7 #[.slice (some ⟨b_, 0, none⟩) 2 2] (some 25) (Calls.mono h ?_)
   rintro _ w3 ⟨v25, rfl, h⟩
   refine ⟨_, rfl, ?_⟩
   refine Ze [(0, sv_ l_), (1, sv_ asks), (25, .bool v25)] ?_
   change WpE _ _ c3_7 _ _ _
   refine Zc 25 v25 c3_8 c3_12 (fun hb => ?_) (fun hb => ?_)
   · replace h := h.1 hb
     refine Zp c3_11 P1 [(4, .bool true)] ?_
     refine wpE_ret (by kernel_rfl) ?_
     repeat (first | refine seqQ_ret ?_ | refine blockQ_ret ?_ | refine loopQ_ret ?_ | refine cutQ_ret ?_)
     exact retS (rs := [(ResultVar.tmp 4)]) (v := Value.bool true) (by kernel_rfl) (⟨by kernel_rfl, trivial⟩) ⟨true, rfl, h⟩
   · replace h := h.2 hb
     refine wpE_skip (by kernel_rfl) ?_
     change WpE _ _ c3_13 _ _ _
     refine Zt r3_14 c3_16 ?_
     refine Zn P1 1 [(0, [], sv_ l_), (1, [], sv_ asks), (26, [], sv_ l_)] ?_
     refine Zm 9 #[sv_ l_] (some 27) (Calls.mono h ?_)
     rintro _ w4 ⟨v27, rfl, h⟩
     refine ⟨_, rfl, ?_⟩
     refine Zf P1 [(0, sv_ l_), (1, sv_ asks), (5, sv_ v27)] ?_
     change WpE _ _ c3_16 _ _ _
     refine Zt r3_17 c3_19 ?_
     refine Zn P1 1 [(0, [], sv_ l_), (1, [], sv_ asks), (5, [], sv_ v27), (29, [], sv_ v27)] ?_
     refine Zm 10 #[sv_ v27] (some 30) (Calls.mono h ?_)
     rintro _ w5 ⟨s, e, rfl, h⟩
     refine ⟨_, rfl, ?_⟩
     refine Zf (Pl 5) [(0, sv_ l_), (1, sv_ asks), (5, sv_ v27), (6, .pointer s), (7, .int .i64 e)] ?_
     change WpE _ _ c3_19 _ _ _
     refine Zt r3_20 c3_22 ?_
     refine Zn P1 1 [(0, [], sv_ l_), (1, [], sv_ asks), (5, [], sv_ v27), (6, [], .pointer s), (7, [], .int .i64 e), (34, [], sv_ l_)] ?_
     refine Zm 11 #[sv_ l_] (some 35) (Calls.mono h ?_)
     rintro _ w6 ⟨r, f, rfl, h⟩
     refine ⟨_, rfl, ?_⟩
     refine Zf (Pl 5) [(0, sv_ l_), (1, sv_ asks), (5, sv_ v27), (6, .pointer s), (7, .int .i64 e), (8, .pointer r), (9, .int .i64 f)] ?_
     change WpE _ _ c3_22 _ _ _
     refine Zs c3_23 c3_32 ?_
     refine wpE_seq_cut (x := c3_24) (y := c3_26) (by kernel_rfl) (fun l w => ∃ (t53 : Bool), l = [(1, sv_ asks), (5, sv_ v27), (6, Value.pointer s), (8, Value.pointer r), (53, Value.bool t53)] ∧ F_towpathlaw06_LogfileSources_k0 asks R v27 s r t53 w) ?_ ?_
     · refine Zr r3_24 ?_
       refine Zn (Pl 5) 5 [(0, [], sv_ l_), (1, [], sv_ asks), (5, [], sv_ v27), (6, [], .pointer s), (8, [], .pointer r), (41, [], .bool (e != f)), (42, [(41, false)], .pointer s)] ?_
       refine reg_split 41 (e != f) (by kernel_rfl) (fun hb => ?_) (fun hb => ?_)
       · replace h := h.1 hb
         refine Zn [] 5 [(0, [], sv_ l_), (1, [], sv_ asks), (5, [], sv_ v27), (6, [], .pointer s), (8, [], .pointer r), (41, [], .bool true), (42, [], undef)] ?_
         refine Zf [.skip, .skip, .skip, .skip, .plain, .plain, .skip, .skip, .skip, .skip, .plain] [(1, sv_ asks), (5, sv_ v27), (6, .pointer s), (8, .pointer r), (53, .bool true)] ?_
         exact ⟨[(1, sv_ asks), (5, sv_ v27), (6, Value.pointer s), (8, Value.pointer r), (53, Value.bool true)], Sub.mk (by kernel_rfl), true, rfl, h⟩
       · replace h := h.2 hb
         refine Zn [] 5 [(0, [], sv_ l_), (1, [], sv_ asks), (5, [], sv_ v27), (6, [], .pointer s), (8, [], .pointer r), (41, [], .bool false), (42, [], .pointer s)] ?_
         refine Zn [] 5 [(0, [], sv_ l_), (1, [], sv_ asks), (5, [], sv_ v27), (6, [], .pointer s), (8, [], .pointer r), (41, [], .bool false), (42, [], .pointer s)] ?_
         refine reg_val (op := (Op.binOp BinOp.eql 27 (Operand.tmp 42) (Operand.const (Value.pointer none)) 27)) (ty := 4) (dst := some 43) (Value.bool s.isNone) (by kernel_rfl) (fun ww => run_ptr_eql_R (p := s) (by kernel_rfl) (by kernel_rfl) (by kernel_rfl) ww) ?_
         refine Zn [.sure] 7 [(0, [], sv_ l_), (1, [], sv_ asks), (5, [], sv_ v27), (6, [], .pointer s), (8, [], .pointer r), (41, [], .bool false), (43, [], .bool s.isNone), (44, [], .pointer r)] ?_
         refine reg_val (op := (Op.binOp BinOp.eql 31 (Operand.tmp 44) (Operand.const (Value.pointer none)) 31)) (ty := 4) (dst := some 45) (Value.bool r.isNone) (by kernel_rfl) (fun ww => run_ptr_eql_R (p := r) (by kernel_rfl) (by kernel_rfl) (by kernel_rfl) ww) ?_
         refine Zn [.sure, .plain, .plain, .plain, .plain] 13 [(1, [], sv_ asks), (5, [], sv_ v27), (6, [], .pointer s), (8, [], .pointer r), (48, [], .bool (!(s.isNone == r.isNone))), (49, [(48, false)], sv_ v27), (50, [(48, false)], sv_ l_)] ?_
         refine reg_split 48 (!(s.isNone == r.isNone)) (by kernel_rfl) (fun hb => ?_) (fun hb => ?_)
         · replace h := h.1 hb
           refine Zn [] 13 [(1, [], sv_ asks), (5, [], sv_ v27), (6, [], .pointer s), (8, [], .pointer r), (48, [], .bool true), (49, [], undef), (50, [], undef)] ?_
           refine Zf [.skip, .skip, .plain] [(1, sv_ asks), (5, sv_ v27), (6, .pointer s), (8, .pointer r), (53, .bool true)] ?_
           exact ⟨[(1, sv_ asks), (5, sv_ v27), (6, Value.pointer s), (8, Value.pointer r), (53, Value.bool true)], Sub.mk (by kernel_rfl), true, rfl, h⟩
         · replace h := h.2 hb
           refine Zn [] 13 [(1, [], sv_ asks), (5, [], sv_ v27), (6, [], .pointer s), (8, [], .pointer r), (48, [], .bool false), (49, [], sv_ v27), (50, [], sv_ l_)] ?_
           refine Zn [] 13 [(1, [], sv_ asks), (5, [], sv_ v27), (6, [], .pointer s), (8, [], .pointer r), (48, [], .bool false), (49, [], sv_ v27), (50, [], sv_ l_)] ?_
           refine Zm 12 #[sv_ v27, sv_ l_] (some 51) (Calls.mono h ?_)
           rintro _ w41 ⟨v51, rfl, h⟩
           refine ⟨_, rfl, ?_⟩
           refine Zf [.sure, .plain] [(1, sv_ asks), (5, sv_ v27), (6, .pointer s), (8, .pointer r), (53, .bool (!v51))] ?_
           exact ⟨[(1, sv_ asks), (5, sv_ v27), (6, Value.pointer s), (8, Value.pointer r), (53, Value.bool (!v51))], Sub.mk (by kernel_rfl), (!v51), rfl, h⟩
     · rintro _ w7 ⟨t53, rfl, h⟩
       unfold F_towpathlaw06_LogfileSources_k0 at h
       refine Zc 53 t53 c3_27 c3_31 (fun hb => ?_) (fun hb => ?_)
       · replace h := h.1 hb
         refine Zp c3_30 P1 [(4, .bool false)] ?_
         refine wpE_ret (by kernel_rfl) ?_
         repeat (first | refine seqQ_ret ?_ | refine blockQ_ret ?_ | refine loopQ_ret ?_ | refine cutQ_ret ?_)
         exact retS (rs := [(ResultVar.tmp 4)]) (v := Value.bool false) (by kernel_rfl) (⟨by kernel_rfl, trivial⟩) ⟨false, rfl, h⟩
       · replace h := h.2 hb
         refine wpE_skip (by kernel_rfl) ?_
         change WpE _ _ c3_32 _ _ _
         refine Zt r3_33 c3_35 ?_
         refine Zn P1 1 [(1, [], sv_ asks), (5, [], sv_ v27), (6, [], .pointer s), (8, [], .pointer r), (54, [], .agg #[.int .i64 0, .slice none 0 0, .slice none 0 0, .slice none 0 0, .slice none 0 0, .slice none 0 0, .slice none 0 0, .slice none 0 0, .slice none 0 0, .slice none 0 0, .slice none 0 0, .slice none 0 0])] ?_
         refine Zw (some 10) (fun bb => pv_ bb) (Obj.cells ([.int .i64 0, .slice none 0 0, .slice none 0 0, .slice none 0 0, .slice none 0 0, .slice none 0 0, .slice none 0 0, .slice none 0 0, .slice none 0 0, .slice none 0 0, .slice none 0 0, .slice none 0 0]).toArray ty_towpathlaw01_Book (0, 0)) (fun b_1 w8 hb hw => ?_)
         replace h := h b_1 w8 hb hw
         clear hb hw
         refine Zn [] 2 [(1, [], sv_ asks), (5, [], sv_ v27), (6, [], .pointer s), (8, [], .pointer r), (10, [], pv_ b_1), (54, [], .agg #[.int .i64 0, .slice none 0 0, .slice none 0 0, .slice none 0 0, .slice none 0 0, .slice none 0 0, .slice none 0 0, .slice none 0 0, .slice none 0 0, .slice none 0 0, .slice none 0 0, .slice none 0 0])] ?_
         obtain ⟨hc, h⟩ := h
         refine Zo 47 10 54 b_1 0 12 [.int .i64 0, .slice none 0 0, .slice none 0 0, .slice none 0 0, .slice none 0 0, .slice none 0 0, .slice none 0 0, .slice none 0 0, .slice none 0 0, .slice none 0 0, .slice none 0 0, .slice none 0 0] hc (fun w9 hw => ?_)
         replace h := h w9 hw
         clear hw
         refine Ze [(1, sv_ asks), (5, sv_ v27), (6, .pointer s), (8, .pointer r), (10, pv_ b_1)] ?_
         change WpE _ _ c3_35 _ _ _
         refine Zt r3_36 c3_38 ?_
         refine Zn P1 1 [(1, [], sv_ asks), (6, [], .pointer s), (8, [], .pointer r), (10, [], pv_ b_1), (55, [], sv_ v27)] ?_
         refine Zm 13 #[pv_ b_1, sv_ v27] (some 56) (Calls.mono h ?_)
         rintro _ w10 ⟨rfl, h⟩
         refine ⟨_, rfl, ?_⟩
         refine Ze [(1, sv_ asks), (6, .pointer s), (8, .pointer r), (10, pv_ b_1)] ?_
         change WpE _ _ c3_38 _ _ _
         refine Zs c3_39 c3_48 ?_
         refine Zt r3_40 c3_42 ?_
         refine Zn [] 0 [(1, [], sv_ asks), (6, [], .pointer s), (8, [], .pointer r), (10, [], pv_ b_1)] ?_
         refine Zm 14 #[pv_ b_1] (some 57) (Calls.mono h ?_)
         rintro _ w11 ⟨v57, rfl, h⟩
         refine ⟨_, rfl, ?_⟩
         refine Zf P1 [(1, sv_ asks), (6, .pointer s), (8, .pointer r), (58, .bool (!v57))] ?_
         change WpE _ _ c3_42 _ _ _
         refine Zc 58 (!v57) c3_43 c3_47 (fun hb => ?_) (fun hb => ?_)
         · replace h := h.1 hb
           refine Zp c3_46 P1 [(4, .bool false)] ?_
           refine wpE_ret (by kernel_rfl) ?_
           repeat (first | refine seqQ_ret ?_ | refine blockQ_ret ?_ | refine loopQ_ret ?_ | refine cutQ_ret ?_)
           exact retS (rs := [(ResultVar.tmp 4)]) (v := Value.bool false) (by kernel_rfl) (⟨by kernel_rfl, trivial⟩) ⟨false, rfl, h⟩
         · replace h := h.2 hb
           refine wpE_skip (by kernel_rfl) ?_
           change WpE _ _ c3_48 _ _ _
           refine Zt r3_49 c3_51 ?_
           refine Zn P1 1 [(1, [], sv_ asks), (6, [], .pointer s), (8, [], .pointer r), (59, [], .agg #[.int .i64 0, .slice none 0 0, .slice none 0 0, .slice none 0 0, .slice none 0 0, .slice none 0 0, .slice none 0 0, .slice none 0 0, .slice none 0 0, .slice none 0 0, .slice none 0 0, .slice none 0 0])] ?_
           refine Zw (some 11) (fun bb => pv_ bb) (Obj.cells ([.int .i64 0, .slice none 0 0, .slice none 0 0, .slice none 0 0, .slice none 0 0, .slice none 0 0, .slice none 0 0, .slice none 0 0, .slice none 0 0, .slice none 0 0, .slice none 0 0, .slice none 0 0]).toArray ty_towpathlaw01_Book (0, 0)) (fun b_2 w12 hb hw => ?_)
           replace h := h b_2 w12 hb hw
           clear hb hw
           refine Zn [] 2 [(1, [], sv_ asks), (6, [], .pointer s), (8, [], .pointer r), (11, [], pv_ b_2), (59, [], .agg #[.int .i64 0, .slice none 0 0, .slice none 0 0, .slice none 0 0, .slice none 0 0, .slice none 0 0, .slice none 0 0, .slice none 0 0, .slice none 0 0, .slice none 0 0, .slice none 0 0, .slice none 0 0])] ?_
           obtain ⟨hc, h⟩ := h
           refine Zo 47 11 59 b_2 0 12 [.int .i64 0, .slice none 0 0, .slice none 0 0, .slice none 0 0, .slice none 0 0, .slice none 0 0, .slice none 0 0, .slice none 0 0, .slice none 0 0, .slice none 0 0, .slice none 0 0, .slice none 0 0] hc (fun w13 hw => ?_)
           replace h := h w13 hw
           clear hw
           refine Ze [(1, sv_ asks), (6, .pointer s), (8, .pointer r), (11, pv_ b_2)] ?_
           change WpE _ _ c3_51 _ _ _
           refine Zs c3_52 c3_94 ?_
           refine Zp c3_55 P1 [(1, sv_ asks), (6, .pointer s), (8, .pointer r), (11, pv_ b_2), (12, .int .i64 0)] ?_
           refine Zb 0 c3_56 ?_
           obtain ⟨I, μ, h0, hr⟩ := h
           refine wpE_loop (x := c3_57) (by kernel_rfl) (fun m l w => ∃ (i : Int), l = [(1, sv_ asks), (6, Value.pointer s), (8, Value.pointer r), (11, pv_ b_2), (12, Value.int .i64 i)] ∧ I i w ∧ μ i w = m) (l' := [(1, sv_ asks), (6, Value.pointer s), (8, Value.pointer r), (11, pv_ b_2), (12, Value.int .i64 0)]) (Sub.mk (by kernel_rfl)) ⟨0, rfl, h0, rfl⟩ ?_
           rintro _ _ w14 ⟨i, rfl, hI, rfl⟩
           obtain ⟨again_, again__h, h⟩ : ∃ again_ : Int → World → Prop, (∀ i' w', again_ i' w' → I i' w' ∧ μ i' w' < μ i w14) ∧ F_towpathlaw06_LogfileSources_L1 asks R s r b_2 again_ i w14 := ⟨_, fun _ _ h => h, hr i w14 hI⟩
           clear h0 hI
           unfold F_towpathlaw06_LogfileSources_L1 at h
           refine Zs c3_58 c3_64 ?_
           refine Zp c3_61 P4 [(1, sv_ asks), (6, .pointer s), (8, .pointer r), (11, pv_ b_2), (12, .int .i64 i), (63, .bool (decide (i < ((asks.len : Nat) : Int))))] ?_
           refine Zc 63 (decide (i < ((asks.len : Nat) : Int))) c3_62 c3_63 (fun hb => ?_) (fun hb => ?_)
           · replace h := h.1 hb
             refine wpE_skip (by kernel_rfl) ?_
             change WpE _ _ c3_64 _ _ _
             refine wpE_seq_cut (x := c3_65) (y := c3_92) (by kernel_rfl) (fun l w => l = [(1, sv_ asks), (6, Value.pointer s), (8, Value.pointer r), (11, pv_ b_2), (12, Value.int .i64 i)] ∧ F_towpathlaw06_LogfileSources_k2 i again_ w) ?_ ?_
             · refine Zb 1 c3_66 ?_
               refine Zt r3_67 c3_69 ?_
               refine Zn P3 3 [(1, [], sv_ asks), (6, [], .pointer s), (8, [], .pointer r), (11, [], pv_ b_2), (12, [], .int .i64 i), (67, [], .pointer s), (68, [], sv_ asks), (69, [], .int .i64 i)] ?_
               obtain ⟨hp_13, h⟩ := h
               refine Zv (fun pp => [(1, [], sv_ asks), (6, [], .pointer s), (8, [], .pointer r), (11, [], pv_ b_2), (12, [], .int .i64 i), (67, [], .pointer s), (68, [], .slice pp asks.len asks.cap), (69, [], .int .i64 i)]) hp_13 ?_
               obtain ⟨h0, h1, h⟩ := h
               refine Zi 23 3 68 69 (pblk asks.ptr) (poff asks.ptr) asks.len asks.cap i 70 0 h0 h1 ?_
               refine Zn [] 4 [(1, [], sv_ asks), (6, [], .pointer s), (8, [], .pointer r), (11, [], pv_ b_2), (12, [], .int .i64 i), (67, [], .pointer s), (70, [], .pointer (some ⟨(pblk asks.ptr), (poff asks.ptr) + i.toNat, none⟩))] ?_
               obtain ⟨v71, hc, h⟩ := h
               refine Zl 3 70 (pblk asks.ptr) ((poff asks.ptr) + i.toNat) 3 71 hc ?_
               refine Zn [] 5 [(1, [], sv_ asks), (6, [], .pointer s), (8, [], .pointer r), (11, [], pv_ b_2), (12, [], .int .i64 i), (67, [], .pointer s), (71, [], .int .i64 v71)] ?_
               refine Zm 15 #[.pointer s, .int .i64 v71] (some 72) (Calls.mono h ?_)
               rintro _ w16 ⟨v72, g, rfl, h⟩
               refine ⟨_, rfl, ?_⟩
               refine Zn P3 9 [(1, [], sv_ asks), (6, [], .pointer s), (8, [], .pointer r), (11, [], pv_ b_2), (12, [], .int .i64 i), (73, [], .agg #[.int .i64 v72.Number, sv_ v72.Writes]), (74, [], .int .i64 g)] ?_
               refine Zw (some 13) (fun bb => pv_ bb) (Obj.cells ([.int .i64 0, .slice none 0 0]).toArray ty_api_Txn (0, 0)) (fun b_3 w17 hb hw => ?_)
               replace h := h b_3 w17 hb hw
               clear hb hw
               refine Zn [] 10 [(1, [], sv_ asks), (6, [], .pointer s), (8, [], .pointer r), (11, [], pv_ b_2), (12, [], .int .i64 i), (13, [], pv_ b_3), (73, [], .agg #[.int .i64 v72.Number, sv_ v72.Writes]), (74, [], .int .i64 g)] ?_
               obtain ⟨hc, h⟩ := h
               refine Zo 52 13 73 b_3 0 2 [.int .i64 v72.Number, sv_ v72.Writes] hc (fun w18 hw => ?_)
               replace h := h w18 hw
               clear hw
               refine Zf P1 [(1, sv_ asks), (6, .pointer s), (8, .pointer r), (11, pv_ b_2), (12, .int .i64 i), (13, pv_ b_3), (14, .int .i64 g)] ?_
               change WpE _ _ c3_69 _ _ _
               refine Zt r3_70 c3_72 ?_
               refine Zn P3 3 [(1, [], sv_ asks), (6, [], .pointer s), (8, [], .pointer r), (11, [], pv_ b_2), (12, [], .int .i64 i), (13, [], pv_ b_3), (14, [], .int .i64 g), (76, [], .pointer r), (77, [], sv_ asks), (78, [], .int .i64 i)] ?_
               obtain ⟨hp_15, h⟩ := h
               refine Zv (fun pp => [(1, [], sv_ asks), (6, [], .pointer s), (8, [], .pointer r), (11, [], pv_ b_2), (12, [], .int .i64 i), (13, [], pv_ b_3), (14, [], .int .i64 g), (76, [], .pointer r), (77, [], .slice pp asks.len asks.cap), (78, [], .int .i64 i)]) hp_15 ?_
               obtain ⟨h0, h1, h⟩ := h
               refine Zi 23 3 77 78 (pblk asks.ptr) (poff asks.ptr) asks.len asks.cap i 79 0 h0 h1 ?_
               refine Zn [] 4 [(1, [], sv_ asks), (6, [], .pointer s), (8, [], .pointer r), (11, [], pv_ b_2), (12, [], .int .i64 i), (13, [], pv_ b_3), (14, [], .int .i64 g), (76, [], .pointer r), (79, [], .pointer (some ⟨(pblk asks.ptr), (poff asks.ptr) + i.toNat, none⟩))] ?_
               obtain ⟨v80, hc, h⟩ := h
               refine Zl 3 79 (pblk asks.ptr) ((poff asks.ptr) + i.toNat) 3 80 hc ?_
               refine Zn [] 5 [(1, [], sv_ asks), (6, [], .pointer s), (8, [], .pointer r), (11, [], pv_ b_2), (12, [], .int .i64 i), (13, [], pv_ b_3), (14, [], .int .i64 g), (76, [], .pointer r), (80, [], .int .i64 v80)] ?_
               refine Zm 16 #[.pointer r, .int .i64 v80] (some 81) (Calls.mono h ?_)
               rintro _ w19 ⟨v81, h_, rfl, h⟩
               refine ⟨_, rfl, ?_⟩
               refine Zn P3 9 [(1, [], sv_ asks), (6, [], .pointer s), (8, [], .pointer r), (11, [], pv_ b_2), (12, [], .int .i64 i), (13, [], pv_ b_3), (14, [], .int .i64 g), (82, [], .agg #[.int .i64 v81.Number, sv_ v81.Writes]), (83, [], .int .i64 h_)] ?_
               refine Zw (some 15) (fun bb => pv_ bb) (Obj.cells ([.int .i64 0, .slice none 0 0]).toArray ty_api_Txn (0, 0)) (fun b_4 w20 hb hw => ?_)
               replace h := h b_4 w20 hb hw
               clear hb hw
               refine Zn [] 10 [(1, [], sv_ asks), (6, [], .pointer s), (8, [], .pointer r), (11, [], pv_ b_2), (12, [], .int .i64 i), (13, [], pv_ b_3), (14, [], .int .i64 g), (15, [], pv_ b_4), (82, [], .agg #[.int .i64 v81.Number, sv_ v81.Writes]), (83, [], .int .i64 h_)] ?_
               obtain ⟨hc, h⟩ := h
               refine Zo 52 15 82 b_4 0 2 [.int .i64 v81.Number, sv_ v81.Writes] hc (fun w21 hw => ?_)
               replace h := h w21 hw
               clear hw
               refine Zf P1 [(1, sv_ asks), (6, .pointer s), (8, .pointer r), (11, pv_ b_2), (12, .int .i64 i), (13, pv_ b_3), (14, .int .i64 g), (15, pv_ b_4), (16, .int .i64 h_)] ?_
               change WpE _ _ c3_72 _ _ _
               refine Zs c3_73 c3_82 ?_
               refine wpE_seq_cut (x := c3_74) (y := c3_76) (by kernel_rfl) (fun l w => ∃ (t99 : Bool), l = [(1, sv_ asks), (6, Value.pointer s), (8, Value.pointer r), (11, pv_ b_2), (12, Value.int .i64 i), (13, pv_ b_3), (99, Value.bool t99)] ∧ F_towpathlaw06_LogfileSources_k3 R s b_2 i again_ b_3 t99 w) ?_ ?_
               · refine Zr r3_74 ?_
                 refine Zn P4 4 [(1, [], sv_ asks), (6, [], .pointer s), (8, [], .pointer r), (11, [], pv_ b_2), (12, [], .int .i64 i), (13, [], pv_ b_3), (15, [], pv_ b_4), (87, [], .bool (g != h_))] ?_
                 refine reg_split 87 (g != h_) (by kernel_rfl) (fun hb => ?_) (fun hb => ?_)
                 · replace h := h.1 hb
                   refine Zn [] 4 [(1, [], sv_ asks), (6, [], .pointer s), (8, [], .pointer r), (11, [], pv_ b_2), (12, [], .int .i64 i), (13, [], pv_ b_3), (15, [], pv_ b_4), (87, [], .bool true)] ?_
                   refine Zf [.skip, .skip, .skip, .skip, .plain, .plain, .skip, .skip, .skip, .skip, .skip, .plain] [(1, sv_ asks), (6, .pointer s), (8, .pointer r), (11, pv_ b_2), (12, .int .i64 i), (13, pv_ b_3), (99, .bool true)] ?_
                   exact ⟨[(1, sv_ asks), (6, Value.pointer s), (8, Value.pointer r), (11, pv_ b_2), (12, Value.int .i64 i), (13, pv_ b_3), (99, Value.bool true)], Sub.mk (by kernel_rfl), true, rfl, h⟩
                 · replace h := h.2 hb
                   refine Zn [] 4 [(1, [], sv_ asks), (6, [], .pointer s), (8, [], .pointer r), (11, [], pv_ b_2), (12, [], .int .i64 i), (13, [], pv_ b_3), (15, [], pv_ b_4), (87, [], .bool false)] ?_
                   refine Zn [] 4 [(1, [], sv_ asks), (6, [], .pointer s), (8, [], .pointer r), (11, [], pv_ b_2), (12, [], .int .i64 i), (13, [], pv_ b_3), (15, [], pv_ b_4), (87, [], .bool false)] ?_
                   obtain ⟨v88, hc, h⟩ := h
                   refine reg_loadN (t := 52) (a := (Operand.tmp 13)) (b := b_3) (o := 0) (ty := 52) (dst := some 88) [Value.int .i64 v88.Number, sv_ v88.Writes] (by kernel_rfl) (by kernel_rfl) (by kernel_rfl) (k := 2) (by kernel_rfl) (by kernel_rfl) hc ?_
                   refine Zn [] 5 [(1, [], sv_ asks), (6, [], .pointer s), (8, [], .pointer r), (11, [], pv_ b_2), (12, [], .int .i64 i), (13, [], pv_ b_3), (15, [], pv_ b_4), (87, [], .bool false), (88, [], .agg #[.int .i64 v88.Number, sv_ v88.Writes])] ?_
                   obtain ⟨v89, hc, h⟩ := h
                   refine reg_loadN (t := 52) (a := (Operand.tmp 15)) (b := b_4) (o := 0) (ty := 52) (dst := some 89) [Value.int .i64 v89.Number, sv_ v89.Writes] (by kernel_rfl) (by kernel_rfl) (by kernel_rfl) (k := 2) (by kernel_rfl) (by kernel_rfl) hc ?_
                   refine Zn [] 6 [(1, [], sv_ asks), (6, [], .pointer s), (8, [], .pointer r), (11, [], pv_ b_2), (12, [], .int .i64 i), (13, [], pv_ b_3), (87, [], .bool false), (88, [], .agg #[.int .i64 v88.Number, sv_ v88.Writes]), (89, [], .agg #[.int .i64 v89.Number, sv_ v89.Writes])] ?_
                   refine Zm 17 #[.agg #[.int .i64 v88.Number, sv_ v88.Writes], .agg #[.int .i64 v89.Number, sv_ v89.Writes]] (some 90) (Calls.mono h ?_)
                   rintro _ w26 ⟨v90, rfl, h⟩
                   refine ⟨_, rfl, ?_⟩
                   refine Zn [.sure, .plain, .plain, .plain] 11 [(1, [], sv_ asks), (6, [], .pointer s), (8, [], .pointer r), (11, [], pv_ b_2), (12, [], .int .i64 i), (13, [], pv_ b_3), (93, [], .bool (!v90)), (94, [(93, false)], .pointer s)] ?_
                   refine reg_split 93 (!v90) (by kernel_rfl) (fun hb => ?_) (fun hb => ?_)
                   · replace h := h.1 hb
                     refine Zn [] 11 [(1, [], sv_ asks), (6, [], .pointer s), (8, [], .pointer r), (11, [], pv_ b_2), (12, [], .int .i64 i), (13, [], pv_ b_3), (93, [], .bool true), (94, [], undef)] ?_
                     refine Zf [.skip, .skip, .skip, .skip, .plain] [(1, sv_ asks), (6, .pointer s), (8, .pointer r), (11, pv_ b_2), (12, .int .i64 i), (13, pv_ b_3), (99, .bool true)] ?_
                     exact ⟨[(1, sv_ asks), (6, Value.pointer s), (8, Value.pointer r), (11, pv_ b_2), (12, Value.int .i64 i), (13, pv_ b_3), (99, Value.bool true)], Sub.mk (by kernel_rfl), true, rfl, h⟩
                   · replace h := h.2 hb
                     refine Zn [] 11 [(1, [], sv_ asks), (6, [], .pointer s), (8, [], .pointer r), (11, [], pv_ b_2), (12, [], .int .i64 i), (13, [], pv_ b_3), (93, [], .bool false), (94, [], .pointer s)] ?_
                     refine Zn [] 11 [(1, [], sv_ asks), (6, [], .pointer s), (8, [], .pointer r), (11, [], pv_ b_2), (12, [], .int .i64 i), (13, [], pv_ b_3), (93, [], .bool false), (94, [], .pointer s)] ?_
                     refine Zm 18 #[.pointer s] (some 95) (Calls.mono h ?_)
                     rintro _ w27 ⟨v95, rfl, h⟩
                     refine ⟨_, rfl, ?_⟩
                     refine Zn [.sure] 13 [(1, [], sv_ asks), (6, [], .pointer s), (8, [], .pointer r), (11, [], pv_ b_2), (12, [], .int .i64 i), (13, [], pv_ b_3), (93, [], .bool false), (95, [], .int .i64 v95), (96, [], .pointer r)] ?_
                     refine Zm 19 #[.pointer r] (some 97) (Calls.mono h ?_)
                     rintro _ w28 ⟨v97, rfl, h⟩
                     refine ⟨_, rfl, ?_⟩
                     refine Zf [.sure, .plain] [(1, sv_ asks), (6, .pointer s), (8, .pointer r), (11, pv_ b_2), (12, .int .i64 i), (13, pv_ b_3), (99, .bool (v95 != v97))] ?_
                     exact ⟨[(1, sv_ asks), (6, Value.pointer s), (8, Value.pointer r), (11, pv_ b_2), (12, Value.int .i64 i), (13, pv_ b_3), (99, Value.bool (v95 != v97))], Sub.mk (by kernel_rfl), (v95 != v97), rfl, h⟩
               · rintro _ w22 ⟨t99, rfl, h⟩
                 unfold F_towpathlaw06_LogfileSources_k3 at h
                 refine Zc 99 t99 c3_77 c3_81 (fun hb => ?_) (fun hb => ?_)
                 · replace h := h.1 hb
                   refine Zp c3_80 P1 [(4, .bool false)] ?_
                   refine wpE_ret (by kernel_rfl) ?_
                   repeat (first | refine seqQ_ret ?_ | refine blockQ_ret ?_ | refine loopQ_ret ?_ | refine cutQ_ret ?_)
                   exact retS (rs := [(ResultVar.tmp 4)]) (v := Value.bool false) (by kernel_rfl) (⟨by kernel_rfl, trivial⟩) ⟨false, rfl, h⟩
                 · replace h := h.2 hb
                   refine wpE_skip (by kernel_rfl) ?_
                   change WpE _ _ c3_82 _ _ _
                   refine Zp c3_85 P2 [(1, sv_ asks), (6, .pointer s), (8, .pointer r), (11, pv_ b_2), (12, .int .i64 i), (13, pv_ b_3), (101, .bool (decide (i < 30)))] ?_
                   refine Zc 101 (decide (i < 30)) c3_86 c3_91 (fun hb => ?_) (fun hb => ?_)
                   · replace h := h.1 hb
                     refine Zt r3_87 c3_89 ?_
                     refine Zn [] 0 [(1, [], sv_ asks), (6, [], .pointer s), (8, [], .pointer r), (11, [], pv_ b_2), (12, [], .int .i64 i), (13, [], pv_ b_3)] ?_
                     obtain ⟨v102, hc, h⟩ := h
                     refine reg_loadN (t := 52) (a := (Operand.tmp 13)) (b := b_3) (o := 0) (ty := 52) (dst := some 102) [Value.int .i64 v102.Number, sv_ v102.Writes] (by kernel_rfl) (by kernel_rfl) (by kernel_rfl) (k := 2) (by kernel_rfl) (by kernel_rfl) hc ?_
                     refine Zn [] 1 [(1, [], sv_ asks), (6, [], .pointer s), (8, [], .pointer r), (11, [], pv_ b_2), (12, [], .int .i64 i), (102, [], .agg #[.int .i64 v102.Number, sv_ v102.Writes])] ?_
                     refine Zm 20 #[pv_ b_2, .agg #[.int .i64 v102.Number, sv_ v102.Writes]] (some 103) (Calls.mono h ?_)
                     rintro _ w23 ⟨rfl, h⟩
                     refine ⟨_, rfl, ?_⟩
                     refine Ze [(1, sv_ asks), (6, .pointer s), (8, .pointer r), (11, pv_ b_2), (12, .int .i64 i)] ?_
                     change WpE _ _ c3_89 _ _ _
                     refine Zr r3_89 ?_
                     refine Zn P1 1 [(1, [], sv_ asks), (6, [], .pointer s), (8, [], .pointer r), (11, [], pv_ b_2), (12, [], .int .i64 i), (104, [], .pointer s)] ?_
                     refine Zm 22 #[.pointer s] (some 105) (Calls.mono h ?_)
                     rintro _ w24 ⟨v105, rfl, h⟩
                     refine ⟨_, rfl, ?_⟩
                     refine Zn [] 2 [(1, [], sv_ asks), (6, [], .pointer s), (8, [], .pointer r), (11, [], pv_ b_2), (12, [], .int .i64 i), (105, [], sv_ v105)] ?_
                     refine Zm 21 #[pv_ b_2, sv_ v105] (some 106) (Calls.mono h ?_)
                     rintro _ w25 ⟨rfl, h⟩
                     refine ⟨_, rfl, ?_⟩
                     refine Ze [(1, sv_ asks), (6, .pointer s), (8, .pointer r), (11, pv_ b_2), (12, .int .i64 i)] ?_
                     exact ⟨[(1, sv_ asks), (6, Value.pointer s), (8, Value.pointer r), (11, pv_ b_2), (12, Value.int .i64 i)], Sub.mk (by kernel_rfl), rfl, h⟩
                   · replace h := h.2 hb
                     refine wpE_skip (by kernel_rfl) ?_
                     exact ⟨[(1, sv_ asks), (6, Value.pointer s), (8, Value.pointer r), (11, pv_ b_2), (12, Value.int .i64 i)], Sub.mk (by kernel_rfl), rfl, h⟩
             · rintro _ w15 ⟨rfl, h⟩
               unfold F_towpathlaw06_LogfileSources_k2 at h
               refine Zr r3_92 ?_
               refine Zf P3 [(1, sv_ asks), (6, .pointer s), (8, .pointer r), (11, pv_ b_2), (12, .int .i64 (IntKind.i64.wrap (i + 1)))] ?_
               have hb_ := again__h _ _ h
               exact ⟨_, hb_.2, [(1, sv_ asks), (6, Value.pointer s), (8, Value.pointer r), (11, pv_ b_2), (12, Value.int .i64 (IntKind.i64.wrap (i + 1)))], Sub.mk (by kernel_rfl), (IntKind.i64.wrap (i + 1)), rfl, hb_.1, rfl⟩
           · replace h := h.2 hb
             refine wpE_exit (id := 0) (by kernel_rfl) ?_
             change WpE _ _ c3_94 _ _ _
             refine Zt r3_95 c3_97 ?_
             refine Zn P1 1 [(6, [], .pointer s), (8, [], .pointer r), (11, [], pv_ b_2), (107, [], .agg #[.bool false, .slice none 0 0, .slice none 0 0])] ?_
             refine Zw (some 108) (fun bb => pv_ bb) (Obj.cells ([.bool false, .slice none 0 0, .slice none 0 0]).toArray ty_logfile_Source (0, 0)) (fun b_5 w29 hb hw => ?_)
             replace h := h b_5 w29 hb hw
             clear hb hw
             refine Zf P1 [(6, .pointer s), (8, .pointer r), (11, pv_ b_2), (17, pv_ b_5)] ?_
             change WpE _ _ c3_97 _ _ _
             refine Zt r3_98 c3_100 ?_
             refine Zn P1 1 [(6, [], .pointer s), (8, [], .pointer r), (11, [], pv_ b_2), (17, [], pv_ b_5), (110, [], pv_ b_5)] ?_
             refine Zm 15 #[pv_ b_5, .int .i64 1] (some 111) (Calls.mono h ?_)
             rintro _ w30 ⟨v111, n_, rfl, h⟩
             refine ⟨_, rfl, ?_⟩
             refine Zn P3 5 [(6, [], .pointer s), (8, [], .pointer r), (11, [], pv_ b_2), (17, [], pv_ b_5), (112, [], .agg #[.int .i64 v111.Number, sv_ v111.Writes]), (113, [], .int .i64 n_)] ?_
             refine Zw (some 18) (fun bb => pv_ bb) (Obj.cells ([.int .i64 0, .slice none 0 0]).toArray ty_api_Txn (0, 0)) (fun b_6 w31 hb hw => ?_)
             replace h := h b_6 w31 hb hw
             clear hb hw
             refine Zn [] 6 [(6, [], .pointer s), (8, [], .pointer r), (11, [], pv_ b_2), (17, [], pv_ b_5), (18, [], pv_ b_6), (112, [], .agg #[.int .i64 v111.Number, sv_ v111.Writes]), (113, [], .int .i64 n_)] ?_
             obtain ⟨hc, h⟩ := h
             refine Zo 52 18 112 b_6 0 2 [.int .i64 v111.Number, sv_ v111.Writes] hc (fun w32 hw => ?_)
             replace h := h w32 hw
             clear hw
             refine Zf P1 [(6, .pointer s), (8, .pointer r), (11, pv_ b_2), (17, pv_ b_5), (19, .int .i64 n_)] ?_
             change WpE _ _ c3_100 _ _ _
             refine Zt r3_101 c3_103 ?_
             refine Zn [] 0 [(6, [], .pointer s), (8, [], .pointer r), (11, [], pv_ b_2), (17, [], pv_ b_5), (19, [], .int .i64 n_)] ?_
             refine Zm 14 #[pv_ b_2] (some 114) (Calls.mono h ?_)
             rintro _ w33 ⟨v114, rfl, h⟩
             refine ⟨_, rfl, ?_⟩
             refine Zn P2 3 [(6, [], .pointer s), (8, [], .pointer r), (17, [], pv_ b_5), (19, [], .int .i64 n_), (115, [], .bool v114), (116, [(115, true)], .pointer s)] ?_
             refine reg_split 115 v114 (by kernel_rfl) (fun hb => ?_) (fun hb => ?_)
             · replace h := h.1 hb
               refine Zn [] 3 [(6, [], .pointer s), (8, [], .pointer r), (17, [], pv_ b_5), (19, [], .int .i64 n_), (115, [], .bool true), (116, [], .pointer s)] ?_
               refine Zn [] 3 [(6, [], .pointer s), (8, [], .pointer r), (17, [], pv_ b_5), (19, [], .int .i64 n_), (115, [], .bool true), (116, [], .pointer s)] ?_
               refine Zm 22 #[.pointer s] (some 117) (Calls.mono h ?_)
               rintro _ w34 ⟨v117, rfl, h⟩
               refine ⟨_, rfl, ?_⟩
               refine Zn [.sure] 5 [(6, [], .pointer s), (8, [], .pointer r), (17, [], pv_ b_5), (19, [], .int .i64 n_), (115, [], .bool true), (117, [], sv_ v117), (118, [], .pointer r)] ?_
               refine Zm 24 #[.pointer r] (some 119) (Calls.mono h ?_)
               rintro _ w35 ⟨v119, rfl, h⟩
               refine ⟨_, rfl, ?_⟩
               refine Zn [] 6 [(6, [], .pointer s), (8, [], .pointer r), (17, [], pv_ b_5), (19, [], .int .i64 n_), (115, [], .bool true), (117, [], sv_ v117), (119, [], sv_ v119)] ?_
               refine Zm 23 #[sv_ v117, sv_ v119] (some 120) (Calls.mono h ?_)
               rintro _ w36 ⟨v120, rfl, h⟩
               refine ⟨_, rfl, ?_⟩
               refine Zn P3 10 [(8, [], .pointer r), (17, [], pv_ b_5), (19, [], .int .i64 n_), (122, [], .bool v120), (123, [(122, true)], .pointer s)] ?_
               refine reg_split 122 v120 (by kernel_rfl) (fun hb => ?_) (fun hb => ?_)
               · replace h := h.1 hb
                 refine Zn [] 10 [(8, [], .pointer r), (17, [], pv_ b_5), (19, [], .int .i64 n_), (122, [], .bool true), (123, [], .pointer s)] ?_
                 refine Zn [] 10 [(8, [], .pointer r), (17, [], pv_ b_5), (19, [], .int .i64 n_), (122, [], .bool true), (123, [], .pointer s)] ?_
                 refine Zm 18 #[.pointer s] (some 124) (Calls.mono h ?_)
                 rintro _ w37 ⟨v124, rfl, h⟩
                 refine ⟨_, rfl, ?_⟩
                 refine Zn [.sure] 12 [(17, [], pv_ b_5), (19, [], .int .i64 n_), (122, [], .bool true), (124, [], .int .i64 v124), (125, [], .pointer r)] ?_
                 refine Zm 19 #[.pointer r] (some 126) (Calls.mono h ?_)
                 rintro _ w38 ⟨v126, rfl, h⟩
                 refine ⟨_, rfl, ?_⟩
                 refine Zn [.sure, .plain, .plain, .plain, .plain, .pick, .plain, .plain] 21 [(17, [], pv_ b_5), (133, [], .bool ((v124 == v126) && (n_ == 2))), (134, [(133, true)], pv_ b_5)] ?_
                 refine reg_split 133 ((v124 == v126) && (n_ == 2)) (by kernel_rfl) (fun hb => ?_) (fun hb => ?_)
                 · replace h := h.1 hb
                   refine Zn [] 21 [(17, [], pv_ b_5), (133, [], .bool true), (134, [], pv_ b_5)] ?_
                   refine Zn [] 21 [(17, [], pv_ b_5), (133, [], .bool true), (134, [], pv_ b_5)] ?_
                   refine Zm 18 #[pv_ b_5] (some 135) (Calls.mono h ?_)
                   rintro _ w39 ⟨v135, rfl, h⟩
                   refine ⟨_, rfl, ?_⟩
                   refine Zn [.sure, .plain, .plain, .plain] 26 [(138, [], .bool (v135 == 0)), (139, [(138, true)], pv_ b_5)] ?_
                   refine reg_split 138 (v135 == 0) (by kernel_rfl) (fun hb => ?_) (fun hb => ?_)
                   · replace h := h.1 hb
                     refine Zn [] 26 [(138, [], .bool true), (139, [], pv_ b_5)] ?_
                     refine Zn [] 26 [(138, [], .bool true), (139, [], pv_ b_5)] ?_
                     refine Zm 22 #[pv_ b_5] (some 140) (Calls.mono h ?_)
                     rintro _ w40 ⟨v140, rfl, h⟩
                     refine ⟨_, rfl, ?_⟩
                     refine Zf [.sure, .sure, .plain, .plain] [(4, .bool (((v140.len : Nat) : Int) == 0))] ?_
                     change WpE _ _ c3_103 _ _ _
                     refine wpE_ret (by kernel_rfl) ?_
                     repeat (first | refine seqQ_ret ?_ | refine blockQ_ret ?_ | refine loopQ_ret ?_ | refine cutQ_ret ?_)
                     exact retS (rs := [(ResultVar.tmp 4)]) (v := Value.bool (((v140.len : Nat) : Int) == 0)) (by kernel_rfl) (⟨by kernel_rfl, trivial⟩) ⟨(((v140.len : Nat) : Int) == 0), rfl, h⟩
                   · replace h := h.2 hb
                     refine Zn [] 26 [(138, [], .bool false), (139, [], undef)] ?_
                     refine Zf [.skip, .skip, .skip, .plain, .plain] [(4, .bool false)] ?_
                     change WpE _ _ c3_103 _ _ _
                     refine wpE_ret (by kernel_rfl) ?_
                     repeat (first | refine seqQ_ret ?_ | refine blockQ_ret ?_ | refine loopQ_ret ?_ | refine cutQ_ret ?_)
                     exact retS (rs := [(ResultVar.tmp 4)]) (v := Value.bool false) (by kernel_rfl) (⟨by kernel_rfl, trivial⟩) ⟨false, rfl, h⟩
                 · replace h := h.2 hb
                   refine Zn [] 21 [(17, [], pv_ b_5), (133, [], .bool false), (134, [], undef)] ?_
                   refine Zf [.skip, .skip, .plain, .plain, .skip, .skip, .skip, .skip, .plain, .plain] [(4, .bool false)] ?_
                   change WpE _ _ c3_103 _ _ _
                   refine wpE_ret (by kernel_rfl) ?_
                   repeat (first | refine seqQ_ret ?_ | refine blockQ_ret ?_ | refine loopQ_ret ?_ | refine cutQ_ret ?_)
                   exact retS (rs := [(ResultVar.tmp 4)]) (v := Value.bool false) (by kernel_rfl) (⟨by kernel_rfl, trivial⟩) ⟨false, rfl, h⟩
               · replace h := h.2 hb
                 refine Zn [] 10 [(8, [], .pointer r), (17, [], pv_ b_5), (19, [], .int .i64 n_), (122, [], .bool false), (123, [], undef)] ?_
                 refine Zf [.skip, .skip, .skip, .skip, .plain, .plain, .skip, .skip, .plain, .plain, .skip, .skip, .skip, .plain, .plain, .skip, .skip, .skip, .skip, .plain, .plain] [(4, .bool false)] ?_
                 change WpE _ _ c3_103 _ _ _
                 refine wpE_ret (by kernel_rfl) ?_
                 repeat (first | refine seqQ_ret ?_ | refine blockQ_ret ?_ | refine loopQ_ret ?_ | refine cutQ_ret ?_)
                 exact retS (rs := [(ResultVar.tmp 4)]) (v := Value.bool false) (by kernel_rfl) (⟨by kernel_rfl, trivial⟩) ⟨false, rfl, h⟩
             · replace h := h.2 hb
               refine Zn [] 3 [(6, [], .pointer s), (8, [], .pointer r), (17, [], pv_ b_5), (19, [], .int .i64 n_), (115, [], .bool false), (116, [], undef)] ?_
               refine Zf [.skip, .skip, .skip, .skip, .plain, .plain, .skip, .skip, .skip, .skip, .skip, .plain, .plain, .skip, .skip, .plain, .plain, .skip, .skip, .skip, .plain, .plain, .skip, .skip, .skip, .skip, .plain, .plain] [(4, .bool false)] ?_
               change WpE _ _ c3_103 _ _ _
               refine wpE_ret (by kernel_rfl) ?_
               repeat (first | refine seqQ_ret ?_ | refine blockQ_ret ?_ | refine loopQ_ret ?_ | refine cutQ_ret ?_)
               exact retS (rs := [(ResultVar.tmp 4)]) (v := Value.bool false) (by kernel_rfl) (⟨by kernel_rfl, trivial⟩) ⟨false, rfl, h⟩
 · rintro e w' ⟨v, rfl, r0, rfl, h⟩; exact ⟨r0, rfl, h⟩
end
end Go.Proofs.YtpdegdnigcnjiaaGreatDoor
