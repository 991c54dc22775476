/- WRITTEN BY PROGRAM (dec.py): for each Go function the clean formula F, the call's contract C, and the proof S that F gives C. -/
import Derived.Test.YtpdegdnigcnjiaaGreatDoorRows
import Derived.Test.YtpdegdnigcnjiaaGreatDoorGF
namespace Go.Proofs.YtpdegdnigcnjiaaGreatDoor
open Go
set_option linter.unusedVariables false
set_option maxRecDepth 100000
set_option maxHeartbeats 4000000
noncomputable section

/-! ### towpath/towpathref06.Read (function 40) -/
def c40_0 := cb_ Tryz.f40
def c40_3 := cr_ c40_0
def c40_6 := cr_ c40_3
def c40_9 := cr_ c40_6
def c40_10 := cl_ c40_9
def r40_10 := co_ c40_10
def c40_12 := cr_ c40_9
def c40_13 := cl_ c40_12
def c40_14 := cl_ c40_13
def c40_15 := cl_ c40_14
def c40_16 := cl_ c40_15
def c40_17 := cl_ c40_16
def r40_17 := co_ c40_17
def c40_19 := cr_ c40_16
def c40_20 := cl_ c40_19
def c40_21 := cr_ c40_19
def c40_22 := cr_ c40_15
def c40_23 := cl_ c40_22
def c40_24 := cl_ c40_23
def r40_24 := co_ c40_24
def c40_26 := cr_ c40_23
def c40_27 := cl_ c40_26
def c40_28 := cl_ c40_27
def r40_28 := co_ c40_28
def c40_30 := cr_ c40_27
def c40_31 := cl_ c40_30
def c40_32 := cl_ c40_31
def r40_32 := co_ c40_32
def c40_34 := cr_ c40_31
def c40_35 := cr_ c40_30
def c40_36 := cr_ c40_26
def c40_37 := cl_ c40_36
def r40_37 := co_ c40_37
def c40_39 := cr_ c40_36
def c40_40 := cl_ c40_39
def c40_41 := cl_ c40_40
def r40_41 := co_ c40_41
def c40_43 := cr_ c40_40
def c40_44 := cl_ c40_43
def c40_45 := cl_ c40_44
def r40_45 := co_ c40_45
def c40_47 := cr_ c40_44
def c40_48 := cr_ c40_43
def c40_49 := cr_ c40_39
def c40_50 := cl_ c40_49
def r40_50 := co_ c40_50
def c40_52 := cr_ c40_49
def c40_53 := cl_ c40_52
def c40_54 := cl_ c40_53
def r40_54 := co_ c40_54
def c40_56 := cr_ c40_53
def c40_57 := cl_ c40_56
def c40_60 := cr_ c40_57
def c40_61 := cr_ c40_56
def c40_62 := cr_ c40_52
def c40_63 := cl_ c40_62
def r40_63 := co_ c40_63
def c40_65 := cr_ c40_62
def c40_66 := cl_ c40_65
def c40_69 := cr_ c40_66
def c40_70 := cl_ c40_69
def c40_73 := cr_ c40_70
def c40_74 := cr_ c40_69
def c40_75 := cr_ c40_65
def c40_76 := cl_ c40_75
def c40_77 := cl_ c40_76
def r40_77 := co_ c40_77
def c40_79 := cr_ c40_76
def c40_80 := cl_ c40_79
def c40_83 := cr_ c40_80
def c40_84 := cr_ c40_79
def c40_85 := cr_ c40_75
def c40_86 := cl_ c40_85
def r40_86 := co_ c40_86
def c40_88 := cr_ c40_85
def c40_89 := cl_ c40_88
def r40_89 := co_ c40_89
def c40_91 := cr_ c40_88
def r40_91 := co_ c40_91
def c40_93 := cr_ c40_12
def c40_96 := cr_ c40_93

theorem S_towpathref06_Read {b_ : Slc} {w : World} {R : Slc → Int → Int → World → Prop} (h : F_towpathref06_Read b_ R w) : C_towpathref06_Read b_ w R := by
 unfold F_towpathref06_Read at h
 unfold C_towpathref06_Read
 refine Calls.mono (calls_of_wpE (args := [sv_ b_]) (R := fun v w' => ∃ (r0 : Slc) (r1 : Int) (r2 : Int), v = Value.tuple #[sv_ r0, Value.int .i64 r1, Value.int .i64 r2] ∧ R r0 r1 r2 w') Tryz.func40 (c := c40_0) (by kernel_rfl) 79 (by kernel_rfl) (by kernel_rfl) [(0, sv_ b_)] (by kernel_rfl) ?_) ?_
 · refine Zp c40_3 P3 [(0, sv_ b_)] ?_
   refine Zp c40_6 P1 [(0, sv_ b_), (5, .slice none 0 0)] ?_
   refine Zp c40_9 P1 [(0, sv_ b_), (5, .slice none 0 0), (6, .int .i64 0)] ?_
   refine Zt r40_10 c40_12 ?_
   refine Zn P2 2 [(5, [], .slice none 0 0), (6, [], .int .i64 0), (15, [], .agg #[.bool false, sv_ b_, .int .i64 0, .int .i64 0])] ?_
   refine Zw (some 7) (fun bb => pv_ bb) (Obj.cells ([.bool false, .slice none 0 0, .int .i64 0, .int .i64 0]).toArray ty_towpathref02_Reader (0, 0)) (fun b_1 w1 hb hw => ?_)
   replace h := h b_1 w1 hb hw
   clear hb hw
   refine Zn [] 3 [(5, [], .slice none 0 0), (6, [], .int .i64 0), (7, [], pv_ b_1), (15, [], .agg #[.bool false, sv_ b_, .int .i64 0, .int .i64 0])] ?_
   obtain ⟨hc, h⟩ := h
   refine Zo 130 7 15 b_1 0 4 [.bool false, sv_ b_, .int .i64 0, .int .i64 0] hc (fun w2 hw => ?_)
   replace h := h w2 hw
   clear hw
   refine Ze [(5, .slice none 0 0), (6, .int .i64 0), (7, pv_ b_1)] ?_
   change WpE _ _ c40_12 _ _ _
   refine Zs c40_13 c40_93 ?_
   refine Zb 0 c40_14 ?_
   obtain ⟨I, μ, h0, hr⟩ := h
   refine wpE_loop (x := c40_15) (by kernel_rfl) (fun m l w => ∃ (l_ : Slc) (good : Int), l = [(5, sv_ l_), (6, Value.int .i64 good), (7, pv_ b_1)] ∧ I l_ good w ∧ μ l_ good w = m) (l' := [(5, Value.slice none 0 0), (6, Value.int .i64 0), (7, pv_ b_1)]) (Sub.mk (by kernel_rfl)) ⟨(Slc.mk none 0 0), 0, rfl, h0, rfl⟩ ?_
   rintro _ _ w3 ⟨l_, good, rfl, hI, rfl⟩
   obtain ⟨again_, again__h, h⟩ : ∃ again_ : Slc → Int → World → Prop, (∀ l_' good' w', again_ l_' good' w' → I l_' good' w' ∧ μ l_' good' w' < μ l_ good w3) ∧ F_towpathref06_Read_L0 R b_1 again_ l_ good w3 := ⟨_, fun _ _ _ h => h, hr l_ good w3 hI⟩
   clear h0 hI
   unfold F_towpathref06_Read_L0 at h
   refine Zs c40_16 c40_22 ?_
   refine Zt r40_17 c40_19 ?_
   refine Zn [] 0 [(5, [], sv_ l_), (6, [], .int .i64 good), (7, [], pv_ b_1)] ?_
   obtain ⟨v16, hc, h⟩ := h
   refine reg_loadN (t := 130) (a := (Operand.tmp 7)) (b := b_1) (o := 0) (ty := 130) (dst := some 16) [Value.bool v16.Gone, sv_ v16.B, Value.int .i64 v16.At, Value.int .i64 v16.Code] (by kernel_rfl) (by kernel_rfl) (by kernel_rfl) (k := 4) (by kernel_rfl) (by kernel_rfl) hc ?_
   refine Zn [] 1 [(5, [], sv_ l_), (6, [], .int .i64 good), (7, [], pv_ b_1), (16, [], .agg #[.bool v16.Gone, sv_ v16.B, .int .i64 v16.At, .int .i64 v16.Code])] ?_
   refine Zm 116 #[.agg #[.bool v16.Gone, sv_ v16.B, .int .i64 v16.At, .int .i64 v16.Code]] (some 17) (Calls.mono h ?_)
   rintro _ w4 ⟨v17, rfl, h⟩
   refine ⟨_, rfl, ?_⟩
   refine Zf P1 [(5, sv_ l_), (6, .int .i64 good), (7, pv_ b_1), (18, .bool (decide (v17 > 0)))] ?_
   change WpE _ _ c40_19 _ _ _
   refine Zc 18 (decide (v17 > 0)) c40_20 c40_21 (fun hb => ?_) (fun hb => ?_)
   · replace h := h.1 hb
     refine wpE_skip (by kernel_rfl) ?_
     change WpE _ _ c40_22 _ _ _
     refine Zb 1 c40_23 ?_
     refine Zt r40_24 c40_26 ?_
     refine Zn [] 0 [(5, [], sv_ l_), (6, [], .int .i64 good), (7, [], pv_ b_1)] ?_
     obtain ⟨v20, hc, h⟩ := h
     refine reg_loadN (t := 130) (a := (Operand.tmp 7)) (b := b_1) (o := 0) (ty := 130) (dst := some 20) [Value.bool v20.Gone, sv_ v20.B, Value.int .i64 v20.At, Value.int .i64 v20.Code] (by kernel_rfl) (by kernel_rfl) (by kernel_rfl) (k := 4) (by kernel_rfl) (by kernel_rfl) hc ?_
     refine Zn [] 1 [(5, [], sv_ l_), (6, [], .int .i64 good), (7, [], pv_ b_1), (20, [], .agg #[.bool v20.Gone, sv_ v20.B, .int .i64 v20.At, .int .i64 v20.Code])] ?_
     refine Zm 117 #[.agg #[.bool v20.Gone, sv_ v20.B, .int .i64 v20.At, .int .i64 v20.Code], .int .i64 65536] (some 21) (Calls.mono h ?_)
     rintro _ w5 ⟨v21, s, rfl, h⟩
     refine ⟨_, rfl, ?_⟩
     refine Zn P3 5 [(5, [], sv_ l_), (6, [], .int .i64 good), (7, [], pv_ b_1), (22, [], .agg #[.bool v21.Gone, sv_ v21.B, .int .i64 v21.At, .int .i64 v21.Code]), (23, [], .string s)] ?_
     refine Zw (some 8) (fun bb => pv_ bb) (Obj.cells ([.bool false, .slice none 0 0, .int .i64 0, .int .i64 0]).toArray ty_towpathref02_Reader (0, 0)) (fun b_2 w6 hb hw => ?_)
     replace h := h b_2 w6 hb hw
     clear hb hw
     refine Zn [] 6 [(5, [], sv_ l_), (6, [], .int .i64 good), (7, [], pv_ b_1), (8, [], pv_ b_2), (22, [], .agg #[.bool v21.Gone, sv_ v21.B, .int .i64 v21.At, .int .i64 v21.Code]), (23, [], .string s)] ?_
     obtain ⟨hc, h⟩ := h
     refine Zo 130 8 22 b_2 0 4 [.bool v21.Gone, sv_ v21.B, .int .i64 v21.At, .int .i64 v21.Code] hc (fun w7 hw => ?_)
     replace h := h w7 hw
     clear hw
     refine Zf P1 [(5, sv_ l_), (6, .int .i64 good), (7, pv_ b_1), (8, pv_ b_2), (9, .string s)] ?_
     change WpE _ _ c40_26 _ _ _
     refine Zs c40_27 c40_36 ?_
     refine Zt r40_28 c40_30 ?_
     refine Zn P1 1 [(5, [], sv_ l_), (6, [], .int .i64 good), (7, [], pv_ b_1), (8, [], pv_ b_2), (9, [], .string s), (24, [], .pointer (some ⟨b_2, 3, none⟩))] ?_
     obtain ⟨v25, hc, h⟩ := h
     refine Zl 28 24 b_2 3 28 25 hc ?_
     refine Zf P1 [(5, sv_ l_), (6, .int .i64 good), (7, pv_ b_1), (8, pv_ b_2), (9, .string s), (26, .bool (v25 != 0))] ?_
     change WpE _ _ c40_30 _ _ _
     refine Zc 26 (v25 != 0) c40_31 c40_35 (fun hb => ?_) (fun hb => ?_)
     · replace h := h.1 hb
       refine Zs c40_32 c40_34 ?_
       refine wpE_drawregion (id := 7) (ops := r40_32) (by kernel_rfl) (by kernel_rfl) (by kernel_rfl) ?_
       refine qreg_run P3 3 [(27, [], sv_ l_), (28, [], Value.int .i64 good), (29, [], Value.pointer (some ⟨b_2, 3, none⟩))] (by kernel_rfl) (by kernel_rfl) ?_
       obtain ⟨v30, hc, h⟩ := h
       refine qreg_load1 (t := 28) (a := (Operand.tmp 29)) (b := b_2) (o := 3) (ty := 28) (dst := some 30) (by kernel_rfl) (by kernel_rfl) (by kernel_rfl) hc ?_
       refine qreg_run P3 7 [(2, [], sv_ l_), (3, [], Value.int .i64 good), (4, [], Value.int .i64 v30)] (by kernel_rfl) (by kernel_rfl) ?_
       refine qreg_end [(2, sv_ l_), (3, Value.int .i64 good), (4, Value.int .i64 v30)] (by kernel_rfl) (by kernel_rfl) (fun w8 hw => ?_)
       replace h := h w8 hw
       clear hw
       change WpE _ _ c40_34 _ _ _
       refine wpE_ret (by kernel_rfl) ?_
       repeat (first | refine seqQ_ret ?_ | refine blockQ_ret ?_ | refine loopQ_ret ?_ | refine cutQ_ret ?_)
       exact retT (rs := [(ResultVar.tmp 2), (ResultVar.tmp 3), (ResultVar.tmp 4)]) (vs := [sv_ l_, Value.int .i64 good, Value.int .i64 v30]) (by kernel_rfl) (⟨by kernel_rfl, ⟨by kernel_rfl, ⟨by kernel_rfl, trivial⟩⟩⟩) (by kernel_rfl) ⟨l_, good, v30, rfl, h⟩
     · replace h := h.2 hb
       refine wpE_skip (by kernel_rfl) ?_
       change WpE _ _ c40_36 _ _ _
       refine Zt r40_37 c40_39 ?_
       refine Zn [] 0 [(5, [], sv_ l_), (6, [], .int .i64 good), (7, [], pv_ b_1), (8, [], pv_ b_2), (9, [], .string s)] ?_
       obtain ⟨v32, hc, h⟩ := h
       refine reg_loadN (t := 130) (a := (Operand.tmp 8)) (b := b_2) (o := 0) (ty := 130) (dst := some 32) [Value.bool v32.Gone, sv_ v32.B, Value.int .i64 v32.At, Value.int .i64 v32.Code] (by kernel_rfl) (by kernel_rfl) (by kernel_rfl) (k := 4) (by kernel_rfl) (by kernel_rfl) hc ?_
       refine Zn [] 1 [(5, [], sv_ l_), (6, [], .int .i64 good), (7, [], pv_ b_1), (8, [], pv_ b_2), (9, [], .string s), (32, [], .agg #[.bool v32.Gone, sv_ v32.B, .int .i64 v32.At, .int .i64 v32.Code])] ?_
       refine Zm 118 #[.agg #[.bool v32.Gone, sv_ v32.B, .int .i64 v32.At, .int .i64 v32.Code], .int .i64 4] (some 33) (Calls.mono h ?_)
       rintro _ w9 ⟨v33, sum, rfl, h⟩
       refine ⟨_, rfl, ?_⟩
       refine Zn P3 5 [(5, [], sv_ l_), (6, [], .int .i64 good), (7, [], pv_ b_1), (8, [], pv_ b_2), (9, [], .string s), (34, [], .agg #[.bool v33.Gone, sv_ v33.B, .int .i64 v33.At, .int .i64 v33.Code]), (35, [], .int .u64 sum)] ?_
       obtain ⟨hc, h⟩ := h
       refine Zo 130 8 34 b_2 0 4 [.bool v33.Gone, sv_ v33.B, .int .i64 v33.At, .int .i64 v33.Code] hc (fun w10 hw => ?_)
       replace h := h w10 hw
       clear hw
       refine Zf P1 [(5, sv_ l_), (6, .int .i64 good), (7, pv_ b_1), (8, pv_ b_2), (9, .string s), (10, .int .u64 sum)] ?_
       change WpE _ _ c40_39 _ _ _
       refine Zs c40_40 c40_49 ?_
       refine Zt r40_41 c40_43 ?_
       refine Zn P1 1 [(5, [], sv_ l_), (6, [], .int .i64 good), (7, [], pv_ b_1), (8, [], pv_ b_2), (9, [], .string s), (10, [], .int .u64 sum), (36, [], .pointer (some ⟨b_2, 3, none⟩))] ?_
       obtain ⟨v37, hc, h⟩ := h
       refine Zl 28 36 b_2 3 28 37 hc ?_
       refine Zf P1 [(5, sv_ l_), (6, .int .i64 good), (7, pv_ b_1), (8, pv_ b_2), (9, .string s), (10, .int .u64 sum), (38, .bool (v37 != 0))] ?_
       change WpE _ _ c40_43 _ _ _
       refine Zc 38 (v37 != 0) c40_44 c40_48 (fun hb => ?_) (fun hb => ?_)
       · replace h := h.1 hb
         refine Zs c40_45 c40_47 ?_
         refine wpE_drawregion (id := 10) (ops := r40_45) (by kernel_rfl) (by kernel_rfl) (by kernel_rfl) ?_
         refine qreg_run P3 3 [(39, [], sv_ l_), (40, [], Value.int .i64 good), (41, [], Value.pointer (some ⟨b_2, 3, none⟩))] (by kernel_rfl) (by kernel_rfl) ?_
         obtain ⟨v42, hc, h⟩ := h
         refine qreg_load1 (t := 28) (a := (Operand.tmp 41)) (b := b_2) (o := 3) (ty := 28) (dst := some 42) (by kernel_rfl) (by kernel_rfl) (by kernel_rfl) hc ?_
         refine qreg_run P3 7 [(2, [], sv_ l_), (3, [], Value.int .i64 good), (4, [], Value.int .i64 v42)] (by kernel_rfl) (by kernel_rfl) ?_
         refine qreg_end [(2, sv_ l_), (3, Value.int .i64 good), (4, Value.int .i64 v42)] (by kernel_rfl) (by kernel_rfl) (fun w11 hw => ?_)
         replace h := h w11 hw
         clear hw
         change WpE _ _ c40_47 _ _ _
         refine wpE_ret (by kernel_rfl) ?_
         repeat (first | refine seqQ_ret ?_ | refine blockQ_ret ?_ | refine loopQ_ret ?_ | refine cutQ_ret ?_)
         exact retT (rs := [(ResultVar.tmp 2), (ResultVar.tmp 3), (ResultVar.tmp 4)]) (vs := [sv_ l_, Value.int .i64 good, Value.int .i64 v42]) (by kernel_rfl) (⟨by kernel_rfl, ⟨by kernel_rfl, ⟨by kernel_rfl, trivial⟩⟩⟩) (by kernel_rfl) ⟨l_, good, v42, rfl, h⟩
       · replace h := h.2 hb
         refine wpE_skip (by kernel_rfl) ?_
         change WpE _ _ c40_49 _ _ _
         refine Zt r40_50 c40_52 ?_
         refine Zn P1 1 [(5, [], sv_ l_), (6, [], .int .i64 good), (7, [], pv_ b_1), (8, [], pv_ b_2), (10, [], .int .u64 sum), (43, [], .string s)] ?_
         refine reg_ofString (t := 9) (d := 79) (e := 5) (x := (Operand.tmp 43)) (str := s) (ty := 79) (dst := some 44) (by kernel_rfl) (by kernel_rfl) (by kernel_rfl) (by kernel_rfl) (by kernel_rfl) (fun s1 w12 hs => ?_)
         replace h := h s1 w12 hs
         clear hs
         refine Zf P1 [(5, sv_ l_), (6, .int .i64 good), (7, pv_ b_1), (8, pv_ b_2), (10, .int .u64 sum), (11, sv_ s1)] ?_
         change WpE _ _ c40_52 _ _ _
         refine Zs c40_53 c40_62 ?_
         refine Zt r40_54 c40_56 ?_
         refine Zn P2 2 [(5, [], sv_ l_), (6, [], .int .i64 good), (7, [], pv_ b_1), (8, [], pv_ b_2), (11, [], sv_ s1), (45, [], .int .u64 sum), (46, [], sv_ s1)] ?_
         refine Zm 112 #[sv_ s1] (some 47) (Calls.mono h ?_)
         rintro _ w13 ⟨v47, rfl, h⟩
         refine ⟨_, rfl, ?_⟩
         refine Zf P2 [(5, sv_ l_), (6, .int .i64 good), (7, pv_ b_1), (8, pv_ b_2), (11, sv_ s1), (49, .bool (sum != (IntKind.u64.wrap v47)))] ?_
         change WpE _ _ c40_56 _ _ _
         refine Zc 49 (sum != (IntKind.u64.wrap v47)) c40_57 c40_61 (fun hb => ?_) (fun hb => ?_)
         · replace h := h.1 hb
           refine Zp c40_60 (Pl 5) [(2, sv_ l_), (3, .int .i64 good), (4, .int .i64 4)] ?_
           refine wpE_ret (by kernel_rfl) ?_
           repeat (first | refine seqQ_ret ?_ | refine blockQ_ret ?_ | refine loopQ_ret ?_ | refine cutQ_ret ?_)
           exact retT (rs := [(ResultVar.tmp 2), (ResultVar.tmp 3), (ResultVar.tmp 4)]) (vs := [sv_ l_, Value.int .i64 good, Value.int .i64 4]) (by kernel_rfl) (⟨by kernel_rfl, ⟨by kernel_rfl, ⟨by kernel_rfl, trivial⟩⟩⟩) (by kernel_rfl) ⟨l_, good, 4, rfl, h⟩
         · replace h := h.2 hb
           refine wpE_skip (by kernel_rfl) ?_
           change WpE _ _ c40_62 _ _ _
           refine Zt r40_63 c40_65 ?_
           refine Zn P1 1 [(5, [], sv_ l_), (6, [], .int .i64 good), (7, [], pv_ b_1), (8, [], pv_ b_2), (53, [], sv_ s1)] ?_
           refine Zm 119 #[sv_ s1] (some 54) (Calls.mono h ?_)
           rintro _ w14 ⟨v54, e, rfl, h⟩
           refine ⟨_, rfl, ?_⟩
           refine Zn P3 5 [(5, [], sv_ l_), (6, [], .int .i64 good), (7, [], pv_ b_1), (8, [], pv_ b_2), (55, [], .agg #[.int .i64 v54.Number, sv_ v54.Writes]), (56, [], .int .i64 e)] ?_
           refine Zw (some 12) (fun bb => pv_ bb) (Obj.cells ([.int .i64 0, .slice none 0 0]).toArray ty_api_Txn (0, 0)) (fun b_3 w15 hb hw => ?_)
           replace h := h b_3 w15 hb hw
           clear hb hw
           refine Zn [] 6 [(5, [], sv_ l_), (6, [], .int .i64 good), (7, [], pv_ b_1), (8, [], pv_ b_2), (12, [], pv_ b_3), (55, [], .agg #[.int .i64 v54.Number, sv_ v54.Writes]), (56, [], .int .i64 e)] ?_
           obtain ⟨hc, h⟩ := h
           refine Zo 52 12 55 b_3 0 2 [.int .i64 v54.Number, sv_ v54.Writes] hc (fun w16 hw => ?_)
           replace h := h w16 hw
           clear hw
           refine Zf P1 [(5, sv_ l_), (6, .int .i64 good), (7, pv_ b_1), (8, pv_ b_2), (12, pv_ b_3), (13, .int .i64 e)] ?_
           change WpE _ _ c40_65 _ _ _
           refine Zs c40_66 c40_75 ?_
           refine Zp c40_69 P2 [(5, sv_ l_), (6, .int .i64 good), (7, pv_ b_1), (8, pv_ b_2), (12, pv_ b_3), (13, .int .i64 e), (58, .bool (e != 0))] ?_
           refine Zc 58 (e != 0) c40_70 c40_74 (fun hb => ?_) (fun hb => ?_)
           · replace h := h.1 hb
             refine Zp c40_73 (Pl 6) [(2, sv_ l_), (3, .int .i64 good), (4, .int .i64 e)] ?_
             refine wpE_ret (by kernel_rfl) ?_
             repeat (first | refine seqQ_ret ?_ | refine blockQ_ret ?_ | refine loopQ_ret ?_ | refine cutQ_ret ?_)
             exact retT (rs := [(ResultVar.tmp 2), (ResultVar.tmp 3), (ResultVar.tmp 4)]) (vs := [sv_ l_, Value.int .i64 good, Value.int .i64 e]) (by kernel_rfl) (⟨by kernel_rfl, ⟨by kernel_rfl, ⟨by kernel_rfl, trivial⟩⟩⟩) (by kernel_rfl) ⟨l_, good, e, rfl, h⟩
           · replace h := h.2 hb
             refine wpE_skip (by kernel_rfl) ?_
             change WpE _ _ c40_75 _ _ _
             refine Zs c40_76 c40_85 ?_
             refine Zt r40_77 c40_79 ?_
             refine Zn P1 1 [(5, [], sv_ l_), (6, [], .int .i64 good), (7, [], pv_ b_1), (8, [], pv_ b_2), (12, [], pv_ b_3), (62, [], pv_ b_3)] ?_
             obtain ⟨v63, hc, h⟩ := h
             refine Zl 3 62 b_3 0 3 63 hc ?_
             refine Zf P4 [(5, sv_ l_), (6, .int .i64 good), (7, pv_ b_1), (8, pv_ b_2), (12, pv_ b_3), (67, .bool (v63 != (IntKind.i64.wrap (((l_.len : Nat) : Int) + 1))))] ?_
             change WpE _ _ c40_79 _ _ _
             refine Zc 67 (v63 != (IntKind.i64.wrap (((l_.len : Nat) : Int) + 1))) c40_80 c40_84 (fun hb => ?_) (fun hb => ?_)
             · replace h := h.1 hb
               refine Zp c40_83 (Pl 5) [(2, sv_ l_), (3, .int .i64 good), (4, .int .i64 6)] ?_
               refine wpE_ret (by kernel_rfl) ?_
               repeat (first | refine seqQ_ret ?_ | refine blockQ_ret ?_ | refine loopQ_ret ?_ | refine cutQ_ret ?_)
               exact retT (rs := [(ResultVar.tmp 2), (ResultVar.tmp 3), (ResultVar.tmp 4)]) (vs := [sv_ l_, Value.int .i64 good, Value.int .i64 6]) (by kernel_rfl) (⟨by kernel_rfl, ⟨by kernel_rfl, ⟨by kernel_rfl, trivial⟩⟩⟩) (by kernel_rfl) ⟨l_, good, 6, rfl, h⟩
             · replace h := h.2 hb
               refine wpE_skip (by kernel_rfl) ?_
               change WpE _ _ c40_85 _ _ _
               refine Zt r40_86 c40_88 ?_
               refine Zn P1 1 [(5, [], sv_ l_), (7, [], pv_ b_1), (8, [], pv_ b_2), (12, [], pv_ b_3), (70, [], sv_ l_)] ?_
               obtain ⟨v71, hc, h⟩ := h
               refine reg_loadN (t := 52) (a := (Operand.tmp 12)) (b := b_3) (o := 0) (ty := 52) (dst := some 71) [Value.int .i64 v71.Number, sv_ v71.Writes] (by kernel_rfl) (by kernel_rfl) (by kernel_rfl) (k := 2) (by kernel_rfl) (by kernel_rfl) hc ?_
               refine Zn [] 2 [(5, [], sv_ l_), (7, [], pv_ b_1), (8, [], pv_ b_2), (70, [], sv_ l_), (71, [], .agg #[.int .i64 v71.Number, sv_ v71.Writes])] ?_
               refine Zw (some 72) (fun bb => .slice (some ⟨bb, 0, none⟩) 1 1) (Obj.cells ([.int .i64 v71.Number, sv_ v71.Writes]).toArray ty_api_Txn (0, 0)) (fun b_4 w17 hb hw => ?_)
               replace h := h b_4 w17 hb hw
               clear hb hw
               refine Zn [] 3 [(5, [], sv_ l_), (7, [], pv_ b_1), (8, [], pv_ b_2), (70, [], sv_ l_), (72, [], .slice (some ⟨b_4, 0, none⟩) 1 1)] ?_
               obtain ⟨src, hs, h⟩ := h
               refine reg_append (t := 22) (tx := 22) (e := 52) (a := (Operand.tmp 70)) (xo := (Operand.tmp 72)) (s := l_) (x := (Slc.mk (some ⟨b_4, 0, none⟩) 1 1)) (sz := 2) (by_ := 32) (zs := [Value.int .i64 0, Value.slice none 0 0]) (ty := 22) (dst := some 73)  src (by kernel_rfl) (by kernel_rfl) (by kernel_rfl) (by kernel_rfl) (by kernel_rfl) (by kernel_rfl) (by kernel_rfl) (by kernel_rfl) (by kernel_rfl) hs (AppendW.mono h (fun l_1 w18 h => ?_))
               refine Zf P1 [(5, sv_ l_1), (7, pv_ b_1), (8, pv_ b_2)] ?_
               change WpE _ _ c40_88 _ _ _
               refine Zt r40_89 c40_91 ?_
               refine Zn [] 0 [(5, [], sv_ l_1), (7, [], pv_ b_1), (8, [], pv_ b_2)] ?_
               obtain ⟨v74, hc, h⟩ := h
               refine reg_loadN (t := 130) (a := (Operand.tmp 8)) (b := b_2) (o := 0) (ty := 130) (dst := some 74) [Value.bool v74.Gone, sv_ v74.B, Value.int .i64 v74.At, Value.int .i64 v74.Code] (by kernel_rfl) (by kernel_rfl) (by kernel_rfl) (k := 4) (by kernel_rfl) (by kernel_rfl) hc ?_
               refine Zn [] 1 [(5, [], sv_ l_1), (7, [], pv_ b_1), (74, [], .agg #[.bool v74.Gone, sv_ v74.B, .int .i64 v74.At, .int .i64 v74.Code])] ?_
               obtain ⟨hc, h⟩ := h
               refine Zo 130 7 74 b_1 0 4 [.bool v74.Gone, sv_ v74.B, .int .i64 v74.At, .int .i64 v74.Code] hc (fun w19 hw => ?_)
               replace h := h w19 hw
               clear hw
               refine Ze [(5, sv_ l_1), (7, pv_ b_1)] ?_
               change WpE _ _ c40_91 _ _ _
               refine Zr r40_91 ?_
               refine Zn P1 1 [(5, [], sv_ l_1), (7, [], pv_ b_1), (75, [], .pointer (some ⟨b_1, 2, none⟩))] ?_
               obtain ⟨good1, hc, h⟩ := h
               refine Zl 3 75 b_1 2 3 76 hc ?_
               refine Zf P1 [(5, sv_ l_1), (6, .int .i64 good1), (7, pv_ b_1)] ?_
               have hb_ := again__h _ _ _ h
               exact ⟨_, hb_.2, [(5, sv_ l_1), (6, Value.int .i64 good1), (7, pv_ b_1)], Sub.mk (by kernel_rfl), l_1, good1, rfl, hb_.1, rfl⟩
   · replace h := h.2 hb
     refine wpE_exit (id := 0) (by kernel_rfl) ?_
     change WpE _ _ c40_93 _ _ _
     refine Zp c40_96 (Pl 5) [(2, sv_ l_), (3, .int .i64 good), (4, .int .i64 0)] ?_
     refine wpE_ret (by kernel_rfl) ?_
     repeat (first | refine seqQ_ret ?_ | refine blockQ_ret ?_ | refine loopQ_ret ?_ | refine cutQ_ret ?_)
     exact retT (rs := [(ResultVar.tmp 2), (ResultVar.tmp 3), (ResultVar.tmp 4)]) (vs := [sv_ l_, Value.int .i64 good, Value.int .i64 0]) (by kernel_rfl) (⟨by kernel_rfl, ⟨by kernel_rfl, ⟨by kernel_rfl, trivial⟩⟩⟩) (by kernel_rfl) ⟨l_, good, 0, rfl, h⟩
 · rintro e w' ⟨v, rfl, r0, r1, r2, rfl, h⟩; exact ⟨r0, r1, r2, rfl, h⟩
end
end Go.Proofs.YtpdegdnigcnjiaaGreatDoor
