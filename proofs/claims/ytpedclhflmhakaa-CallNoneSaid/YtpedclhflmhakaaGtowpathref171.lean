/- WRITTEN BY PROGRAM (dec.py): for each Go function the clean formula F, the call's contract C, and the proof S that F gives C. -/
import Derived.Test.YtpedclhflmhakaaRows
import Derived.Test.YtpedclhflmhakaaGF
namespace Go.Proofs.Ytpedclhflmhakaa
open Go
set_option linter.unusedVariables false
set_option maxRecDepth 100000
set_option maxHeartbeats 4000000
noncomputable section

/-! ### (*towpath/towpathref17.Task).Answer (function 75) -/
def c75_0 := cb_ Try.f75
def c75_1 := cl_ c75_0
def r75_1 := co_ c75_1
def c75_3 := cr_ c75_0
def c75_4 := cl_ c75_3
def c75_5 := cl_ c75_4
def r75_5 := co_ c75_5
def c75_7 := cr_ c75_4
def c75_8 := cl_ c75_7
def c75_9 := cl_ c75_8
def r75_9 := co_ c75_9
def c75_11 := cr_ c75_8
def c75_12 := cr_ c75_7
def c75_13 := cr_ c75_3
def c75_14 := cl_ c75_13
def c75_15 := cl_ c75_14
def r75_15 := co_ c75_15
def c75_17 := cr_ c75_14
def c75_18 := cl_ c75_17
def c75_19 := cl_ c75_18
def r75_19 := co_ c75_19
def c75_21 := cr_ c75_18
def c75_22 := cr_ c75_17
def c75_23 := cr_ c75_13
def c75_24 := cl_ c75_23
def r75_24 := co_ c75_24
def c75_26 := cr_ c75_23
def c75_29 := cr_ c75_26
def c75_30 := cl_ c75_29
def c75_33 := cr_ c75_30
def c75_34 := cl_ c75_33
def c75_35 := cl_ c75_34
def c75_36 := cl_ c75_35
def c75_37 := cl_ c75_36
def r75_37 := co_ c75_37
def c75_39 := cr_ c75_36
def c75_40 := cl_ c75_39
def c75_41 := cr_ c75_39
def c75_42 := cr_ c75_35
def c75_43 := cl_ c75_42
def c75_44 := cl_ c75_43
def c75_45 := cl_ c75_44
def r75_45 := co_ c75_45
def c75_47 := cr_ c75_44
def c75_48 := cl_ c75_47
def r75_48 := co_ c75_48
def c75_50 := cr_ c75_47
def c75_51 := cl_ c75_50
def c75_54 := cr_ c75_51
def c75_55 := cl_ c75_54
def c75_56 := cl_ c75_55
def r75_56 := co_ c75_56
def c75_58 := cr_ c75_55
def c75_59 := cl_ c75_58
def r75_59 := co_ c75_59
def c75_61 := cr_ c75_58
def c75_62 := cl_ c75_61
def r75_62 := co_ c75_62
def c75_64 := cr_ c75_61
def c75_65 := cr_ c75_54
def c75_68 := cr_ c75_65
def c75_69 := cl_ c75_68
def c75_72 := cr_ c75_69
def c75_73 := cl_ c75_72
def c75_74 := cl_ c75_73
def c75_75 := cl_ c75_74
def c75_76 := cl_ c75_75
def r75_76 := co_ c75_76
def c75_78 := cr_ c75_75
def c75_79 := cl_ c75_78
def c75_80 := cr_ c75_78
def c75_81 := cr_ c75_74
def c75_82 := cl_ c75_81
def c75_83 := cl_ c75_82
def r75_83 := co_ c75_83
def c75_85 := cr_ c75_81
def r75_85 := co_ c75_85
def c75_87 := cr_ c75_68
def c75_90 := cr_ c75_87
def c75_91 := cl_ c75_90
def r75_91 := co_ c75_91
def c75_93 := cr_ c75_90
def c75_96 := cr_ c75_93
def c75_97 := cl_ c75_96
def c75_100 := cr_ c75_97
def c75_101 := cl_ c75_100
def c75_102 := cl_ c75_101
def c75_103 := cl_ c75_102
def c75_104 := cl_ c75_103
def r75_104 := co_ c75_104
def c75_106 := cr_ c75_103
def c75_107 := cl_ c75_106
def c75_108 := cr_ c75_106
def c75_109 := cr_ c75_102
def c75_110 := cl_ c75_109
def c75_111 := cl_ c75_110
def r75_111 := co_ c75_111
def c75_113 := cr_ c75_109
def r75_113 := co_ c75_113
def c75_115 := cr_ c75_96
def c75_116 := cr_ c75_42
def r75_116 := co_ c75_116
def c75_118 := cr_ c75_29
def c75_119 := cl_ c75_118
def r75_119 := co_ c75_119
def c75_121 := cr_ c75_118
def o_towpathref17_Task_Answer_62 : List Nat := [0, 1, 2, 3, 4, 5, 6, 7, 8, 9]

theorem S_towpathref17_Task_Answer {t_ : Option Addr} {w : World} {R : T_api_Answer → Slc → Int → World → Prop} (h : F_towpathref17_Task_Answer t_ R w) : C_towpathref17_Task_Answer t_ w R := by
 unfold F_towpathref17_Task_Answer at h
 unfold C_towpathref17_Task_Answer
 refine Calls.mono (calls_of_wpE (args := [Value.pointer t_]) (R := fun v w' => ∃ (r0 : T_api_Answer) (r1 : Slc) (r2 : Int), v = Value.tuple #[Value.agg #[Value.int .i64 r0.Code, Value.int .i64 r0.Mark, Value.bool r0.OK, sv_ r0.Entries, Value.int .i64 r0.Count], sv_ r1, Value.int .i64 r2] ∧ R r0 r1 r2 w') Try.func75 (c := c75_0) (by kernel_rfl) 106 (by kernel_rfl) (by kernel_rfl) [(0, Value.pointer t_)] (by kernel_rfl) ?_) ?_
 · refine Zt r75_1 c75_3 ?_
   refine Zn [] 0 [(0, [], .pointer t_)] ?_
   refine Zw (some 2) (fun bb => pv_ bb) (Obj.cells ([.int .i64 0, .int .i64 0, .bool false, .slice none 0 0, .int .i64 0]).toArray ty_api_Answer (0, 0)) (fun b_ w1 hb hw => ?_)
   replace h := h b_ w1 hb hw
   clear hb hw
   refine Zf P2 [(0, .pointer t_), (2, pv_ b_)] ?_
   change WpE _ _ c75_3 _ _ _
   refine Zs c75_4 c75_13 ?_
   refine Zt r75_5 c75_7 ?_
   refine Zn P1 1 [(0, [], .pointer t_), (2, [], pv_ b_), (11, [], .pointer t_)] ?_
   refine reg_val (op := (Op.binOp BinOp.eql 87 (Operand.tmp 11) (Operand.const (Value.pointer none)) 87)) (ty := 4) (dst := some 12) (Value.bool t_.isNone) (by kernel_rfl) (fun ww => run_ptr_eql_R (p := t_) (by kernel_rfl) (by kernel_rfl) (by kernel_rfl) ww) ?_
   refine Ze [(0, .pointer t_), (2, pv_ b_), (12, .bool t_.isNone)] ?_
   change WpE _ _ c75_7 _ _ _
   refine Zc 12 t_.isNone c75_8 c75_12 (fun hb => ?_) (fun hb => ?_)
   · replace h := h.1 hb
     refine Zt r75_9 c75_11 ?_
     refine Zn P1 1 [(2, [], pv_ b_), (13, [], .agg #[.int .i64 0, .int .i64 0, .bool false, .slice none 0 0, .int .i64 0])] ?_
     obtain ⟨hc, h⟩ := h
     refine Zo 125 2 13 b_ 0 5 [.int .i64 0, .int .i64 0, .bool false, .slice none 0 0, .int .i64 0] hc (fun w2 hw => ?_)
     replace h := h w2 hw
     clear hw
     refine Zf P2 [(2, pv_ b_), (3, .slice none 0 0), (4, .int .i64 2)] ?_
     change WpE _ _ c75_11 _ _ _
     refine wpE_ret (by kernel_rfl) ?_
     obtain ⟨res, hc_res, h⟩ := h
     repeat (first | refine seqQ_ret ?_ | refine blockQ_ret ?_ | refine loopQ_ret ?_ | refine cutQ_ret ?_)
     exact retT (rs := [(ResultVar.cell 2 125), (ResultVar.tmp 3), (ResultVar.tmp 4)]) (vs := [Value.agg #[Value.int .i64 res.Code, Value.int .i64 res.Mark, Value.bool res.OK, sv_ res.Entries, Value.int .i64 res.Count], Value.slice none 0 0, Value.int .i64 2]) (by kernel_rfl) (⟨b_, 0, [Value.int .i64 res.Code, Value.int .i64 res.Mark, Value.bool res.OK, sv_ res.Entries, Value.int .i64 res.Count], by kernel_rfl, hc_res, (sizeP_of (k := 5) (by kernel_rfl) (by kernel_rfl)), .inl ⟨by kernel_rfl, rfl⟩, ⟨by kernel_rfl, ⟨by kernel_rfl, trivial⟩⟩⟩) (by kernel_rfl) ⟨res, (Slc.mk none 0 0), 2, rfl, h⟩
   · replace h := h.2 hb
     refine wpE_skip (by kernel_rfl) ?_
     change WpE _ _ c75_13 _ _ _
     refine Zs c75_14 c75_23 ?_
     refine Zt r75_15 c75_17 ?_
     refine Zn P1 1 [(0, [], .pointer t_), (2, [], pv_ b_), (14, [], .pointer t_)] ?_
     refine Zm 74 #[.pointer t_] (some 15) (Calls.mono h ?_)
     rintro _ w3 ⟨v15, rfl, h⟩
     refine ⟨_, rfl, ?_⟩
     refine Zf P1 [(0, .pointer t_), (2, pv_ b_), (16, .bool (!v15))] ?_
     change WpE _ _ c75_17 _ _ _
     refine Zc 16 (!v15) c75_18 c75_22 (fun hb => ?_) (fun hb => ?_)
     · replace h := h.1 hb
       refine Zt r75_19 c75_21 ?_
       refine Zn P1 1 [(2, [], pv_ b_), (17, [], .agg #[.int .i64 0, .int .i64 0, .bool false, .slice none 0 0, .int .i64 0])] ?_
       obtain ⟨hc, h⟩ := h
       refine Zo 125 2 17 b_ 0 5 [.int .i64 0, .int .i64 0, .bool false, .slice none 0 0, .int .i64 0] hc (fun w4 hw => ?_)
       replace h := h w4 hw
       clear hw
       refine Zf P2 [(2, pv_ b_), (3, .slice none 0 0), (4, .int .i64 6)] ?_
       change WpE _ _ c75_21 _ _ _
       refine wpE_ret (by kernel_rfl) ?_
       obtain ⟨res1, hc_res1, h⟩ := h
       repeat (first | refine seqQ_ret ?_ | refine blockQ_ret ?_ | refine loopQ_ret ?_ | refine cutQ_ret ?_)
       exact retT (rs := [(ResultVar.cell 2 125), (ResultVar.tmp 3), (ResultVar.tmp 4)]) (vs := [Value.agg #[Value.int .i64 res1.Code, Value.int .i64 res1.Mark, Value.bool res1.OK, sv_ res1.Entries, Value.int .i64 res1.Count], Value.slice none 0 0, Value.int .i64 6]) (by kernel_rfl) (⟨b_, 0, [Value.int .i64 res1.Code, Value.int .i64 res1.Mark, Value.bool res1.OK, sv_ res1.Entries, Value.int .i64 res1.Count], by kernel_rfl, hc_res1, (sizeP_of (k := 5) (by kernel_rfl) (by kernel_rfl)), .inl ⟨by kernel_rfl, rfl⟩, ⟨by kernel_rfl, ⟨by kernel_rfl, trivial⟩⟩⟩) (by kernel_rfl) ⟨res1, (Slc.mk none 0 0), 6, rfl, h⟩
     · replace h := h.2 hb
       refine wpE_skip (by kernel_rfl) ?_
       change WpE _ _ c75_23 _ _ _
       refine Zt r75_24 c75_26 ?_
       refine Zn P1 1 [(0, [], .pointer t_), (2, [], pv_ b_), (18, [], .pointer t_)] ?_
       obtain ⟨hp_1, h⟩ := h
       refine Zv (fun pp => [(0, [], .pointer t_), (2, [], pv_ b_), (18, [], .pointer pp)]) hp_1 ?_
       refine Zn P1 2 [(0, [], .pointer t_), (2, [], pv_ b_), (18, [], .pointer (some ⟨(pblk t_), (poff t_), none⟩)), (19, [], .pointer (some ⟨(pblk t_), (poff t_), none⟩))] ?_
       refine Zn P1 3 [(0, [], .pointer t_), (2, [], pv_ b_), (20, [], .pointer (some ⟨(pblk t_), (poff t_) + 9, none⟩))] ?_
       obtain ⟨v21, hc, h⟩ := h
       refine Zl 3 20 (pblk t_) ((poff t_) + 9) 3 21 hc ?_
       refine Zn P1 5 [(0, [], .pointer t_), (2, [], pv_ b_), (22, [], .agg #[.int .i64 0, .int .i64 v21, .bool true, .slice none 0 0, .int .i64 0])] ?_
       refine Zw (some 5) (fun bb => pv_ bb) (Obj.cells ([.int .i64 0, .int .i64 0, .bool false, .slice none 0 0, .int .i64 0]).toArray ty_api_Answer (0, 0)) (fun b_1 w5 hb hw => ?_)
       replace h := h b_1 w5 hb hw
       clear hb hw
       refine Zn [] 6 [(0, [], .pointer t_), (2, [], pv_ b_), (5, [], pv_ b_1), (22, [], .agg #[.int .i64 0, .int .i64 v21, .bool true, .slice none 0 0, .int .i64 0])] ?_
       obtain ⟨hc, h⟩ := h
       refine Zo 125 5 22 b_1 0 5 [.int .i64 0, .int .i64 v21, .bool true, .slice none 0 0, .int .i64 0] hc (fun w6 hw => ?_)
       replace h := h w6 hw
       clear hw
       refine Ze [(0, .pointer t_), (2, pv_ b_), (5, pv_ b_1)] ?_
       change WpE _ _ c75_26 _ _ _
       refine Zp c75_29 P1 [(0, .pointer t_), (2, pv_ b_), (5, pv_ b_1), (6, .slice none 0 0)] ?_
       refine Zs c75_30 c75_118 ?_
       refine Zp c75_33 P1 [(0, .pointer t_), (2, pv_ b_), (5, pv_ b_1), (6, .slice none 0 0), (7, .int .i64 0)] ?_
       refine Zb 0 c75_34 ?_
       obtain ⟨I, μ, h0, hr⟩ := h
       refine wpE_loop (x := c75_35) (by kernel_rfl) (fun m l w => ∃ (l_ : Slc) (i : Int), l = [(0, Value.pointer t_), (2, pv_ b_), (5, pv_ b_1), (6, sv_ l_), (7, Value.int .i64 i)] ∧ I l_ i w ∧ μ l_ i w = m) (l' := [(0, Value.pointer t_), (2, pv_ b_), (5, pv_ b_1), (6, Value.slice none 0 0), (7, Value.int .i64 0)]) (Sub.mk (by kernel_rfl)) ⟨(Slc.mk none 0 0), 0, rfl, h0, rfl⟩ ?_
       rintro _ _ w7 ⟨l_, i, rfl, hI, rfl⟩
       obtain ⟨again_, again__h, h⟩ : ∃ again_ : Slc → Int → World → Prop, (∀ l_' i' w', again_ l_' i' w' → I l_' i' w' ∧ μ l_' i' w' < μ l_ i w7) ∧ F_towpathref17_Task_Answer_L0 t_ R b_ b_1 again_ l_ i w7 := ⟨_, fun _ _ _ h => h, hr l_ i w7 hI⟩
       clear h0 hI
       unfold F_towpathref17_Task_Answer_L0 at h
       refine Zs c75_36 c75_42 ?_
       refine Zt r75_37 c75_39 ?_
       refine Zn P2 2 [(0, [], .pointer t_), (2, [], pv_ b_), (5, [], pv_ b_1), (6, [], sv_ l_), (7, [], .int .i64 i), (23, [], .int .i64 i), (24, [], .pointer t_)] ?_
       obtain ⟨hp_31, h⟩ := h
       refine Zv (fun pp => [(0, [], .pointer t_), (2, [], pv_ b_), (5, [], pv_ b_1), (6, [], sv_ l_), (7, [], .int .i64 i), (23, [], .int .i64 i), (24, [], .pointer pp)]) hp_31 ?_
       refine Zn P1 3 [(0, [], .pointer t_), (2, [], pv_ b_), (5, [], pv_ b_1), (6, [], sv_ l_), (7, [], .int .i64 i), (23, [], .int .i64 i), (24, [], .pointer (some ⟨(pblk t_), (poff t_), none⟩)), (25, [], .pointer (some ⟨(pblk t_), (poff t_), none⟩))] ?_
       refine Zn P1 4 [(0, [], .pointer t_), (2, [], pv_ b_), (5, [], pv_ b_1), (6, [], sv_ l_), (7, [], .int .i64 i), (23, [], .int .i64 i), (26, [], .pointer (some ⟨(pblk t_), (poff t_) + 13, none⟩))] ?_
       obtain ⟨v27, hc, h⟩ := h
       refine Zl 101 26 (pblk t_) ((poff t_) + 13) 101 27 hc ?_
       refine Zf P2 [(0, .pointer t_), (2, pv_ b_), (5, pv_ b_1), (6, sv_ l_), (7, .int .i64 i), (29, .bool (decide (i < ((v27.len : Nat) : Int))))] ?_
       change WpE _ _ c75_39 _ _ _
       refine Zc 29 (decide (i < ((v27.len : Nat) : Int))) c75_40 c75_41 (fun hb => ?_) (fun hb => ?_)
       · replace h := h.1 hb
         refine wpE_skip (by kernel_rfl) ?_
         change WpE _ _ c75_42 _ _ _
         refine wpE_seq_cut (x := c75_43) (y := c75_116) (by kernel_rfl) (fun l w => ∃ (l_1 : Slc), l = [(0, Value.pointer t_), (2, pv_ b_), (5, pv_ b_1), (6, sv_ l_1), (7, Value.int .i64 i)] ∧ F_towpathref17_Task_Answer_k1 i again_ l_1 w) ?_ ?_
         · refine Zb 1 c75_44 ?_
           refine Zt r75_45 c75_47 ?_
           refine Zn P1 1 [(0, [], .pointer t_), (2, [], pv_ b_), (5, [], pv_ b_1), (6, [], sv_ l_), (7, [], .int .i64 i), (32, [], .pointer t_)] ?_
           obtain ⟨hp_45, h⟩ := h
           refine Zv (fun pp => [(0, [], .pointer t_), (2, [], pv_ b_), (5, [], pv_ b_1), (6, [], sv_ l_), (7, [], .int .i64 i), (32, [], .pointer pp)]) hp_45 ?_
           refine Zn P1 2 [(0, [], .pointer t_), (2, [], pv_ b_), (5, [], pv_ b_1), (6, [], sv_ l_), (7, [], .int .i64 i), (32, [], .pointer (some ⟨(pblk t_), (poff t_), none⟩)), (33, [], .pointer (some ⟨(pblk t_), (poff t_), none⟩))] ?_
           refine Zn P1 3 [(0, [], .pointer t_), (2, [], pv_ b_), (5, [], pv_ b_1), (6, [], sv_ l_), (7, [], .int .i64 i), (34, [], .pointer (some ⟨(pblk t_), (poff t_) + 13, none⟩))] ?_
           obtain ⟨v35, hc, h⟩ := h
           refine Zl 101 34 (pblk t_) ((poff t_) + 13) 101 35 hc ?_
           refine Zn P1 5 [(0, [], .pointer t_), (2, [], pv_ b_), (5, [], pv_ b_1), (6, [], sv_ l_), (7, [], .int .i64 i), (35, [], sv_ v35), (36, [], .int .i64 i)] ?_
           obtain ⟨hp_46, h⟩ := h
           refine Zv (fun pp => [(0, [], .pointer t_), (2, [], pv_ b_), (5, [], pv_ b_1), (6, [], sv_ l_), (7, [], .int .i64 i), (35, [], .slice pp v35.len v35.cap), (36, [], .int .i64 i)]) hp_46 ?_
           obtain ⟨h0, h1, h⟩ := h
           refine Zj 101 95 35 36 (pblk v35.ptr) (poff v35.ptr) v35.len v35.cap i 5 37 0 h0 h1 ?_
           refine Zn [] 6 [(0, [], .pointer t_), (2, [], pv_ b_), (5, [], pv_ b_1), (6, [], sv_ l_), (7, [], .int .i64 i), (37, [], .pointer (some ⟨(pblk v35.ptr), (poff v35.ptr) + i.toNat * 5, none⟩))] ?_
           obtain ⟨v38, hc, h⟩ := h
           refine reg_loadN (t := 95) (a := (Operand.tmp 37)) (b := (pblk v35.ptr)) (o := ((poff v35.ptr) + i.toNat * 5)) (ty := 95) (dst := some 38) [Value.int .i64 v38.To, Value.bool v38.OK, sv_ v38.Entries, sv_ v38.Held, Value.int .i64 v38.Count] (by kernel_rfl) (by kernel_rfl) (by kernel_rfl) (k := 5) (by kernel_rfl) (by kernel_rfl) hc ?_
           refine Zn [] 7 [(0, [], .pointer t_), (2, [], pv_ b_), (5, [], pv_ b_1), (6, [], sv_ l_), (7, [], .int .i64 i), (38, [], .agg #[.int .i64 v38.To, .bool v38.OK, sv_ v38.Entries, sv_ v38.Held, .int .i64 v38.Count])] ?_
           refine Zw (some 8) (fun bb => pv_ bb) (Obj.cells ([.int .i64 0, .bool false, .slice none 0 0, .slice none 0 0, .int .i64 0]).toArray ty_api_Resp (0, 0)) (fun b_2 w9 hb hw => ?_)
           replace h := h b_2 w9 hb hw
           clear hb hw
           refine Zn [] 8 [(0, [], .pointer t_), (2, [], pv_ b_), (5, [], pv_ b_1), (6, [], sv_ l_), (7, [], .int .i64 i), (8, [], pv_ b_2), (38, [], .agg #[.int .i64 v38.To, .bool v38.OK, sv_ v38.Entries, sv_ v38.Held, .int .i64 v38.Count])] ?_
           obtain ⟨hc, h⟩ := h
           refine Zo 95 8 38 b_2 0 5 [.int .i64 v38.To, .bool v38.OK, sv_ v38.Entries, sv_ v38.Held, .int .i64 v38.Count] hc (fun w10 hw => ?_)
           replace h := h w10 hw
           clear hw
           refine Ze [(0, .pointer t_), (2, pv_ b_), (5, pv_ b_1), (6, sv_ l_), (7, .int .i64 i), (8, pv_ b_2)] ?_
           change WpE _ _ c75_47 _ _ _
           refine Zt r75_48 c75_50 ?_
           refine Zn P1 1 [(0, [], .pointer t_), (2, [], pv_ b_), (5, [], pv_ b_1), (6, [], sv_ l_), (7, [], .int .i64 i), (8, [], pv_ b_2), (39, [], .pointer t_)] ?_
           obtain ⟨hp_48, h⟩ := h
           refine Zv (fun pp => [(0, [], .pointer t_), (2, [], pv_ b_), (5, [], pv_ b_1), (6, [], sv_ l_), (7, [], .int .i64 i), (8, [], pv_ b_2), (39, [], .pointer pp)]) hp_48 ?_
           refine Zn P1 2 [(0, [], .pointer t_), (2, [], pv_ b_), (5, [], pv_ b_1), (6, [], sv_ l_), (7, [], .int .i64 i), (8, [], pv_ b_2), (39, [], .pointer (some ⟨(pblk t_), (poff t_), none⟩)), (40, [], .pointer (some ⟨(pblk t_), (poff t_), none⟩))] ?_
           refine Zn P2 4 [(0, [], .pointer t_), (2, [], pv_ b_), (5, [], pv_ b_1), (6, [], sv_ l_), (7, [], .int .i64 i), (8, [], pv_ b_2), (42, [], .pointer (some ⟨(pblk t_), (poff t_) + 5, none⟩))] ?_
           obtain ⟨v43, hc, h⟩ := h
           refine Zl 63 42 (pblk t_) ((poff t_) + 5) 63 43 hc ?_
           refine Ze [(0, .pointer t_), (2, pv_ b_), (5, pv_ b_1), (6, sv_ l_), (7, .int .i64 i), (8, pv_ b_2), (43, .int .u8 v43)] ?_
           change WpE _ _ c75_50 _ _ _
           refine Zb 2 c75_51 ?_
           refine Zp c75_54 P2 [(0, .pointer t_), (2, pv_ b_), (5, pv_ b_1), (6, sv_ l_), (7, .int .i64 i), (8, pv_ b_2), (43, .int .u8 v43), (44, .bool (v43 == 1))] ?_
           refine Zc 44 (v43 == 1) c75_55 c75_65 (fun hb => ?_) (fun hb => ?_)
           · replace h := h.1 hb
             refine Zt r75_56 c75_58 ?_
             refine Zn P1 1 [(0, [], .pointer t_), (2, [], pv_ b_), (5, [], pv_ b_1), (6, [], sv_ l_), (7, [], .int .i64 i), (8, [], pv_ b_2), (46, [], .pointer (some ⟨b_2, 2, none⟩))] ?_
             obtain ⟨v47, hc, h⟩ := h
             refine Zl 92 46 b_2 2 92 47 hc ?_
             refine Zn P3 5 [(0, [], .pointer t_), (2, [], pv_ b_), (5, [], pv_ b_1), (6, [], sv_ l_), (7, [], .int .i64 i), (8, [], pv_ b_2), (49, [], .bool (((v47.len : Nat) : Int) == 1)), (50, [], .pointer (some ⟨b_1, 2, none⟩))] ?_
             obtain ⟨hc, h⟩ := h
             refine Zo 4 50 49 b_1 2 1 [.bool (((v47.len : Nat) : Int) == 1)] hc (fun w11 hw => ?_)
             replace h := h w11 hw
             clear hw
             refine Ze [(0, .pointer t_), (2, pv_ b_), (5, pv_ b_1), (6, sv_ l_), (7, .int .i64 i), (8, pv_ b_2)] ?_
             change WpE _ _ c75_58 _ _ _
             refine Zt r75_59 c75_61 ?_
             refine Zn P1 1 [(0, [], .pointer t_), (2, [], pv_ b_), (5, [], pv_ b_1), (6, [], sv_ l_), (7, [], .int .i64 i), (8, [], pv_ b_2), (51, [], .pointer (some ⟨b_1, 2, none⟩))] ?_
             obtain ⟨v52, hc, h⟩ := h
             refine Zl 4 51 b_1 2 4 52 hc ?_
             refine Ze [(0, .pointer t_), (2, pv_ b_), (5, pv_ b_1), (6, sv_ l_), (7, .int .i64 i), (8, pv_ b_2), (52, .bool v52)] ?_
             change WpE _ _ c75_61 _ _ _
             refine Zc 52 v52 c75_62 c75_64 (fun hb => ?_) (fun hb => ?_)
             · replace h := h.1 hb
               refine wpE_mixregion (id := 15) (ops := r75_62) o_towpathref17_Task_Answer_62 (by kernel_rfl) (by kernel_rfl) (by kernel_rfl) (by kernel_rfl) (fun w12 hw => ?_)
               replace h := h w12 hw
               clear hw
               refine mreg_run P1 1 [(0, [], Value.pointer t_), (2, [], pv_ b_), (5, [], pv_ b_1), (6, [], sv_ l_), (7, [], Value.int .i64 i), (8, [], pv_ b_2), (53, [], Value.pointer (some ⟨b_1, 3, none⟩))] (by kernel_rfl) (by kernel_rfl) ?_
               obtain ⟨v54, hc, h⟩ := h
               refine mreg_load1 (i := 1) (by kernel_rfl) (t := 92) (a := (Operand.tmp 53)) (b := b_1) (o := 3) (ty := 92) (dst := some 54) (by kernel_rfl) (by kernel_rfl) (by kernel_rfl) hc ?_
               refine mreg_run P1 3 [(0, [], Value.pointer t_), (2, [], pv_ b_), (5, [], pv_ b_1), (6, [], sv_ l_), (7, [], Value.int .i64 i), (54, [], sv_ v54), (55, [], Value.pointer (some ⟨b_2, 2, none⟩))] (by kernel_rfl) (by kernel_rfl) ?_
               obtain ⟨v56, hc, h⟩ := h
               refine mreg_load1 (i := 3) (by kernel_rfl) (t := 92) (a := (Operand.tmp 55)) (b := b_2) (o := 2) (ty := 92) (dst := some 56) (by kernel_rfl) (by kernel_rfl) (by kernel_rfl) hc ?_
               refine mreg_run [] 4 [(0, [], Value.pointer t_), (2, [], pv_ b_), (5, [], pv_ b_1), (6, [], sv_ l_), (7, [], Value.int .i64 i), (54, [], sv_ v54), (56, [], sv_ v56)] (by kernel_rfl) (by kernel_rfl) ?_
               obtain ⟨hp_49, h⟩ := h
               refine mreg_conv [(0, [], Value.pointer t_), (2, [], pv_ b_), (5, [], pv_ b_1), (6, [], sv_ l_), (7, [], Value.int .i64 i), (54, [], sv_ v54), (56, [], Value.slice (some ⟨(pblk v56.ptr), (poff v56.ptr), none⟩) v56.len v56.cap)] (congrArg (fun pp => ([(0, [], Value.pointer t_), (2, [], pv_ b_), (5, [], pv_ b_1), (6, [], sv_ l_), (7, [], Value.int .i64 i), (54, [], sv_ v54), (56, [], Value.slice pp v56.len v56.cap)] : GEnv)) hp_49) ?_
               obtain ⟨h0, h1, h⟩ := h
               refine mreg_indexS (i := 4) (by kernel_rfl) (t := 92) (e := 140) (x := (Operand.tmp 56)) (ix := (Operand.const (Value.int Go.IntKind.i64 0))) (b := (pblk v56.ptr)) (o := (poff v56.ptr)) (l := v56.len) (c := v56.cap) (k := .i64) (j := 0) (ty := 0) (dst := some 57) (sz := 2) (by kernel_rfl) (by kernel_rfl) (by kernel_rfl) (by kernel_rfl) (by kernel_rfl) h0 h1 ?_
               refine mreg_run [] 5 [(0, [], Value.pointer t_), (2, [], pv_ b_), (5, [], pv_ b_1), (6, [], sv_ l_), (7, [], Value.int .i64 i), (54, [], sv_ v54), (57, [], Value.pointer (some ⟨(pblk v56.ptr), (poff v56.ptr), none⟩))] (by kernel_rfl) (by kernel_rfl) ?_
               obtain ⟨v58, hc, h⟩ := h
               refine mreg_loadN (i := 5) (by kernel_rfl) (t := 140) (a := (Operand.tmp 57)) (b := (pblk v56.ptr)) (o := (poff v56.ptr)) (ty := 140) (dst := some 58) [Value.string v58.Key, Value.string v58.Val] (by kernel_rfl) (by kernel_rfl) (by kernel_rfl) (k := 2) (by kernel_rfl) (by kernel_rfl) hc ?_
               refine mreg_run [] 6 [(0, [], Value.pointer t_), (2, [], pv_ b_), (5, [], pv_ b_1), (6, [], sv_ l_), (7, [], Value.int .i64 i), (54, [], sv_ v54), (58, [], Value.agg #[Value.string v58.Key, Value.string v58.Val])] (by kernel_rfl) (by kernel_rfl) ?_
               refine mreg_new (op := (Op.buildSlice 92 1 #[(0, (Operand.tmp 58))])) (ty := 92) (dst := some 59) 6 [5, 4, 3, 2] [(1, fun w' => w'.cell? ⟨b_1, 3, none⟩ = some (sv_ v54))] (fun bb => Value.slice (some ⟨bb, 0, none⟩) 1 1) (Obj.cells ([Value.string v58.Key, Value.string v58.Val]).toArray ty_api_Entry (0, 0)) (by kernel_rfl) (by kernel_rfl) (by kernel_rfl) (by kernel_rfl) (by kernel_rfl) (by kernel_rfl) (fun b_3 w13 hb hw => ?_)
               replace h := h b_3 w13 hb hw
               clear hb hw
               obtain ⟨hk0, h⟩ := h
               refine ⟨⟨hk0, trivial⟩, ?_⟩
               refine mreg_run [] 7 [(0, [], Value.pointer t_), (2, [], pv_ b_), (5, [], pv_ b_1), (6, [], sv_ l_), (7, [], Value.int .i64 i), (54, [], sv_ v54), (59, [], Value.slice (some ⟨b_3, 0, none⟩) 1 1)] (by kernel_rfl) (by kernel_rfl) ?_
               obtain ⟨src, hs, h⟩ := h
               refine mreg_append (t := 92) (tx := 92) (e := 140) (a := (Operand.tmp 54)) (xo := (Operand.tmp 59)) (s := v54) (x := (Slc.mk (some ⟨b_3, 0, none⟩) 1 1)) (sz := 2) (by_ := 32) (zs := [Value.string ByteArray.empty, Value.string ByteArray.empty]) (ty := 92) (dst := some 60) 7 [1, 6, 0, 5, 4, 3, 2] [] src (by kernel_rfl) (by kernel_rfl) (by kernel_rfl) (by kernel_rfl) (by kernel_rfl) (by kernel_rfl) (by kernel_rfl) (by kernel_rfl) (by kernel_rfl) (by kernel_rfl) (by kernel_rfl) (by kernel_rfl) (by kernel_rfl) hs (AppendW.mono h (fun v60 w14 h => ?_))
               refine ⟨trivial, ?_⟩
               refine mreg_run P1 9 [(0, [], Value.pointer t_), (2, [], pv_ b_), (5, [], pv_ b_1), (6, [], sv_ l_), (7, [], Value.int .i64 i), (60, [], sv_ v60), (61, [], Value.pointer (some ⟨b_1, 3, none⟩))] (by kernel_rfl) (by kernel_rfl) ?_
               obtain ⟨hc, h⟩ := h
               refine mreg_store (t := 92) (a := (Operand.tmp 61)) (x := (Operand.tmp 60)) (b := b_1) (o := 3) (k := 1) (ty := 0) (dst := none) 9 [0, 1, 2, 3, 4, 5, 6, 7, 8] [] [sv_ v60] (by kernel_rfl) (by kernel_rfl) (by kernel_rfl) (by kernel_rfl) (by kernel_rfl) (by kernel_rfl) (by kernel_rfl) (by kernel_rfl) (by kernel_rfl) (by kernel_rfl) hc (fun w15 hw => ?_)
               replace h := h w15 hw
               clear hw
               refine ⟨trivial, ?_⟩
               refine mreg_end [(0, Value.pointer t_), (2, pv_ b_), (5, pv_ b_1), (6, sv_ l_), (7, Value.int .i64 i)] (by kernel_rfl) (by kernel_rfl) (by kernel_rfl) ?_
               exact ⟨[(0, Value.pointer t_), (2, pv_ b_), (5, pv_ b_1), (6, sv_ l_), (7, Value.int .i64 i)], Sub.mk (by kernel_rfl), l_, rfl, h⟩
             · replace h := h.2 hb
               refine wpE_skip (by kernel_rfl) ?_
               exact ⟨[(0, Value.pointer t_), (2, pv_ b_), (5, pv_ b_1), (6, sv_ l_), (7, Value.int .i64 i)], Sub.mk (by kernel_rfl), l_, rfl, h⟩
           · replace h := h.2 hb
             refine Zp c75_68 P2 [(0, .pointer t_), (2, pv_ b_), (5, pv_ b_1), (6, sv_ l_), (7, .int .i64 i), (8, pv_ b_2), (43, .int .u8 v43), (62, .bool (v43 == 2))] ?_
             refine Zc 62 (v43 == 2) c75_69 c75_87 (fun hb => ?_) (fun hb => ?_)
             · replace h := h.1 hb
               refine Zp c75_72 P1 [(0, .pointer t_), (2, pv_ b_), (5, pv_ b_1), (6, sv_ l_), (7, .int .i64 i), (8, pv_ b_2), (9, .int .i64 0)] ?_
               refine Zb 3 c75_73 ?_
               obtain ⟨I, μ, h0, hr⟩ := h
               refine wpE_loop (x := c75_74) (by kernel_rfl) (fun m l w => ∃ (k_ : Int), l = [(0, Value.pointer t_), (2, pv_ b_), (5, pv_ b_1), (6, sv_ l_), (7, Value.int .i64 i), (8, pv_ b_2), (9, Value.int .i64 k_)] ∧ I k_ w ∧ μ k_ w = m) (l' := [(0, Value.pointer t_), (2, pv_ b_), (5, pv_ b_1), (6, sv_ l_), (7, Value.int .i64 i), (8, pv_ b_2), (9, Value.int .i64 0)]) (Sub.mk (by kernel_rfl)) ⟨0, rfl, h0, rfl⟩ ?_
               rintro _ _ w16 ⟨k_, rfl, hI, rfl⟩
               obtain ⟨again_1, again_1_h, h⟩ : ∃ again_1 : Int → World → Prop, (∀ k_' w', again_1 k_' w' → I k_' w' ∧ μ k_' w' < μ k_ w16) ∧ F_towpathref17_Task_Answer_L2 b_1 l_ i again_ b_2 again_1 k_ w16 := ⟨_, fun _ _ h => h, hr k_ w16 hI⟩
               clear h0 hI
               unfold F_towpathref17_Task_Answer_L2 at h
               refine Zs c75_75 c75_81 ?_
               refine Zt r75_76 c75_78 ?_
               refine Zn P2 2 [(0, [], .pointer t_), (2, [], pv_ b_), (5, [], pv_ b_1), (6, [], sv_ l_), (7, [], .int .i64 i), (8, [], pv_ b_2), (9, [], .int .i64 k_), (64, [], .int .i64 k_), (65, [], .pointer (some ⟨b_2, 2, none⟩))] ?_
               obtain ⟨v66, hc, h⟩ := h
               refine Zl 92 65 b_2 2 92 66 hc ?_
               refine Zf P2 [(0, .pointer t_), (2, pv_ b_), (5, pv_ b_1), (6, sv_ l_), (7, .int .i64 i), (8, pv_ b_2), (9, .int .i64 k_), (68, .bool (decide (k_ < ((v66.len : Nat) : Int))))] ?_
               change WpE _ _ c75_78 _ _ _
               refine Zc 68 (decide (k_ < ((v66.len : Nat) : Int))) c75_79 c75_80 (fun hb => ?_) (fun hb => ?_)
               · replace h := h.1 hb
                 refine wpE_skip (by kernel_rfl) ?_
                 change WpE _ _ c75_81 _ _ _
                 refine Zs c75_82 c75_85 ?_
                 refine Zb 4 c75_83 ?_
                 refine wpE_tailregion (id := 20) (ops := r75_83) (by kernel_rfl) 7 (by kernel_rfl) (by kernel_rfl) (fun w17 hw => ?_)
                 replace h := h w17 hw
                 clear hw
                 refine qreg_run P1 1 [(0, [], Value.pointer t_), (2, [], pv_ b_), (5, [], pv_ b_1), (6, [], sv_ l_), (7, [], Value.int .i64 i), (8, [], pv_ b_2), (9, [], Value.int .i64 k_), (71, [], Value.pointer (some ⟨b_1, 3, none⟩))] (by kernel_rfl) (by kernel_rfl) ?_
                 obtain ⟨v72, hc, h⟩ := h
                 refine qreg_load1 (t := 92) (a := (Operand.tmp 71)) (b := b_1) (o := 3) (ty := 92) (dst := some 72) (by kernel_rfl) (by kernel_rfl) (by kernel_rfl) hc ?_
                 refine qreg_run P1 3 [(0, [], Value.pointer t_), (2, [], pv_ b_), (5, [], pv_ b_1), (6, [], sv_ l_), (7, [], Value.int .i64 i), (8, [], pv_ b_2), (9, [], Value.int .i64 k_), (72, [], sv_ v72), (73, [], Value.pointer (some ⟨b_2, 2, none⟩))] (by kernel_rfl) (by kernel_rfl) ?_
                 obtain ⟨v74, hc, h⟩ := h
                 refine qreg_load1 (t := 92) (a := (Operand.tmp 73)) (b := b_2) (o := 2) (ty := 92) (dst := some 74) (by kernel_rfl) (by kernel_rfl) (by kernel_rfl) hc ?_
                 refine qreg_run P1 5 [(0, [], Value.pointer t_), (2, [], pv_ b_), (5, [], pv_ b_1), (6, [], sv_ l_), (7, [], Value.int .i64 i), (8, [], pv_ b_2), (9, [], Value.int .i64 k_), (72, [], sv_ v72), (74, [], sv_ v74), (75, [], Value.int .i64 k_)] (by kernel_rfl) (by kernel_rfl) ?_
                 obtain ⟨hp_51, h⟩ := h
                 refine qreg_conv [(0, [], Value.pointer t_), (2, [], pv_ b_), (5, [], pv_ b_1), (6, [], sv_ l_), (7, [], Value.int .i64 i), (8, [], pv_ b_2), (9, [], Value.int .i64 k_), (72, [], sv_ v72), (74, [], Value.slice (some ⟨(pblk v74.ptr), (poff v74.ptr), none⟩) v74.len v74.cap), (75, [], Value.int .i64 k_)] (congrArg (fun pp => ([(0, [], Value.pointer t_), (2, [], pv_ b_), (5, [], pv_ b_1), (6, [], sv_ l_), (7, [], Value.int .i64 i), (8, [], pv_ b_2), (9, [], Value.int .i64 k_), (72, [], sv_ v72), (74, [], Value.slice pp v74.len v74.cap), (75, [], Value.int .i64 k_)] : GEnv)) hp_51) ?_
                 obtain ⟨h0, h1, h⟩ := h
                 refine qreg_indexS (t := 92) (e := 140) (x := (Operand.tmp 74)) (ix := (Operand.tmp 75)) (b := (pblk v74.ptr)) (o := (poff v74.ptr)) (l := v74.len) (c := v74.cap) (k := .i64) (j := k_) (ty := 0) (dst := some 76) (sz := 2) (by kernel_rfl) (by kernel_rfl) (by kernel_rfl) (by kernel_rfl) (by kernel_rfl) h0 h1 ?_
                 refine qreg_run [] 6 [(0, [], Value.pointer t_), (2, [], pv_ b_), (5, [], pv_ b_1), (6, [], sv_ l_), (7, [], Value.int .i64 i), (8, [], pv_ b_2), (9, [], Value.int .i64 k_), (72, [], sv_ v72), (76, [], Value.pointer (some ⟨(pblk v74.ptr), (poff v74.ptr) + k_.toNat * 2, none⟩))] (by kernel_rfl) (by kernel_rfl) ?_
                 obtain ⟨v77, hc, h⟩ := h
                 refine qreg_loadN (t := 140) (a := (Operand.tmp 76)) (b := (pblk v74.ptr)) (o := ((poff v74.ptr) + k_.toNat * 2)) (ty := 140) (dst := some 77) [Value.string v77.Key, Value.string v77.Val] (by kernel_rfl) (by kernel_rfl) (by kernel_rfl) (k := 2) (by kernel_rfl) (by kernel_rfl) hc ?_
                 refine qreg_run [] 7 [(0, [], Value.pointer t_), (2, [], pv_ b_), (5, [], pv_ b_1), (6, [], sv_ l_), (7, [], Value.int .i64 i), (8, [], pv_ b_2), (9, [], Value.int .i64 k_), (72, [], sv_ v72), (77, [], Value.agg #[Value.string v77.Key, Value.string v77.Val])] (by kernel_rfl) (by kernel_rfl) ?_
                 refine qreg_tail (by kernel_rfl) ?_
                 refine Zn [] 7 [(0, [], .pointer t_), (2, [], pv_ b_), (5, [], pv_ b_1), (6, [], sv_ l_), (7, [], .int .i64 i), (8, [], pv_ b_2), (9, [], .int .i64 k_), (72, [], sv_ v72), (77, [], .agg #[.string v77.Key, .string v77.Val])] ?_
                 refine Zm 104 #[sv_ v72, .agg #[.string v77.Key, .string v77.Val]] (some 78) (Calls.mono h ?_)
                 rintro _ w18 ⟨v78, rfl, h⟩
                 refine ⟨_, rfl, ?_⟩
                 refine Zn P1 9 [(0, [], .pointer t_), (2, [], pv_ b_), (5, [], pv_ b_1), (6, [], sv_ l_), (7, [], .int .i64 i), (8, [], pv_ b_2), (9, [], .int .i64 k_), (78, [], sv_ v78), (79, [], .pointer (some ⟨b_1, 3, none⟩))] ?_
                 obtain ⟨hc, h⟩ := h
                 refine Zo 92 79 78 b_1 3 1 [sv_ v78] hc (fun w19 hw => ?_)
                 replace h := h w19 hw
                 clear hw
                 refine Ze [(0, .pointer t_), (2, pv_ b_), (5, pv_ b_1), (6, sv_ l_), (7, .int .i64 i), (8, pv_ b_2), (9, .int .i64 k_)] ?_
                 change WpE _ _ c75_85 _ _ _
                 refine Zr r75_85 ?_
                 refine Zf P3 [(0, .pointer t_), (2, pv_ b_), (5, pv_ b_1), (6, sv_ l_), (7, .int .i64 i), (8, pv_ b_2), (9, .int .i64 (IntKind.i64.wrap (k_ + 1)))] ?_
                 have hb_ := again_1_h _ _ h
                 exact ⟨_, hb_.2, [(0, Value.pointer t_), (2, pv_ b_), (5, pv_ b_1), (6, sv_ l_), (7, Value.int .i64 i), (8, pv_ b_2), (9, Value.int .i64 (IntKind.i64.wrap (k_ + 1)))], Sub.mk (by kernel_rfl), (IntKind.i64.wrap (k_ + 1)), rfl, hb_.1, rfl⟩
               · replace h := h.2 hb
                 refine wpE_exit (id := 3) (by kernel_rfl) ?_
                 exact ⟨[(0, Value.pointer t_), (2, pv_ b_), (5, pv_ b_1), (6, sv_ l_), (7, Value.int .i64 i)], Sub.mk (by kernel_rfl), l_, rfl, h⟩
             · replace h := h.2 hb
               refine Zp c75_90 P2 [(0, .pointer t_), (2, pv_ b_), (5, pv_ b_1), (6, sv_ l_), (7, .int .i64 i), (8, pv_ b_2), (43, .int .u8 v43), (80, .bool (v43 == 3))] ?_
               refine Zc 80 (v43 == 3) c75_91 c75_93 (fun hb => ?_) (fun hb => ?_)
               · replace h := h.1 hb
                 refine Zr r75_91 ?_
                 refine Zn P1 1 [(0, [], .pointer t_), (2, [], pv_ b_), (5, [], pv_ b_1), (6, [], sv_ l_), (7, [], .int .i64 i), (8, [], pv_ b_2), (82, [], .pointer (some ⟨b_1, 4, none⟩))] ?_
                 obtain ⟨v83, hc, h⟩ := h
                 refine Zl 3 82 b_1 4 3 83 hc ?_
                 refine Zn P1 3 [(0, [], .pointer t_), (2, [], pv_ b_), (5, [], pv_ b_1), (6, [], sv_ l_), (7, [], .int .i64 i), (83, [], .int .i64 v83), (84, [], .pointer (some ⟨b_2, 4, none⟩))] ?_
                 obtain ⟨v85, hc, h⟩ := h
                 refine Zl 3 84 b_2 4 3 85 hc ?_
                 refine Zn P2 6 [(0, [], .pointer t_), (2, [], pv_ b_), (5, [], pv_ b_1), (6, [], sv_ l_), (7, [], .int .i64 i), (86, [], .int .i64 (IntKind.i64.wrap (v83 + v85))), (87, [], .pointer (some ⟨b_1, 4, none⟩))] ?_
                 obtain ⟨hc, h⟩ := h
                 refine Zo 3 87 86 b_1 4 1 [.int .i64 (IntKind.i64.wrap (v83 + v85))] hc (fun w20 hw => ?_)
                 replace h := h w20 hw
                 clear hw
                 refine Ze [(0, .pointer t_), (2, pv_ b_), (5, pv_ b_1), (6, sv_ l_), (7, .int .i64 i)] ?_
                 exact ⟨[(0, Value.pointer t_), (2, pv_ b_), (5, pv_ b_1), (6, sv_ l_), (7, Value.int .i64 i)], Sub.mk (by kernel_rfl), l_, rfl, h⟩
               · replace h := h.2 hb
                 refine Zp c75_96 P2 [(0, .pointer t_), (2, pv_ b_), (5, pv_ b_1), (6, sv_ l_), (7, .int .i64 i), (8, pv_ b_2), (88, .bool (v43 == 4))] ?_
                 refine Zc 88 (v43 == 4) c75_97 c75_115 (fun hb => ?_) (fun hb => ?_)
                 · replace h := h.1 hb
                   refine Zp c75_100 P1 [(0, .pointer t_), (2, pv_ b_), (5, pv_ b_1), (6, sv_ l_), (7, .int .i64 i), (8, pv_ b_2), (10, .int .i64 0)] ?_
                   refine Zb 5 c75_101 ?_
                   obtain ⟨I, μ, h0, hr⟩ := h
                   refine wpE_loop (x := c75_102) (by kernel_rfl) (fun m l w => ∃ (l_2 : Slc) (k_1 : Int), l = [(0, Value.pointer t_), (2, pv_ b_), (5, pv_ b_1), (6, sv_ l_2), (7, Value.int .i64 i), (8, pv_ b_2), (10, Value.int .i64 k_1)] ∧ I l_2 k_1 w ∧ μ l_2 k_1 w = m) (l' := [(0, Value.pointer t_), (2, pv_ b_), (5, pv_ b_1), (6, sv_ l_), (7, Value.int .i64 i), (8, pv_ b_2), (10, Value.int .i64 0)]) (Sub.mk (by kernel_rfl)) ⟨l_, 0, rfl, h0, rfl⟩ ?_
                   rintro _ _ w21 ⟨l_2, k_1, rfl, hI, rfl⟩
                   obtain ⟨again_2, again_2_h, h⟩ : ∃ again_2 : Slc → Int → World → Prop, (∀ l_2' k_1' w', again_2 l_2' k_1' w' → I l_2' k_1' w' ∧ μ l_2' k_1' w' < μ l_2 k_1 w21) ∧ F_towpathref17_Task_Answer_L3 i again_ b_2 again_2 l_2 k_1 w21 := ⟨_, fun _ _ _ h => h, hr l_2 k_1 w21 hI⟩
                   clear h0 hI
                   unfold F_towpathref17_Task_Answer_L3 at h
                   refine Zs c75_103 c75_109 ?_
                   refine Zt r75_104 c75_106 ?_
                   refine Zn P2 2 [(0, [], .pointer t_), (2, [], pv_ b_), (5, [], pv_ b_1), (6, [], sv_ l_2), (7, [], .int .i64 i), (8, [], pv_ b_2), (10, [], .int .i64 k_1), (90, [], .int .i64 k_1), (91, [], .pointer (some ⟨b_2, 3, none⟩))] ?_
                   obtain ⟨v92, hc, h⟩ := h
                   refine Zl 93 91 b_2 3 93 92 hc ?_
                   refine Zf P2 [(0, .pointer t_), (2, pv_ b_), (5, pv_ b_1), (6, sv_ l_2), (7, .int .i64 i), (8, pv_ b_2), (10, .int .i64 k_1), (94, .bool (decide (k_1 < ((v92.len : Nat) : Int))))] ?_
                   change WpE _ _ c75_106 _ _ _
                   refine Zc 94 (decide (k_1 < ((v92.len : Nat) : Int))) c75_107 c75_108 (fun hb => ?_) (fun hb => ?_)
                   · replace h := h.1 hb
                     refine wpE_skip (by kernel_rfl) ?_
                     change WpE _ _ c75_109 _ _ _
                     refine Zs c75_110 c75_113 ?_
                     refine Zb 6 c75_111 ?_
                     refine Zr r75_111 ?_
                     refine Zn P2 2 [(0, [], .pointer t_), (2, [], pv_ b_), (5, [], pv_ b_1), (6, [], sv_ l_2), (7, [], .int .i64 i), (8, [], pv_ b_2), (10, [], .int .i64 k_1), (97, [], sv_ l_2), (98, [], .pointer (some ⟨b_2, 3, none⟩))] ?_
                     obtain ⟨v99, hc, h⟩ := h
                     refine Zl 93 98 b_2 3 93 99 hc ?_
                     refine Zn P1 4 [(0, [], .pointer t_), (2, [], pv_ b_), (5, [], pv_ b_1), (6, [], sv_ l_2), (7, [], .int .i64 i), (8, [], pv_ b_2), (10, [], .int .i64 k_1), (97, [], sv_ l_2), (99, [], sv_ v99), (100, [], .int .i64 k_1)] ?_
                     obtain ⟨hp_53, h⟩ := h
                     refine Zv (fun pp => [(0, [], .pointer t_), (2, [], pv_ b_), (5, [], pv_ b_1), (6, [], sv_ l_2), (7, [], .int .i64 i), (8, [], pv_ b_2), (10, [], .int .i64 k_1), (97, [], sv_ l_2), (99, [], .slice pp v99.len v99.cap), (100, [], .int .i64 k_1)]) hp_53 ?_
                     obtain ⟨h0, h1, h⟩ := h
                     refine Zj 93 143 99 100 (pblk v99.ptr) (poff v99.ptr) v99.len v99.cap k_1 2 101 0 h0 h1 ?_
                     refine Zn [] 5 [(0, [], .pointer t_), (2, [], pv_ b_), (5, [], pv_ b_1), (6, [], sv_ l_2), (7, [], .int .i64 i), (8, [], pv_ b_2), (10, [], .int .i64 k_1), (97, [], sv_ l_2), (101, [], .pointer (some ⟨(pblk v99.ptr), (poff v99.ptr) + k_1.toNat * 2, none⟩))] ?_
                     obtain ⟨v102, hc, h⟩ := h
                     refine reg_loadN (t := 143) (a := (Operand.tmp 101)) (b := (pblk v99.ptr)) (o := ((poff v99.ptr) + k_1.toNat * 2)) (ty := 143) (dst := some 102) [Value.string v102.Key, sv_ v102.Versions] (by kernel_rfl) (by kernel_rfl) (by kernel_rfl) (k := 2) (by kernel_rfl) (by kernel_rfl) hc ?_
                     refine Zn [] 6 [(0, [], .pointer t_), (2, [], pv_ b_), (5, [], pv_ b_1), (6, [], sv_ l_2), (7, [], .int .i64 i), (8, [], pv_ b_2), (10, [], .int .i64 k_1), (97, [], sv_ l_2), (102, [], .agg #[.string v102.Key, sv_ v102.Versions])] ?_
                     refine Zm 105 #[sv_ l_2, .agg #[.string v102.Key, sv_ v102.Versions]] (some 103) (Calls.mono h ?_)
                     rintro _ w22 ⟨v103, rfl, h⟩
                     refine ⟨_, rfl, ?_⟩
                     refine Zf P1 [(0, .pointer t_), (2, pv_ b_), (5, pv_ b_1), (6, sv_ v103), (7, .int .i64 i), (8, pv_ b_2), (10, .int .i64 k_1)] ?_
                     change WpE _ _ c75_113 _ _ _
                     refine Zr r75_113 ?_
                     refine Zf P3 [(0, .pointer t_), (2, pv_ b_), (5, pv_ b_1), (6, sv_ v103), (7, .int .i64 i), (8, pv_ b_2), (10, .int .i64 (IntKind.i64.wrap (k_1 + 1)))] ?_
                     have hb_ := again_2_h _ _ _ h
                     exact ⟨_, hb_.2, [(0, Value.pointer t_), (2, pv_ b_), (5, pv_ b_1), (6, sv_ v103), (7, Value.int .i64 i), (8, pv_ b_2), (10, Value.int .i64 (IntKind.i64.wrap (k_1 + 1)))], Sub.mk (by kernel_rfl), v103, (IntKind.i64.wrap (k_1 + 1)), rfl, hb_.1, rfl⟩
                   · replace h := h.2 hb
                     refine wpE_exit (id := 5) (by kernel_rfl) ?_
                     exact ⟨[(0, Value.pointer t_), (2, pv_ b_), (5, pv_ b_1), (6, sv_ l_2), (7, Value.int .i64 i)], Sub.mk (by kernel_rfl), l_2, rfl, h⟩
                 · replace h := h.2 hb
                   refine wpE_skip (by kernel_rfl) ?_
                   exact ⟨[(0, Value.pointer t_), (2, pv_ b_), (5, pv_ b_1), (6, sv_ l_), (7, Value.int .i64 i)], Sub.mk (by kernel_rfl), l_, rfl, h⟩
         · rintro _ w8 ⟨l_1, rfl, h⟩
           unfold F_towpathref17_Task_Answer_k1 at h
           refine Zr r75_116 ?_
           refine Zf P3 [(0, .pointer t_), (2, pv_ b_), (5, pv_ b_1), (6, sv_ l_1), (7, .int .i64 (IntKind.i64.wrap (i + 1)))] ?_
           have hb_ := again__h _ _ _ h
           exact ⟨_, hb_.2, [(0, Value.pointer t_), (2, pv_ b_), (5, pv_ b_1), (6, sv_ l_1), (7, Value.int .i64 (IntKind.i64.wrap (i + 1)))], Sub.mk (by kernel_rfl), l_1, (IntKind.i64.wrap (i + 1)), rfl, hb_.1, rfl⟩
       · replace h := h.2 hb
         refine wpE_exit (id := 0) (by kernel_rfl) ?_
         change WpE _ _ c75_118 _ _ _
         refine Zt r75_119 c75_121 ?_
         refine Zn [] 0 [(2, [], pv_ b_), (5, [], pv_ b_1), (6, [], sv_ l_)] ?_
         obtain ⟨v104, hc, h⟩ := h
         refine reg_loadN (t := 125) (a := (Operand.tmp 5)) (b := b_1) (o := 0) (ty := 125) (dst := some 104) [Value.int .i64 v104.Code, Value.int .i64 v104.Mark, Value.bool v104.OK, sv_ v104.Entries, Value.int .i64 v104.Count] (by kernel_rfl) (by kernel_rfl) (by kernel_rfl) (k := 5) (by kernel_rfl) (by kernel_rfl) hc ?_
         refine Zn P1 2 [(2, [], pv_ b_), (104, [], .agg #[.int .i64 v104.Code, .int .i64 v104.Mark, .bool v104.OK, sv_ v104.Entries, .int .i64 v104.Count]), (105, [], sv_ l_)] ?_
         obtain ⟨hc, h⟩ := h
         refine Zo 125 2 104 b_ 0 5 [.int .i64 v104.Code, .int .i64 v104.Mark, .bool v104.OK, sv_ v104.Entries, .int .i64 v104.Count] hc (fun w23 hw => ?_)
         replace h := h w23 hw
         clear hw
         refine Zf P2 [(2, pv_ b_), (3, sv_ l_), (4, .int .i64 0)] ?_
         change WpE _ _ c75_121 _ _ _
         refine wpE_ret (by kernel_rfl) ?_
         obtain ⟨res2, hc_res2, h⟩ := h
         repeat (first | refine seqQ_ret ?_ | refine blockQ_ret ?_ | refine loopQ_ret ?_ | refine cutQ_ret ?_)
         exact retT (rs := [(ResultVar.cell 2 125), (ResultVar.tmp 3), (ResultVar.tmp 4)]) (vs := [Value.agg #[Value.int .i64 res2.Code, Value.int .i64 res2.Mark, Value.bool res2.OK, sv_ res2.Entries, Value.int .i64 res2.Count], sv_ l_, Value.int .i64 0]) (by kernel_rfl) (⟨b_, 0, [Value.int .i64 res2.Code, Value.int .i64 res2.Mark, Value.bool res2.OK, sv_ res2.Entries, Value.int .i64 res2.Count], by kernel_rfl, hc_res2, (sizeP_of (k := 5) (by kernel_rfl) (by kernel_rfl)), .inl ⟨by kernel_rfl, rfl⟩, ⟨by kernel_rfl, ⟨by kernel_rfl, trivial⟩⟩⟩) (by kernel_rfl) ⟨res2, l_, 0, rfl, h⟩
 · rintro e w' ⟨v, rfl, r0, r1, r2, rfl, h⟩; exact ⟨r0, r1, r2, rfl, h⟩

/-! ### (*towpath/towpathref17.Task).Mark (function 77) -/
def c77_0 := cb_ Try.f77
def c77_3 := cr_ c77_0
def c77_4 := cl_ c77_3
def c77_5 := cl_ c77_4
def r77_5 := co_ c77_5
def c77_7 := cr_ c77_4
def c77_8 := cl_ c77_7
def c77_11 := cr_ c77_8
def c77_12 := cr_ c77_7
def c77_13 := cr_ c77_3
def c77_14 := cl_ c77_13
def r77_14 := co_ c77_14
def c77_16 := cr_ c77_13

theorem S_towpathref17_Task_Mark {t_ : Option Addr} {w : World} {R : Int → Bool → World → Prop} (h : F_towpathref17_Task_Mark t_ R w) : C_towpathref17_Task_Mark t_ w R := by
 unfold F_towpathref17_Task_Mark at h
 unfold C_towpathref17_Task_Mark
 refine Calls.mono (calls_of_wpE (args := [Value.pointer t_]) (R := fun v w' => ∃ (r0 : Int) (r1 : Bool), v = Value.tuple #[Value.int .i64 r0, Value.bool r1] ∧ R r0 r1 w') Try.func77 (c := c77_0) (by kernel_rfl) 17 (by kernel_rfl) (by kernel_rfl) [(0, Value.pointer t_)] (by kernel_rfl) ?_) ?_
 · refine Zp c77_3 P2 [(0, .pointer t_)] ?_
   refine Zs c77_4 c77_13 ?_
   refine wpE_seq_cut (x := c77_5) (y := c77_7) (by kernel_rfl) (fun l w => ∃ (t12 : Bool), l = [(0, Value.pointer t_), (12, Value.bool t12)] ∧ F_towpathref17_Task_Mark_k0 t_ R t12 w) ?_ ?_
   · refine Zr r77_5 ?_
     refine Zn P1 1 [(0, [], .pointer t_), (4, [], .pointer t_)] ?_
     refine reg_val (op := (Op.binOp BinOp.eql 87 (Operand.tmp 4) (Operand.const (Value.pointer none)) 87)) (ty := 4) (dst := some 5) (Value.bool t_.isNone) (by kernel_rfl) (fun ww => run_ptr_eql_R (p := t_) (by kernel_rfl) (by kernel_rfl) (by kernel_rfl) ww) ?_
     refine Zn P2 4 [(0, [], .pointer t_), (6, [], .bool t_.isNone), (7, [(6, false)], .pointer t_)] ?_
     refine reg_split 6 t_.isNone (by kernel_rfl) (fun hb => ?_) (fun hb => ?_)
     · replace h := h.1 hb
       refine Zn [] 4 [(0, [], .pointer t_), (6, [], .bool true), (7, [], undef)] ?_
       refine Zf [.skip, .skip, .skip, .skip, .plain] [(0, .pointer t_), (12, .bool true)] ?_
       exact ⟨[(0, Value.pointer t_), (12, Value.bool true)], Sub.mk (by kernel_rfl), true, rfl, h⟩
     · replace h := h.2 hb
       refine Zn [] 4 [(0, [], .pointer t_), (6, [], .bool false), (7, [], .pointer t_)] ?_
       refine Zn [] 4 [(0, [], .pointer t_), (6, [], .bool false), (7, [], .pointer t_)] ?_
       obtain ⟨hp_4, h⟩ := h
       refine Zv (fun pp => [(0, [], .pointer t_), (6, [], .bool false), (7, [], .pointer pp)]) hp_4 ?_
       refine Zn [.sure] 5 [(0, [], .pointer t_), (6, [], .bool false), (7, [], .pointer (some ⟨(pblk t_), (poff t_), none⟩)), (8, [], .pointer (some ⟨(pblk t_), (poff t_), none⟩))] ?_
       refine Zn [.sure] 6 [(0, [], .pointer t_), (6, [], .bool false), (9, [], .pointer (some ⟨(pblk t_), (poff t_) + 8, none⟩))] ?_
       obtain ⟨v10, hc, h⟩ := h
       refine Zl 4 9 (pblk t_) ((poff t_) + 8) 4 10 hc ?_
       refine Zf [.sure, .plain] [(0, .pointer t_), (12, .bool (!v10))] ?_
       exact ⟨[(0, Value.pointer t_), (12, Value.bool (!v10))], Sub.mk (by kernel_rfl), (!v10), rfl, h⟩
   · rintro _ w1 ⟨t12, rfl, h⟩
     unfold F_towpathref17_Task_Mark_k0 at h
     refine Zc 12 t12 c77_8 c77_12 (fun hb => ?_) (fun hb => ?_)
     · replace h := h.1 hb
       refine Zp c77_11 P2 [(2, .int .i64 0), (3, .bool false)] ?_
       refine wpE_ret (by kernel_rfl) ?_
       repeat (first | refine seqQ_ret ?_ | refine blockQ_ret ?_ | refine loopQ_ret ?_ | refine cutQ_ret ?_)
       exact retT (rs := [(ResultVar.tmp 2), (ResultVar.tmp 3)]) (vs := [Value.int .i64 0, Value.bool false]) (by kernel_rfl) (⟨by kernel_rfl, ⟨by kernel_rfl, trivial⟩⟩) (by kernel_rfl) ⟨0, false, rfl, h⟩
     · replace h := h.2 hb
       refine wpE_skip (by kernel_rfl) ?_
       change WpE _ _ c77_13 _ _ _
       refine Zt r77_14 c77_16 ?_
       refine Zn P1 1 [(13, [], .pointer t_)] ?_
       obtain ⟨hp_3, h⟩ := h
       refine Zv (fun pp => [(13, [], .pointer pp)]) hp_3 ?_
       refine Zn P1 2 [(13, [], .pointer (some ⟨(pblk t_), (poff t_), none⟩)), (14, [], .pointer (some ⟨(pblk t_), (poff t_), none⟩))] ?_
       refine Zn P1 3 [(15, [], .pointer (some ⟨(pblk t_), (poff t_) + 9, none⟩))] ?_
       obtain ⟨v16, hc, h⟩ := h
       refine Zl 3 15 (pblk t_) ((poff t_) + 9) 3 16 hc ?_
       refine Zf P2 [(2, .int .i64 v16), (3, .bool true)] ?_
       change WpE _ _ c77_16 _ _ _
       refine wpE_ret (by kernel_rfl) ?_
       repeat (first | refine seqQ_ret ?_ | refine blockQ_ret ?_ | refine loopQ_ret ?_ | refine cutQ_ret ?_)
       exact retT (rs := [(ResultVar.tmp 2), (ResultVar.tmp 3)]) (vs := [Value.int .i64 v16, Value.bool true]) (by kernel_rfl) (⟨by kernel_rfl, ⟨by kernel_rfl, trivial⟩⟩) (by kernel_rfl) ⟨v16, true, rfl, h⟩
 · rintro e w' ⟨v, rfl, r0, r1, rfl, h⟩; exact ⟨r0, r1, rfl, h⟩

end
end Go.Proofs.Ytpedclhflmhakaa
