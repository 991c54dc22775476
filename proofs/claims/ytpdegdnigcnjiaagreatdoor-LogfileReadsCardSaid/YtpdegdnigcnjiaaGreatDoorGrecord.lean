/- WRITTEN BY PROGRAM (dec.py): for each Go function the clean formula F, the call's contract C, and the proof S that F gives C. -/
import Derived.Test.YtpdegdnigcnjiaaGreatDoorRows
import Derived.Test.YtpdegdnigcnjiaaGreatDoorGF
namespace Go.Proofs.YtpdegdnigcnjiaaGreatDoor
open Go
set_option linter.unusedVariables false
set_option maxRecDepth 100000
set_option maxHeartbeats 4000000
noncomputable section

/-! ### towpath/record.Decode (function 178) -/
def c178_0 := cb_ Tryz.f178
def c178_1 := cl_ c178_0
def r178_1 := co_ c178_1
def c178_3 := cr_ c178_0
def c178_4 := cl_ c178_3
def r178_4 := co_ c178_4
def c178_6 := cr_ c178_3
def c178_7 := cl_ c178_6
def r178_7 := co_ c178_7
def c178_9 := cr_ c178_6
def c178_12 := cr_ c178_9
def c178_13 := cl_ c178_12
def r178_13 := co_ c178_13
def c178_15 := cr_ c178_12
def c178_16 := cl_ c178_15
def c178_17 := cl_ c178_16
def r178_17 := co_ c178_17
def c178_19 := cr_ c178_16
def c178_22 := cr_ c178_19
def c178_23 := cl_ c178_22
def c178_24 := cl_ c178_23
def r178_24 := co_ c178_24
def c178_26 := cr_ c178_23
def c178_27 := cr_ c178_22
def c178_28 := cr_ c178_15
def c178_29 := cl_ c178_28
def r178_29 := co_ c178_29
def c178_31 := cr_ c178_28
def c178_32 := cl_ c178_31
def c178_33 := cl_ c178_32
def r178_33 := co_ c178_33
def c178_35 := cr_ c178_32
def c178_38 := cr_ c178_35
def c178_39 := cl_ c178_38
def c178_40 := cl_ c178_39
def r178_40 := co_ c178_40
def c178_42 := cr_ c178_39
def c178_43 := cr_ c178_38
def c178_44 := cr_ c178_31
def c178_45 := cl_ c178_44
def r178_45 := co_ c178_45
def c178_47 := cr_ c178_44
def c178_48 := cl_ c178_47
def c178_51 := cr_ c178_48
def c178_52 := cl_ c178_51
def c178_53 := cl_ c178_52
def c178_56 := cr_ c178_53
def c178_57 := cl_ c178_56
def c178_58 := cl_ c178_57
def c178_59 := cr_ c178_57
def c178_60 := cr_ c178_56
def c178_61 := cl_ c178_60
def c178_62 := cl_ c178_61
def c178_63 := cl_ c178_62
def r178_63 := co_ c178_63
def c178_65 := cr_ c178_62
def c178_66 := cl_ c178_65
def r178_66 := co_ c178_66
def c178_68 := cr_ c178_65
def c178_69 := cl_ c178_68
def c178_70 := cl_ c178_69
def r178_70 := co_ c178_70
def c178_72 := cr_ c178_69
def c178_75 := cr_ c178_72
def c178_76 := cl_ c178_75
def c178_77 := cl_ c178_76
def r178_77 := co_ c178_77
def c178_79 := cr_ c178_76
def c178_80 := cr_ c178_75
def c178_81 := cr_ c178_68
def c178_82 := cl_ c178_81
def r178_82 := co_ c178_82
def c178_84 := cr_ c178_81
def c178_85 := cl_ c178_84
def c178_86 := cl_ c178_85
def r178_86 := co_ c178_86
def c178_88 := cr_ c178_85
def c178_91 := cr_ c178_88
def c178_92 := cl_ c178_91
def c178_93 := cl_ c178_92
def r178_93 := co_ c178_93
def c178_95 := cr_ c178_92
def c178_96 := cr_ c178_91
def c178_97 := cr_ c178_84
def c178_98 := cl_ c178_97
def c178_99 := cl_ c178_98
def r178_99 := co_ c178_99
def c178_101 := cr_ c178_98
def c178_102 := cl_ c178_101
def r178_102 := co_ c178_102
def c178_104 := cr_ c178_101
def c178_105 := cl_ c178_104
def c178_106 := cl_ c178_105
def r178_106 := co_ c178_106
def c178_108 := cr_ c178_105
def c178_109 := cl_ c178_108
def r178_109 := co_ c178_109
def c178_111 := cr_ c178_108
def c178_114 := cr_ c178_111
def c178_115 := cl_ c178_114
def c178_116 := cl_ c178_115
def r178_116 := co_ c178_116
def c178_118 := cr_ c178_115
def c178_119 := cr_ c178_114
def c178_120 := cr_ c178_104
def c178_121 := cr_ c178_97
def r178_121 := co_ c178_121
def c178_123 := cr_ c178_60
def r178_123 := co_ c178_123
def c178_125 := cr_ c178_47
def c178_126 := cl_ c178_125
def c178_127 := cl_ c178_126
def r178_127 := co_ c178_127
def c178_129 := cr_ c178_126
def c178_132 := cr_ c178_129
def c178_133 := cl_ c178_132
def c178_134 := cl_ c178_133
def r178_134 := co_ c178_134
def c178_136 := cr_ c178_133
def c178_137 := cr_ c178_132
def c178_138 := cr_ c178_125
def c178_139 := cl_ c178_138
def r178_139 := co_ c178_139
def c178_141 := cr_ c178_138

theorem S_record_Decode {b_ : Slc} {w : World} {R : T_api_Txn → Int → World → Prop} (h : F_record_Decode b_ R w) : C_record_Decode b_ w R := by
 unfold F_record_Decode at h
 unfold C_record_Decode
 refine Calls.mono (calls_of_wpE (args := [sv_ b_]) (R := fun v w' => ∃ (r0 : T_api_Txn) (r1 : Int), v = Value.tuple #[Value.agg #[Value.int .i64 r0.Number, sv_ r0.Writes], Value.int .i64 r1] ∧ R r0 r1 w') Tryz.func178 (c := c178_0) (by kernel_rfl) 104 (by kernel_rfl) (by kernel_rfl) [(0, sv_ b_)] (by kernel_rfl) ?_) ?_
 · refine Zt r178_1 c178_3 ?_
   refine Zn [] 0 [(0, [], sv_ b_)] ?_
   refine Zw (some 2) (fun bb => pv_ bb) (Obj.cells ([.int .i64 0, .slice none 0 0]).toArray ty_api_Txn (0, 0)) (fun b_1 w1 hb hw => ?_)
   replace h := h b_1 w1 hb hw
   clear hb hw
   refine Zf P1 [(0, sv_ b_), (2, pv_ b_1)] ?_
   change WpE _ _ c178_3 _ _ _
   refine Zt r178_4 c178_6 ?_
   refine Zn P1 1 [(0, [], sv_ b_), (2, [], pv_ b_1), (18, [], sv_ b_)] ?_
   refine Zm 173 #[sv_ b_] (some 19) (Calls.mono h ?_)
   rintro _ w2 ⟨v19, rfl, h⟩
   refine ⟨_, rfl, ?_⟩
   refine Zn [] 2 [(0, [], sv_ b_), (2, [], pv_ b_1), (19, [], .pointer v19)] ?_
   refine Zw (some 4) (fun bb => pv_ bb) (Obj.cells ([.pointer none]).toArray ty_ptr_codec_Reader (0, 0)) (fun b_2 w3 hb hw => ?_)
   replace h := h b_2 w3 hb hw
   clear hb hw
   refine Zn [] 3 [(0, [], sv_ b_), (2, [], pv_ b_1), (4, [], pv_ b_2), (19, [], .pointer v19)] ?_
   obtain ⟨hc, h⟩ := h
   refine Zo 219 4 19 b_2 0 1 [.pointer v19] hc (fun w4 hw => ?_)
   replace h := h w4 hw
   clear hw
   refine Ze [(0, sv_ b_), (2, pv_ b_1), (4, pv_ b_2)] ?_
   change WpE _ _ c178_6 _ _ _
   refine Zt r178_7 c178_9 ?_
   refine Zn P2 2 [(2, [], pv_ b_1), (4, [], pv_ b_2), (21, [], .int .i64 ((b_.len : Nat) : Int))] ?_
   refine Zw (some 5) (fun bb => pv_ bb) (Obj.cells ([.int .i64 0]).toArray ty_int (0, 0)) (fun b_3 w5 hb hw => ?_)
   replace h := h b_3 w5 hb hw
   clear hb hw
   refine Zn [] 3 [(2, [], pv_ b_1), (4, [], pv_ b_2), (5, [], pv_ b_3), (21, [], .int .i64 ((b_.len : Nat) : Int))] ?_
   obtain ⟨hc, h⟩ := h
   refine Zo 3 5 21 b_3 0 1 [.int .i64 ((b_.len : Nat) : Int)] hc (fun w6 hw => ?_)
   replace h := h w6 hw
   clear hw
   refine Ze [(2, pv_ b_1), (4, pv_ b_2), (5, pv_ b_3)] ?_
   change WpE _ _ c178_9 _ _ _
   refine Zp c178_12 P2 [(2, pv_ b_1), (4, pv_ b_2), (6, .func (.func 204) #[] #[pv_ b_2, pv_ b_3])] ?_
   refine Zt r178_13 c178_15 ?_
   refine Zn [] 0 [(2, [], pv_ b_1), (4, [], pv_ b_2), (6, [], .func (.func 204) #[] #[pv_ b_2, pv_ b_3])] ?_
   obtain ⟨v23, hc, h⟩ := h
   refine Zl 219 4 b_2 0 219 23 hc ?_
   refine Zn [] 1 [(2, [], pv_ b_1), (4, [], pv_ b_2), (6, [], .func (.func 204) #[] #[pv_ b_2, pv_ b_3]), (23, [], .pointer v23)] ?_
   refine Zm 205 #[.pointer v23] (some 24) (Calls.mono h ?_)
   rintro _ w7 ⟨v24, rfl, h⟩
   refine ⟨_, rfl, ?_⟩
   refine Zf P1 [(2, pv_ b_1), (4, pv_ b_2), (6, .func (.func 204) #[] #[pv_ b_2, pv_ b_3]), (7, .int .u64 v24)] ?_
   change WpE _ _ c178_15 _ _ _
   refine Zs c178_16 c178_28 ?_
   refine Zt r178_17 c178_19 ?_
   refine Zn [.plain, .plain, .plain, .plain, .plain, .plain, .pick] 7 [(2, [], pv_ b_1), (4, [], pv_ b_2), (6, [], .func (.func 204) #[] #[pv_ b_2, pv_ b_3]), (7, [], .int .u64 v24), (25, [], .func (.func 204) #[] #[pv_ b_2, pv_ b_3]), (31, [], .bool ((decide (v24 < 1)) || (decide (v24 > 65536))))] ?_
   refine Zm 204 #[.bool ((decide (v24 < 1)) || (decide (v24 > 65536))), .int .i64 1, pv_ b_2, pv_ b_3] (some 32) (Calls.mono h ?_)
   rintro _ w8 ⟨v32, rfl, h⟩
   refine ⟨_, rfl, ?_⟩
   refine Zf P1 [(2, pv_ b_1), (4, pv_ b_2), (6, .func (.func 204) #[] #[pv_ b_2, pv_ b_3]), (7, .int .u64 v24), (8, .int .i64 v32)] ?_
   change WpE _ _ c178_19 _ _ _
   refine Zp c178_22 P2 [(2, pv_ b_1), (4, pv_ b_2), (6, .func (.func 204) #[] #[pv_ b_2, pv_ b_3]), (7, .int .u64 v24), (8, .int .i64 v32), (34, .bool (v32 != 0))] ?_
   refine Zc 34 (v32 != 0) c178_23 c178_27 (fun hb => ?_) (fun hb => ?_)
   · replace h := h.1 hb
     refine Zt r178_24 c178_26 ?_
     refine Zn P2 2 [(2, [], pv_ b_1), (35, [], .agg #[.int .i64 0, .slice none 0 0]), (36, [], .int .i64 v32)] ?_
     obtain ⟨hc, h⟩ := h
     refine Zo 52 2 35 b_1 0 2 [.int .i64 0, .slice none 0 0] hc (fun w9 hw => ?_)
     replace h := h w9 hw
     clear hw
     refine Zf P1 [(2, pv_ b_1), (3, .int .i64 v32)] ?_
     change WpE _ _ c178_26 _ _ _
     refine wpE_ret (by kernel_rfl) ?_
     obtain ⟨res, hc_res, h⟩ := h
     repeat (first | refine seqQ_ret ?_ | refine blockQ_ret ?_ | refine loopQ_ret ?_ | refine cutQ_ret ?_)
     exact retT (rs := [(ResultVar.cell 2 52), (ResultVar.tmp 3)]) (vs := [Value.agg #[Value.int .i64 res.Number, sv_ res.Writes], Value.int .i64 v32]) (by kernel_rfl) (⟨b_1, 0, [Value.int .i64 res.Number, sv_ res.Writes], by kernel_rfl, hc_res, (sizeP_of (k := 2) (by kernel_rfl) (by kernel_rfl)), .inl ⟨by kernel_rfl, rfl⟩, ⟨by kernel_rfl, trivial⟩⟩) (by kernel_rfl) ⟨res, v32, rfl, h⟩
   · replace h := h.2 hb
     refine wpE_skip (by kernel_rfl) ?_
     change WpE _ _ c178_28 _ _ _
     refine Zt r178_29 c178_31 ?_
     refine Zn [] 0 [(2, [], pv_ b_1), (4, [], pv_ b_2), (6, [], .func (.func 204) #[] #[pv_ b_2, pv_ b_3]), (7, [], .int .u64 v24)] ?_
     obtain ⟨v37, hc, h⟩ := h
     refine Zl 219 4 b_2 0 219 37 hc ?_
     refine Zn [] 1 [(2, [], pv_ b_1), (4, [], pv_ b_2), (6, [], .func (.func 204) #[] #[pv_ b_2, pv_ b_3]), (7, [], .int .u64 v24), (37, [], .pointer v37)] ?_
     refine Zm 205 #[.pointer v37] (some 38) (Calls.mono h ?_)
     rintro _ w10 ⟨v38, rfl, h⟩
     refine ⟨_, rfl, ?_⟩
     refine Zf P1 [(2, pv_ b_1), (4, pv_ b_2), (6, .func (.func 204) #[] #[pv_ b_2, pv_ b_3]), (7, .int .u64 v24), (9, .int .u64 v38)] ?_
     change WpE _ _ c178_31 _ _ _
     refine Zs c178_32 c178_44 ?_
     refine Zt r178_33 c178_35 ?_
     refine Zn P3 3 [(2, [], pv_ b_1), (4, [], pv_ b_2), (6, [], .func (.func 204) #[] #[pv_ b_2, pv_ b_3]), (7, [], .int .u64 v24), (9, [], .int .u64 v38), (39, [], .func (.func 204) #[] #[pv_ b_2, pv_ b_3]), (41, [], .bool (decide (v38 > 32)))] ?_
     refine Zm 204 #[.bool (decide (v38 > 32)), .int .i64 3, pv_ b_2, pv_ b_3] (some 42) (Calls.mono h ?_)
     rintro _ w11 ⟨v42, rfl, h⟩
     refine ⟨_, rfl, ?_⟩
     refine Zf P1 [(2, pv_ b_1), (4, pv_ b_2), (6, .func (.func 204) #[] #[pv_ b_2, pv_ b_3]), (7, .int .u64 v24), (9, .int .u64 v38), (10, .int .i64 v42)] ?_
     change WpE _ _ c178_35 _ _ _
     refine Zp c178_38 P2 [(2, pv_ b_1), (4, pv_ b_2), (6, .func (.func 204) #[] #[pv_ b_2, pv_ b_3]), (7, .int .u64 v24), (9, .int .u64 v38), (10, .int .i64 v42), (44, .bool (v42 != 0))] ?_
     refine Zc 44 (v42 != 0) c178_39 c178_43 (fun hb => ?_) (fun hb => ?_)
     · replace h := h.1 hb
       refine Zt r178_40 c178_42 ?_
       refine Zn P2 2 [(2, [], pv_ b_1), (45, [], .agg #[.int .i64 0, .slice none 0 0]), (46, [], .int .i64 v42)] ?_
       obtain ⟨hc, h⟩ := h
       refine Zo 52 2 45 b_1 0 2 [.int .i64 0, .slice none 0 0] hc (fun w12 hw => ?_)
       replace h := h w12 hw
       clear hw
       refine Zf P1 [(2, pv_ b_1), (3, .int .i64 v42)] ?_
       change WpE _ _ c178_42 _ _ _
       refine wpE_ret (by kernel_rfl) ?_
       obtain ⟨res1, hc_res1, h⟩ := h
       repeat (first | refine seqQ_ret ?_ | refine blockQ_ret ?_ | refine loopQ_ret ?_ | refine cutQ_ret ?_)
       exact retT (rs := [(ResultVar.cell 2 52), (ResultVar.tmp 3)]) (vs := [Value.agg #[Value.int .i64 res1.Number, sv_ res1.Writes], Value.int .i64 v42]) (by kernel_rfl) (⟨b_1, 0, [Value.int .i64 res1.Number, sv_ res1.Writes], by kernel_rfl, hc_res1, (sizeP_of (k := 2) (by kernel_rfl) (by kernel_rfl)), .inl ⟨by kernel_rfl, rfl⟩, ⟨by kernel_rfl, trivial⟩⟩) (by kernel_rfl) ⟨res1, v42, rfl, h⟩
     · replace h := h.2 hb
       refine wpE_skip (by kernel_rfl) ?_
       change WpE _ _ c178_44 _ _ _
       refine Zt r178_45 c178_47 ?_
       refine Zn P3 3 [(2, [], pv_ b_1), (4, [], pv_ b_2), (6, [], .func (.func 204) #[] #[pv_ b_2, pv_ b_3]), (9, [], .int .u64 v38), (49, [], .agg #[.int .i64 (IntKind.i64.wrap v24), .slice none 0 0])] ?_
       refine Zw (some 11) (fun bb => pv_ bb) (Obj.cells ([.int .i64 0, .slice none 0 0]).toArray ty_api_Txn (0, 0)) (fun b_4 w13 hb hw => ?_)
       replace h := h b_4 w13 hb hw
       clear hb hw
       refine Zn [] 4 [(2, [], pv_ b_1), (4, [], pv_ b_2), (6, [], .func (.func 204) #[] #[pv_ b_2, pv_ b_3]), (9, [], .int .u64 v38), (11, [], pv_ b_4), (49, [], .agg #[.int .i64 (IntKind.i64.wrap v24), .slice none 0 0])] ?_
       obtain ⟨hc, h⟩ := h
       refine Zo 52 11 49 b_4 0 2 [.int .i64 (IntKind.i64.wrap v24), .slice none 0 0] hc (fun w14 hw => ?_)
       replace h := h w14 hw
       clear hw
       refine Ze [(2, pv_ b_1), (4, pv_ b_2), (6, .func (.func 204) #[] #[pv_ b_2, pv_ b_3]), (9, .int .u64 v38), (11, pv_ b_4)] ?_
       change WpE _ _ c178_47 _ _ _
       refine Zs c178_48 c178_125 ?_
       refine Zp c178_51 P2 [(2, pv_ b_1), (4, pv_ b_2), (6, .func (.func 204) #[] #[pv_ b_2, pv_ b_3]), (11, pv_ b_4), (50, .int .u64 v38), (51, .int .u64 0)] ?_
       refine Zb 0 c178_52 ?_
       obtain ⟨I, μ, h0, hr⟩ := h
       refine wpE_loop (x := c178_53) (by kernel_rfl) (fun m l w => ∃ (t51 : Int), l = [(2, pv_ b_1), (4, pv_ b_2), (6, Value.func (.func 204) #[] #[pv_ b_2, pv_ b_3]), (11, pv_ b_4), (50, Value.int .u64 v38), (51, Value.int .u64 t51)] ∧ I t51 w ∧ μ t51 w = m) (l' := [(2, pv_ b_1), (4, pv_ b_2), (6, Value.func (.func 204) #[] #[pv_ b_2, pv_ b_3]), (11, pv_ b_4), (50, Value.int .u64 v38), (51, Value.int .u64 0)]) (Sub.mk (by kernel_rfl)) ⟨0, rfl, h0, rfl⟩ ?_
       rintro _ _ w15 ⟨t51, rfl, hI, rfl⟩
       obtain ⟨again_, again__h, h⟩ : ∃ again_ : Int → World → Prop, (∀ t51' w', again_ t51' w' → I t51' w' ∧ μ t51' w' < μ t51 w15) ∧ F_record_Decode_L0 R b_1 b_2 b_3 v38 b_4 again_ t51 w15 := ⟨_, fun _ _ h => h, hr t51 w15 hI⟩
       clear h0 hI
       unfold F_record_Decode_L0 at h
       refine Zp c178_56 P1 [(2, pv_ b_1), (4, pv_ b_2), (6, .func (.func 204) #[] #[pv_ b_2, pv_ b_3]), (11, pv_ b_4), (50, .int .u64 v38), (51, .int .u64 t51), (52, .bool (decide (t51 < v38)))] ?_
       refine Zs c178_57 c178_60 ?_
       refine Zc 52 (decide (t51 < v38)) c178_58 c178_59 (fun hb => ?_) (fun hb => ?_)
       · replace h := h.1 hb
         refine wpE_skip (by kernel_rfl) ?_
         change WpE _ _ c178_60 _ _ _
         refine Zs c178_61 c178_123 ?_
         refine Zb 1 c178_62 ?_
         refine Zt r178_63 c178_65 ?_
         refine Zn [] 0 [(2, [], pv_ b_1), (4, [], pv_ b_2), (6, [], .func (.func 204) #[] #[pv_ b_2, pv_ b_3]), (11, [], pv_ b_4), (50, [], .int .u64 v38), (51, [], .int .u64 t51)] ?_
         refine Zw (some 12) (fun bb => pv_ bb) (Obj.cells ([.string ByteArray.empty, .string ByteArray.empty, .bool false]).toArray ty_api_Write (0, 0)) (fun b_5 w16 hb hw => ?_)
         replace h := h b_5 w16 hb hw
         clear hb hw
         refine Ze [(2, pv_ b_1), (4, pv_ b_2), (6, .func (.func 204) #[] #[pv_ b_2, pv_ b_3]), (11, pv_ b_4), (12, pv_ b_5), (50, .int .u64 v38), (51, .int .u64 t51)] ?_
         change WpE _ _ c178_65 _ _ _
         refine Zt r178_66 c178_68 ?_
         refine Zn [] 0 [(2, [], pv_ b_1), (4, [], pv_ b_2), (6, [], .func (.func 204) #[] #[pv_ b_2, pv_ b_3]), (11, [], pv_ b_4), (12, [], pv_ b_5), (50, [], .int .u64 v38), (51, [], .int .u64 t51)] ?_
         obtain ⟨v53, hc, h⟩ := h
         refine Zl 219 4 b_2 0 219 53 hc ?_
         refine Zn [] 1 [(2, [], pv_ b_1), (4, [], pv_ b_2), (6, [], .func (.func 204) #[] #[pv_ b_2, pv_ b_3]), (11, [], pv_ b_4), (12, [], pv_ b_5), (50, [], .int .u64 v38), (51, [], .int .u64 t51), (53, [], .pointer v53)] ?_
         refine Zm 175 #[.pointer v53, .int .i64 64] (some 54) (Calls.mono h ?_)
         rintro _ w17 ⟨v54, rfl, h⟩
         refine ⟨_, rfl, ?_⟩
         refine Zn P1 3 [(2, [], pv_ b_1), (4, [], pv_ b_2), (6, [], .func (.func 204) #[] #[pv_ b_2, pv_ b_3]), (11, [], pv_ b_4), (12, [], pv_ b_5), (50, [], .int .u64 v38), (51, [], .int .u64 t51), (54, [], .string v54), (55, [], pv_ b_5)] ?_
         obtain ⟨hc, h⟩ := h
         refine Zo 9 55 54 b_5 0 1 [.string v54] hc (fun w18 hw => ?_)
         replace h := h w18 hw
         clear hw
         refine Ze [(2, pv_ b_1), (4, pv_ b_2), (6, .func (.func 204) #[] #[pv_ b_2, pv_ b_3]), (11, pv_ b_4), (12, pv_ b_5), (50, .int .u64 v38), (51, .int .u64 t51)] ?_
         change WpE _ _ c178_68 _ _ _
         refine Zs c178_69 c178_81 ?_
         refine Zt r178_70 c178_72 ?_
         refine Zn P2 2 [(2, [], pv_ b_1), (4, [], pv_ b_2), (6, [], .func (.func 204) #[] #[pv_ b_2, pv_ b_3]), (11, [], pv_ b_4), (12, [], pv_ b_5), (50, [], .int .u64 v38), (51, [], .int .u64 t51), (56, [], .func (.func 204) #[] #[pv_ b_2, pv_ b_3]), (57, [], pv_ b_5)] ?_
         obtain ⟨v58, hc, h⟩ := h
         refine Zl 9 57 b_5 0 9 58 hc ?_
         refine Zn P1 4 [(2, [], pv_ b_1), (4, [], pv_ b_2), (6, [], .func (.func 204) #[] #[pv_ b_2, pv_ b_3]), (11, [], pv_ b_4), (12, [], pv_ b_5), (50, [], .int .u64 v38), (51, [], .int .u64 t51), (56, [], .func (.func 204) #[] #[pv_ b_2, pv_ b_3]), (59, [], .bool (v58.toList == ByteArray.empty.toList))] ?_
         refine Zm 204 #[.bool (v58.toList == ByteArray.empty.toList), .int .i64 1, pv_ b_2, pv_ b_3] (some 60) (Calls.mono h ?_)
         rintro _ w19 ⟨v60, rfl, h⟩
         refine ⟨_, rfl, ?_⟩
         refine Zf P1 [(2, pv_ b_1), (4, pv_ b_2), (6, .func (.func 204) #[] #[pv_ b_2, pv_ b_3]), (11, pv_ b_4), (12, pv_ b_5), (13, .int .i64 v60), (50, .int .u64 v38), (51, .int .u64 t51)] ?_
         change WpE _ _ c178_72 _ _ _
         refine Zp c178_75 P2 [(2, pv_ b_1), (4, pv_ b_2), (6, .func (.func 204) #[] #[pv_ b_2, pv_ b_3]), (11, pv_ b_4), (12, pv_ b_5), (13, .int .i64 v60), (50, .int .u64 v38), (51, .int .u64 t51), (62, .bool (v60 != 0))] ?_
         refine Zc 62 (v60 != 0) c178_76 c178_80 (fun hb => ?_) (fun hb => ?_)
         · replace h := h.1 hb
           refine Zt r178_77 c178_79 ?_
           refine Zn P2 2 [(2, [], pv_ b_1), (63, [], .agg #[.int .i64 0, .slice none 0 0]), (64, [], .int .i64 v60)] ?_
           obtain ⟨hc, h⟩ := h
           refine Zo 52 2 63 b_1 0 2 [.int .i64 0, .slice none 0 0] hc (fun w20 hw => ?_)
           replace h := h w20 hw
           clear hw
           refine Zf P1 [(2, pv_ b_1), (3, .int .i64 v60)] ?_
           change WpE _ _ c178_79 _ _ _
           refine wpE_ret (by kernel_rfl) ?_
           obtain ⟨res2, hc_res2, h⟩ := h
           repeat (first | refine seqQ_ret ?_ | refine blockQ_ret ?_ | refine loopQ_ret ?_ | refine cutQ_ret ?_)
           exact retT (rs := [(ResultVar.cell 2 52), (ResultVar.tmp 3)]) (vs := [Value.agg #[Value.int .i64 res2.Number, sv_ res2.Writes], Value.int .i64 v60]) (by kernel_rfl) (⟨b_1, 0, [Value.int .i64 res2.Number, sv_ res2.Writes], by kernel_rfl, hc_res2, (sizeP_of (k := 2) (by kernel_rfl) (by kernel_rfl)), .inl ⟨by kernel_rfl, rfl⟩, ⟨by kernel_rfl, trivial⟩⟩) (by kernel_rfl) ⟨res2, v60, rfl, h⟩
         · replace h := h.2 hb
           refine wpE_skip (by kernel_rfl) ?_
           change WpE _ _ c178_81 _ _ _
           refine Zt r178_82 c178_84 ?_
           refine Zn [] 0 [(2, [], pv_ b_1), (4, [], pv_ b_2), (6, [], .func (.func 204) #[] #[pv_ b_2, pv_ b_3]), (11, [], pv_ b_4), (12, [], pv_ b_5), (50, [], .int .u64 v38), (51, [], .int .u64 t51)] ?_
           obtain ⟨v65, hc, h⟩ := h
           refine Zl 219 4 b_2 0 219 65 hc ?_
           refine Zn [] 1 [(2, [], pv_ b_1), (4, [], pv_ b_2), (6, [], .func (.func 204) #[] #[pv_ b_2, pv_ b_3]), (11, [], pv_ b_4), (12, [], pv_ b_5), (50, [], .int .u64 v38), (51, [], .int .u64 t51), (65, [], .pointer v65)] ?_
           refine Zm 176 #[.pointer v65, .int .i64 1] (some 66) (Calls.mono h ?_)
           rintro _ w21 ⟨v66, rfl, h⟩
           refine ⟨_, rfl, ?_⟩
           refine Zf P1 [(2, pv_ b_1), (4, pv_ b_2), (6, .func (.func 204) #[] #[pv_ b_2, pv_ b_3]), (11, pv_ b_4), (12, pv_ b_5), (14, .int .u64 v66), (50, .int .u64 v38), (51, .int .u64 t51)] ?_
           change WpE _ _ c178_84 _ _ _
           refine Zs c178_85 c178_97 ?_
           refine Zt r178_86 c178_88 ?_
           refine Zn P3 3 [(2, [], pv_ b_1), (4, [], pv_ b_2), (6, [], .func (.func 204) #[] #[pv_ b_2, pv_ b_3]), (11, [], pv_ b_4), (12, [], pv_ b_5), (14, [], .int .u64 v66), (50, [], .int .u64 v38), (51, [], .int .u64 t51), (67, [], .func (.func 204) #[] #[pv_ b_2, pv_ b_3]), (69, [], .bool (decide (v66 > 1)))] ?_
           refine Zm 204 #[.bool (decide (v66 > 1)), .int .i64 4, pv_ b_2, pv_ b_3] (some 70) (Calls.mono h ?_)
           rintro _ w22 ⟨v70, rfl, h⟩
           refine ⟨_, rfl, ?_⟩
           refine Zf P1 [(2, pv_ b_1), (4, pv_ b_2), (6, .func (.func 204) #[] #[pv_ b_2, pv_ b_3]), (11, pv_ b_4), (12, pv_ b_5), (14, .int .u64 v66), (15, .int .i64 v70), (50, .int .u64 v38), (51, .int .u64 t51)] ?_
           change WpE _ _ c178_88 _ _ _
           refine Zp c178_91 P2 [(2, pv_ b_1), (4, pv_ b_2), (6, .func (.func 204) #[] #[pv_ b_2, pv_ b_3]), (11, pv_ b_4), (12, pv_ b_5), (14, .int .u64 v66), (15, .int .i64 v70), (50, .int .u64 v38), (51, .int .u64 t51), (72, .bool (v70 != 0))] ?_
           refine Zc 72 (v70 != 0) c178_92 c178_96 (fun hb => ?_) (fun hb => ?_)
           · replace h := h.1 hb
             refine Zt r178_93 c178_95 ?_
             refine Zn P2 2 [(2, [], pv_ b_1), (73, [], .agg #[.int .i64 0, .slice none 0 0]), (74, [], .int .i64 v70)] ?_
             obtain ⟨hc, h⟩ := h
             refine Zo 52 2 73 b_1 0 2 [.int .i64 0, .slice none 0 0] hc (fun w23 hw => ?_)
             replace h := h w23 hw
             clear hw
             refine Zf P1 [(2, pv_ b_1), (3, .int .i64 v70)] ?_
             change WpE _ _ c178_95 _ _ _
             refine wpE_ret (by kernel_rfl) ?_
             obtain ⟨res3, hc_res3, h⟩ := h
             repeat (first | refine seqQ_ret ?_ | refine blockQ_ret ?_ | refine loopQ_ret ?_ | refine cutQ_ret ?_)
             exact retT (rs := [(ResultVar.cell 2 52), (ResultVar.tmp 3)]) (vs := [Value.agg #[Value.int .i64 res3.Number, sv_ res3.Writes], Value.int .i64 v70]) (by kernel_rfl) (⟨b_1, 0, [Value.int .i64 res3.Number, sv_ res3.Writes], by kernel_rfl, hc_res3, (sizeP_of (k := 2) (by kernel_rfl) (by kernel_rfl)), .inl ⟨by kernel_rfl, rfl⟩, ⟨by kernel_rfl, trivial⟩⟩) (by kernel_rfl) ⟨res3, v70, rfl, h⟩
           · replace h := h.2 hb
             refine wpE_skip (by kernel_rfl) ?_
             change WpE _ _ c178_97 _ _ _
             refine wpE_seq_cut (x := c178_98) (y := c178_121) (by kernel_rfl) (fun l w => l = [(2, pv_ b_1), (4, pv_ b_2), (6, Value.func (.func 204) #[] #[pv_ b_2, pv_ b_3]), (11, pv_ b_4), (12, pv_ b_5), (50, Value.int .u64 v38), (51, Value.int .u64 t51)] ∧ F_record_Decode_k1 b_4 t51 again_ b_5 w) ?_ ?_
             · refine Zt r178_99 c178_101 ?_
               refine Zn P3 3 [(2, [], pv_ b_1), (4, [], pv_ b_2), (6, [], .func (.func 204) #[] #[pv_ b_2, pv_ b_3]), (11, [], pv_ b_4), (12, [], pv_ b_5), (50, [], .int .u64 v38), (51, [], .int .u64 t51), (76, [], .bool (v66 == 1)), (77, [], .pointer (some ⟨b_5, 2, none⟩))] ?_
               obtain ⟨hc, h⟩ := h
               refine Zo 4 77 76 b_5 2 1 [.bool (v66 == 1)] hc (fun w28 hw => ?_)
               replace h := h w28 hw
               clear hw
               refine Ze [(2, pv_ b_1), (4, pv_ b_2), (6, .func (.func 204) #[] #[pv_ b_2, pv_ b_3]), (11, pv_ b_4), (12, pv_ b_5), (50, .int .u64 v38), (51, .int .u64 t51)] ?_
               change WpE _ _ c178_101 _ _ _
               refine Zt r178_102 c178_104 ?_
               refine Zn P1 1 [(2, [], pv_ b_1), (4, [], pv_ b_2), (6, [], .func (.func 204) #[] #[pv_ b_2, pv_ b_3]), (11, [], pv_ b_4), (12, [], pv_ b_5), (50, [], .int .u64 v38), (51, [], .int .u64 t51), (78, [], .pointer (some ⟨b_5, 2, none⟩))] ?_
               obtain ⟨v79, hc, h⟩ := h
               refine Zl 4 78 b_5 2 4 79 hc ?_
               refine Zf P1 [(2, pv_ b_1), (4, pv_ b_2), (6, .func (.func 204) #[] #[pv_ b_2, pv_ b_3]), (11, pv_ b_4), (12, pv_ b_5), (50, .int .u64 v38), (51, .int .u64 t51), (80, .bool (!v79))] ?_
               change WpE _ _ c178_104 _ _ _
               refine Zc 80 (!v79) c178_105 c178_120 (fun hb => ?_) (fun hb => ?_)
               · replace h := h.1 hb
                 refine Zt r178_106 c178_108 ?_
                 refine Zn [] 0 [(2, [], pv_ b_1), (4, [], pv_ b_2), (6, [], .func (.func 204) #[] #[pv_ b_2, pv_ b_3]), (11, [], pv_ b_4), (12, [], pv_ b_5), (50, [], .int .u64 v38), (51, [], .int .u64 t51)] ?_
                 obtain ⟨v81, hc, h⟩ := h
                 refine Zl 219 4 b_2 0 219 81 hc ?_
                 refine Zn [] 1 [(2, [], pv_ b_1), (4, [], pv_ b_2), (6, [], .func (.func 204) #[] #[pv_ b_2, pv_ b_3]), (11, [], pv_ b_4), (12, [], pv_ b_5), (50, [], .int .u64 v38), (51, [], .int .u64 t51), (81, [], .pointer v81)] ?_
                 refine Zm 175 #[.pointer v81, .int .i64 1024] (some 82) (Calls.mono h ?_)
                 rintro _ w29 ⟨v82, rfl, h⟩
                 refine ⟨_, rfl, ?_⟩
                 refine Zn P1 3 [(2, [], pv_ b_1), (4, [], pv_ b_2), (6, [], .func (.func 204) #[] #[pv_ b_2, pv_ b_3]), (11, [], pv_ b_4), (12, [], pv_ b_5), (50, [], .int .u64 v38), (51, [], .int .u64 t51), (82, [], .string v82), (83, [], .pointer (some ⟨b_5, 1, none⟩))] ?_
                 obtain ⟨hc, h⟩ := h
                 refine Zo 9 83 82 b_5 1 1 [.string v82] hc (fun w30 hw => ?_)
                 replace h := h w30 hw
                 clear hw
                 refine Ze [(2, pv_ b_1), (4, pv_ b_2), (6, .func (.func 204) #[] #[pv_ b_2, pv_ b_3]), (11, pv_ b_4), (12, pv_ b_5), (50, .int .u64 v38), (51, .int .u64 t51)] ?_
                 change WpE _ _ c178_108 _ _ _
                 refine Zt r178_109 c178_111 ?_
                 refine Zn P1 1 [(2, [], pv_ b_1), (4, [], pv_ b_2), (6, [], .func (.func 204) #[] #[pv_ b_2, pv_ b_3]), (11, [], pv_ b_4), (12, [], pv_ b_5), (50, [], .int .u64 v38), (51, [], .int .u64 t51), (84, [], .func (.func 204) #[] #[pv_ b_2, pv_ b_3])] ?_
                 refine Zm 204 #[.bool false, .int .i64 0, pv_ b_2, pv_ b_3] (some 85) (Calls.mono h ?_)
                 rintro _ w31 ⟨v85, rfl, h⟩
                 refine ⟨_, rfl, ?_⟩
                 refine Zf P1 [(2, pv_ b_1), (4, pv_ b_2), (6, .func (.func 204) #[] #[pv_ b_2, pv_ b_3]), (11, pv_ b_4), (12, pv_ b_5), (16, .int .i64 v85), (50, .int .u64 v38), (51, .int .u64 t51)] ?_
                 change WpE _ _ c178_111 _ _ _
                 refine Zp c178_114 P2 [(2, pv_ b_1), (4, pv_ b_2), (6, .func (.func 204) #[] #[pv_ b_2, pv_ b_3]), (11, pv_ b_4), (12, pv_ b_5), (16, .int .i64 v85), (50, .int .u64 v38), (51, .int .u64 t51), (87, .bool (v85 != 0))] ?_
                 refine Zc 87 (v85 != 0) c178_115 c178_119 (fun hb => ?_) (fun hb => ?_)
                 · replace h := h.1 hb
                   refine Zt r178_116 c178_118 ?_
                   refine Zn P2 2 [(2, [], pv_ b_1), (88, [], .agg #[.int .i64 0, .slice none 0 0]), (89, [], .int .i64 v85)] ?_
                   obtain ⟨hc, h⟩ := h
                   refine Zo 52 2 88 b_1 0 2 [.int .i64 0, .slice none 0 0] hc (fun w32 hw => ?_)
                   replace h := h w32 hw
                   clear hw
                   refine Zf P1 [(2, pv_ b_1), (3, .int .i64 v85)] ?_
                   change WpE _ _ c178_118 _ _ _
                   refine wpE_ret (by kernel_rfl) ?_
                   obtain ⟨res4, hc_res4, h⟩ := h
                   repeat (first | refine seqQ_ret ?_ | refine blockQ_ret ?_ | refine loopQ_ret ?_ | refine cutQ_ret ?_)
                   exact retT (rs := [(ResultVar.cell 2 52), (ResultVar.tmp 3)]) (vs := [Value.agg #[Value.int .i64 res4.Number, sv_ res4.Writes], Value.int .i64 v85]) (by kernel_rfl) (⟨b_1, 0, [Value.int .i64 res4.Number, sv_ res4.Writes], by kernel_rfl, hc_res4, (sizeP_of (k := 2) (by kernel_rfl) (by kernel_rfl)), .inl ⟨by kernel_rfl, rfl⟩, ⟨by kernel_rfl, trivial⟩⟩) (by kernel_rfl) ⟨res4, v85, rfl, h⟩
                 · replace h := h.2 hb
                   refine wpE_skip (by kernel_rfl) ?_
                   exact ⟨[(2, pv_ b_1), (4, pv_ b_2), (6, Value.func (.func 204) #[] #[pv_ b_2, pv_ b_3]), (11, pv_ b_4), (12, pv_ b_5), (50, Value.int .u64 v38), (51, Value.int .u64 t51)], Sub.mk (by kernel_rfl), rfl, h⟩
               · replace h := h.2 hb
                 refine wpE_skip (by kernel_rfl) ?_
                 exact ⟨[(2, pv_ b_1), (4, pv_ b_2), (6, Value.func (.func 204) #[] #[pv_ b_2, pv_ b_3]), (11, pv_ b_4), (12, pv_ b_5), (50, Value.int .u64 v38), (51, Value.int .u64 t51)], Sub.mk (by kernel_rfl), rfl, h⟩
             · rintro _ w24 ⟨rfl, h⟩
               unfold F_record_Decode_k1 at h
               refine Zr r178_121 ?_
               refine Zn P1 1 [(2, [], pv_ b_1), (4, [], pv_ b_2), (6, [], .func (.func 204) #[] #[pv_ b_2, pv_ b_3]), (11, [], pv_ b_4), (12, [], pv_ b_5), (50, [], .int .u64 v38), (51, [], .int .u64 t51), (90, [], .pointer (some ⟨b_4, 1, none⟩))] ?_
               obtain ⟨v91, hc, h⟩ := h
               refine Zl 50 90 b_4 1 50 91 hc ?_
               refine Zn [] 2 [(2, [], pv_ b_1), (4, [], pv_ b_2), (6, [], .func (.func 204) #[] #[pv_ b_2, pv_ b_3]), (11, [], pv_ b_4), (12, [], pv_ b_5), (50, [], .int .u64 v38), (51, [], .int .u64 t51), (91, [], sv_ v91)] ?_
               obtain ⟨v92, hc, h⟩ := h
               refine reg_loadN (t := 139) (a := (Operand.tmp 12)) (b := b_5) (o := 0) (ty := 139) (dst := some 92) [Value.string v92.Key, Value.string v92.Val, Value.bool v92.Drop] (by kernel_rfl) (by kernel_rfl) (by kernel_rfl) (k := 3) (by kernel_rfl) (by kernel_rfl) hc ?_
               refine Zn [] 3 [(2, [], pv_ b_1), (4, [], pv_ b_2), (6, [], .func (.func 204) #[] #[pv_ b_2, pv_ b_3]), (11, [], pv_ b_4), (50, [], .int .u64 v38), (51, [], .int .u64 t51), (91, [], sv_ v91), (92, [], .agg #[.string v92.Key, .string v92.Val, .bool v92.Drop])] ?_
               refine Zw (some 93) (fun bb => .slice (some ⟨bb, 0, none⟩) 1 1) (Obj.cells ([.string v92.Key, .string v92.Val, .bool v92.Drop]).toArray ty_api_Write (0, 0)) (fun b_6 w25 hb hw => ?_)
               replace h := h b_6 w25 hb hw
               clear hb hw
               refine Zn [] 4 [(2, [], pv_ b_1), (4, [], pv_ b_2), (6, [], .func (.func 204) #[] #[pv_ b_2, pv_ b_3]), (11, [], pv_ b_4), (50, [], .int .u64 v38), (51, [], .int .u64 t51), (91, [], sv_ v91), (93, [], .slice (some ⟨b_6, 0, none⟩) 1 1)] ?_
               obtain ⟨src, hs, h⟩ := h
               refine reg_append (t := 50) (tx := 50) (e := 139) (a := (Operand.tmp 91)) (xo := (Operand.tmp 93)) (s := v91) (x := (Slc.mk (some ⟨b_6, 0, none⟩) 1 1)) (sz := 3) (by_ := 40) (zs := [Value.string ByteArray.empty, Value.string ByteArray.empty, Value.bool false]) (ty := 50) (dst := some 94)  src (by kernel_rfl) (by kernel_rfl) (by kernel_rfl) (by kernel_rfl) (by kernel_rfl) (by kernel_rfl) (by kernel_rfl) (by kernel_rfl) (by kernel_rfl) hs (AppendW.mono h (fun v94 w26 h => ?_))
               refine Zn P1 6 [(2, [], pv_ b_1), (4, [], pv_ b_2), (6, [], .func (.func 204) #[] #[pv_ b_2, pv_ b_3]), (11, [], pv_ b_4), (50, [], .int .u64 v38), (51, [], .int .u64 t51), (94, [], sv_ v94), (95, [], .pointer (some ⟨b_4, 1, none⟩))] ?_
               obtain ⟨hc, h⟩ := h
               refine Zo 50 95 94 b_4 1 1 [sv_ v94] hc (fun w27 hw => ?_)
               replace h := h w27 hw
               clear hw
               refine Ze [(2, pv_ b_1), (4, pv_ b_2), (6, .func (.func 204) #[] #[pv_ b_2, pv_ b_3]), (11, pv_ b_4), (50, .int .u64 v38), (51, .int .u64 t51)] ?_
               change WpE _ _ c178_123 _ _ _
               refine Zr r178_123 ?_
               refine Zf P2 [(2, pv_ b_1), (4, pv_ b_2), (6, .func (.func 204) #[] #[pv_ b_2, pv_ b_3]), (11, pv_ b_4), (50, .int .u64 v38), (51, .int .u64 (IntKind.u64.wrap (t51 + 1)))] ?_
               have hb_ := again__h _ _ h
               exact ⟨_, hb_.2, [(2, pv_ b_1), (4, pv_ b_2), (6, Value.func (.func 204) #[] #[pv_ b_2, pv_ b_3]), (11, pv_ b_4), (50, Value.int .u64 v38), (51, Value.int .u64 (IntKind.u64.wrap (t51 + 1)))], Sub.mk (by kernel_rfl), (IntKind.u64.wrap (t51 + 1)), rfl, hb_.1, rfl⟩
       · replace h := h.2 hb
         refine wpE_exit (id := 0) (by kernel_rfl) ?_
         change WpE _ _ c178_125 _ _ _
         refine Zs c178_126 c178_138 ?_
         refine Zt r178_127 c178_129 ?_
         refine Zn [] 0 [(2, [], pv_ b_1), (4, [], pv_ b_2), (11, [], pv_ b_4)] ?_
         obtain ⟨v97, hc, h⟩ := h
         refine Zl 219 4 b_2 0 219 97 hc ?_
         refine Zn [] 1 [(2, [], pv_ b_1), (11, [], pv_ b_4), (97, [], .pointer v97)] ?_
         refine Zm 177 #[.pointer v97] (some 98) (Calls.mono h ?_)
         rintro _ w33 ⟨v98, rfl, h⟩
         refine ⟨_, rfl, ?_⟩
         refine Zf P1 [(2, pv_ b_1), (11, pv_ b_4), (17, .int .i64 v98)] ?_
         change WpE _ _ c178_129 _ _ _
         refine Zp c178_132 P2 [(2, pv_ b_1), (11, pv_ b_4), (17, .int .i64 v98), (100, .bool (v98 != 0))] ?_
         refine Zc 100 (v98 != 0) c178_133 c178_137 (fun hb => ?_) (fun hb => ?_)
         · replace h := h.1 hb
           refine Zt r178_134 c178_136 ?_
           refine Zn P2 2 [(2, [], pv_ b_1), (101, [], .agg #[.int .i64 0, .slice none 0 0]), (102, [], .int .i64 v98)] ?_
           obtain ⟨hc, h⟩ := h
           refine Zo 52 2 101 b_1 0 2 [.int .i64 0, .slice none 0 0] hc (fun w34 hw => ?_)
           replace h := h w34 hw
           clear hw
           refine Zf P1 [(2, pv_ b_1), (3, .int .i64 v98)] ?_
           change WpE _ _ c178_136 _ _ _
           refine wpE_ret (by kernel_rfl) ?_
           obtain ⟨res5, hc_res5, h⟩ := h
           repeat (first | refine seqQ_ret ?_ | refine blockQ_ret ?_ | refine loopQ_ret ?_ | refine cutQ_ret ?_)
           exact retT (rs := [(ResultVar.cell 2 52), (ResultVar.tmp 3)]) (vs := [Value.agg #[Value.int .i64 res5.Number, sv_ res5.Writes], Value.int .i64 v98]) (by kernel_rfl) (⟨b_1, 0, [Value.int .i64 res5.Number, sv_ res5.Writes], by kernel_rfl, hc_res5, (sizeP_of (k := 2) (by kernel_rfl) (by kernel_rfl)), .inl ⟨by kernel_rfl, rfl⟩, ⟨by kernel_rfl, trivial⟩⟩) (by kernel_rfl) ⟨res5, v98, rfl, h⟩
         · replace h := h.2 hb
           refine wpE_skip (by kernel_rfl) ?_
           change WpE _ _ c178_138 _ _ _
           refine Zt r178_139 c178_141 ?_
           refine Zn [] 0 [(2, [], pv_ b_1), (11, [], pv_ b_4)] ?_
           obtain ⟨v103, hc, h⟩ := h
           refine reg_loadN (t := 52) (a := (Operand.tmp 11)) (b := b_4) (o := 0) (ty := 52) (dst := some 103) [Value.int .i64 v103.Number, sv_ v103.Writes] (by kernel_rfl) (by kernel_rfl) (by kernel_rfl) (k := 2) (by kernel_rfl) (by kernel_rfl) hc ?_
           refine Zn [] 1 [(2, [], pv_ b_1), (103, [], .agg #[.int .i64 v103.Number, sv_ v103.Writes])] ?_
           obtain ⟨hc, h⟩ := h
           refine Zo 52 2 103 b_1 0 2 [.int .i64 v103.Number, sv_ v103.Writes] hc (fun w35 hw => ?_)
           replace h := h w35 hw
           clear hw
           refine Zf P1 [(2, pv_ b_1), (3, .int .i64 0)] ?_
           change WpE _ _ c178_141 _ _ _
           refine wpE_ret (by kernel_rfl) ?_
           obtain ⟨res6, hc_res6, h⟩ := h
           repeat (first | refine seqQ_ret ?_ | refine blockQ_ret ?_ | refine loopQ_ret ?_ | refine cutQ_ret ?_)
           exact retT (rs := [(ResultVar.cell 2 52), (ResultVar.tmp 3)]) (vs := [Value.agg #[Value.int .i64 res6.Number, sv_ res6.Writes], Value.int .i64 0]) (by kernel_rfl) (⟨b_1, 0, [Value.int .i64 res6.Number, sv_ res6.Writes], by kernel_rfl, hc_res6, (sizeP_of (k := 2) (by kernel_rfl) (by kernel_rfl)), .inl ⟨by kernel_rfl, rfl⟩, ⟨by kernel_rfl, trivial⟩⟩) (by kernel_rfl) ⟨res6, 0, rfl, h⟩
 · rintro e w' ⟨v, rfl, r0, r1, rfl, h⟩; exact ⟨r0, r1, rfl, h⟩

/-! ### towpath/record.Decode$1 (function 204) -/
def c204_0 := cb_ Tryz.f204
def c204_3 := cr_ c204_0
def c204_4 := cl_ c204_3
def c204_5 := cl_ c204_4
def r204_5 := co_ c204_5
def c204_7 := cr_ c204_4
def c204_8 := cl_ c204_7
def c204_9 := cl_ c204_8
def r204_9 := co_ c204_9
def c204_11 := cr_ c204_8
def c204_12 := cr_ c204_7
def c204_13 := cr_ c204_3
def c204_14 := cl_ c204_13
def r204_14 := co_ c204_14
def c204_16 := cr_ c204_13
def c204_17 := cl_ c204_16
def c204_20 := cr_ c204_17
def c204_21 := cl_ c204_20
def c204_24 := cr_ c204_21
def c204_25 := cr_ c204_20
def c204_26 := cr_ c204_16
def c204_29 := cr_ c204_26
def o_record_Decode_1_5 : List Nat := [0, 2, 1, 3]

theorem S_record_Decode_1 {is : Bool} {e : Int} {t2 : Option Addr} {t3 : Option Addr} {w : World} {R : Int → World → Prop} (h : F_record_Decode_1 is e t2 t3 R w) : C_record_Decode_1 is e t2 t3 w R := by
 unfold F_record_Decode_1 at h
 unfold C_record_Decode_1
 refine Calls.mono (calls_of_wpE (args := [Value.bool is, Value.int .i64 e, Value.pointer t2, Value.pointer t3]) (R := fun v w' => ∃ (r0 : Int), v = Value.int .i64 r0 ∧ R r0 w') Tryz.func204 (c := c204_0) (by kernel_rfl) 17 (by kernel_rfl) (by kernel_rfl) [(0, Value.bool is), (1, Value.int .i64 e), (2, Value.pointer t2), (3, Value.pointer t3)] (by kernel_rfl) ?_) ?_
 · refine Zp c204_3 P1 [(0, .bool is), (1, .int .i64 e), (2, .pointer t2), (3, .pointer t3)] ?_
   refine Zs c204_4 c204_13 ?_
   refine Zs c204_5 c204_7 ?_
   refine wpE_mixregion (id := 1) (ops := r204_5) o_record_Decode_1_5 (by kernel_rfl) (by kernel_rfl) (by kernel_rfl) (by kernel_rfl) (fun w1 hw => ?_)
   replace h := h w1 hw
   clear hw
   refine mreg_run [] 0 [(0, [], Value.bool is), (1, [], Value.int .i64 e), (2, [], Value.pointer t2), (3, [], Value.pointer t3)] (by kernel_rfl) (by kernel_rfl) ?_
   obtain ⟨hp_7, h⟩ := h
   refine mreg_conv [(0, [], Value.bool is), (1, [], Value.int .i64 e), (2, [], Value.pointer (some ⟨(pblk t2), (poff t2), none⟩)), (3, [], Value.pointer t3)] (congrArg (fun pp => ([(0, [], Value.bool is), (1, [], Value.int .i64 e), (2, [], Value.pointer pp), (3, [], Value.pointer t3)] : GEnv)) hp_7) ?_
   obtain ⟨v7, hc, h⟩ := h
   refine mreg_load1 (i := 0) (by kernel_rfl) (t := 219) (a := (Operand.tmp 2)) (b := (pblk t2)) (o := (poff t2)) (ty := 219) (dst := some 7) (by kernel_rfl) (by kernel_rfl) (by kernel_rfl) hc ?_
   refine mreg_run [] 1 [(0, [], Value.bool is), (1, [], Value.int .i64 e), (2, [], Value.pointer (some ⟨(pblk t2), (poff t2), none⟩)), (3, [], Value.pointer t3), (7, [], Value.pointer v7)] (by kernel_rfl) (by kernel_rfl) ?_
   obtain ⟨hp_8, h⟩ := h
   refine mreg_conv [(0, [], Value.bool is), (1, [], Value.int .i64 e), (2, [], Value.pointer (some ⟨(pblk t2), (poff t2), none⟩)), (3, [], Value.pointer (some ⟨(pblk t3), (poff t3), none⟩)), (7, [], Value.pointer v7)] (congrArg (fun pp => ([(0, [], Value.bool is), (1, [], Value.int .i64 e), (2, [], Value.pointer (some ⟨(pblk t2), (poff t2), none⟩)), (3, [], Value.pointer pp), (7, [], Value.pointer v7)] : GEnv)) hp_8) ?_
   obtain ⟨v9, hc, h⟩ := h
   refine mreg_load1 (i := 2) (by kernel_rfl) (t := 3) (a := (Operand.tmp 3)) (b := (pblk t3)) (o := (poff t3)) (ty := 3) (dst := some 9) (by kernel_rfl) (by kernel_rfl) (by kernel_rfl) hc ?_
   refine mreg_run [] 2 [(0, [], Value.bool is), (1, [], Value.int .i64 e), (2, [], Value.pointer (some ⟨(pblk t2), (poff t2), none⟩)), (3, [], Value.pointer (some ⟨(pblk t3), (poff t3), none⟩)), (7, [], Value.pointer v7), (9, [], Value.int .i64 v9)] (by kernel_rfl) (by kernel_rfl) ?_
   refine mreg_enter (op := (Op.call (Call.mk (Callee.value (Operand.func 174)) #[(Operand.tmp 7)] #[219]))) (ty := 3) (dst := some 8) 1 [0] [(2, fun w' => w'.cell? ⟨(pblk t3), (poff t3), none⟩ = some (Value.int .i64 v9))] 174 #[Value.pointer v7] (by kernel_rfl) (by kernel_rfl) (by kernel_rfl) (by kernel_rfl) (by kernel_rfl) (fun ww => by kernel_rfl) (Calls.mono h ?_)
   rintro _ w2 ⟨v8, rfl, h⟩
   obtain ⟨hk0, h⟩ := h
   refine ⟨_, rfl, ⟨hk0, trivial⟩, ?_⟩
   refine mreg_run P1 4 [(0, [], Value.bool is), (1, [], Value.int .i64 e), (2, [], Value.pointer (some ⟨(pblk t2), (poff t2), none⟩)), (3, [], Value.pointer (some ⟨(pblk t3), (poff t3), none⟩)), (10, [], Value.bool (v8 == v9))] (by kernel_rfl) (by kernel_rfl) ?_
   refine mreg_conv [(0, [], Value.bool is), (1, [], Value.int .i64 e), (2, [], Value.pointer t2), (3, [], Value.pointer (some ⟨(pblk t3), (poff t3), none⟩)), (10, [], Value.bool (v8 == v9))] (congrArg (fun pp => ([(0, [], Value.bool is), (1, [], Value.int .i64 e), (2, [], Value.pointer pp), (3, [], Value.pointer (some ⟨(pblk t3), (poff t3), none⟩)), (10, [], Value.bool (v8 == v9))] : GEnv)) hp_7.symm) ?_
   refine mreg_conv [(0, [], Value.bool is), (1, [], Value.int .i64 e), (2, [], Value.pointer t2), (3, [], Value.pointer t3), (10, [], Value.bool (v8 == v9))] (congrArg (fun pp => ([(0, [], Value.bool is), (1, [], Value.int .i64 e), (2, [], Value.pointer t2), (3, [], Value.pointer pp), (10, [], Value.bool (v8 == v9))] : GEnv)) hp_8.symm) ?_
   refine mreg_end [(0, Value.bool is), (1, Value.int .i64 e), (2, Value.pointer t2), (3, Value.pointer t3), (10, Value.bool (v8 == v9))] (by kernel_rfl) (by kernel_rfl) (by kernel_rfl) ?_
   change WpE _ _ c204_7 _ _ _
   refine Zc 10 (v8 == v9) c204_8 c204_12 (fun hb => ?_) (fun hb => ?_)
   · replace h := h.1 hb
     refine Zt r204_9 c204_11 ?_
     refine Zn [] 0 [(2, [], .pointer t2)] ?_
     obtain ⟨hp_9, h⟩ := h
     refine Zv (fun pp => [(2, [], .pointer pp)]) hp_9 ?_
     obtain ⟨v11, hc, h⟩ := h
     refine Zl 219 2 (pblk t2) (poff t2) 219 11 hc ?_
     refine Zn [] 1 [(11, [], .pointer v11)] ?_
     refine Zm 177 #[.pointer v11] (some 12) (Calls.mono h ?_)
     rintro _ w3 ⟨v12, rfl, h⟩
     refine ⟨_, rfl, ?_⟩
     refine Zf P1 [(6, .int .i64 v12)] ?_
     change WpE _ _ c204_11 _ _ _
     refine wpE_ret (by kernel_rfl) ?_
     repeat (first | refine seqQ_ret ?_ | refine blockQ_ret ?_ | refine loopQ_ret ?_ | refine cutQ_ret ?_)
     exact retS (rs := [(ResultVar.tmp 6)]) (v := Value.int .i64 v12) (by kernel_rfl) (⟨by kernel_rfl, trivial⟩) ⟨v12, rfl, h⟩
   · replace h := h.2 hb
     refine wpE_skip (by kernel_rfl) ?_
     change WpE _ _ c204_13 _ _ _
     refine Zt r204_14 c204_16 ?_
     refine Zn [] 0 [(0, [], .bool is), (1, [], .int .i64 e), (2, [], .pointer t2), (3, [], .pointer t3)] ?_
     obtain ⟨hp_12, h⟩ := h
     refine Zv (fun pp => [(0, [], .bool is), (1, [], .int .i64 e), (2, [], .pointer pp), (3, [], .pointer t3)]) hp_12 ?_
     obtain ⟨v13, hc, h⟩ := h
     refine Zl 219 2 (pblk t2) (poff t2) 219 13 hc ?_
     refine Zn [] 1 [(0, [], .bool is), (1, [], .int .i64 e), (3, [], .pointer t3), (13, [], .pointer v13)] ?_
     refine Zm 174 #[.pointer v13] (some 14) (Calls.mono h ?_)
     rintro _ w4 ⟨v14, rfl, h⟩
     refine ⟨_, rfl, ?_⟩
     refine Zn [] 2 [(0, [], .bool is), (1, [], .int .i64 e), (3, [], .pointer t3), (14, [], .int .i64 v14)] ?_
     obtain ⟨hp_13, h⟩ := h
     refine Zv (fun pp => [(0, [], .bool is), (1, [], .int .i64 e), (3, [], .pointer pp), (14, [], .int .i64 v14)]) hp_13 ?_
     obtain ⟨hc, h⟩ := h
     refine Zo 3 3 14 (pblk t3) (poff t3) 1 [.int .i64 v14] hc (fun w5 hw => ?_)
     replace h := h w5 hw
     clear hw
     refine Ze [(0, .bool is), (1, .int .i64 e)] ?_
     change WpE _ _ c204_16 _ _ _
     refine Zs c204_17 c204_26 ?_
     refine Zp c204_20 P1 [(1, .int .i64 e), (15, .bool is)] ?_
     refine Zc 15 is c204_21 c204_25 (fun hb => ?_) (fun hb => ?_)
     · replace h := h.1 hb
       refine Zp c204_24 P2 [(6, .int .i64 e)] ?_
       refine wpE_ret (by kernel_rfl) ?_
       repeat (first | refine seqQ_ret ?_ | refine blockQ_ret ?_ | refine loopQ_ret ?_ | refine cutQ_ret ?_)
       exact retS (rs := [(ResultVar.tmp 6)]) (v := Value.int .i64 e) (by kernel_rfl) (⟨by kernel_rfl, trivial⟩) ⟨e, rfl, h⟩
     · replace h := h.2 hb
       refine wpE_skip (by kernel_rfl) ?_
       change WpE _ _ c204_26 _ _ _
       refine Zp c204_29 P1 [(6, .int .i64 0)] ?_
       refine wpE_ret (by kernel_rfl) ?_
       repeat (first | refine seqQ_ret ?_ | refine blockQ_ret ?_ | refine loopQ_ret ?_ | refine cutQ_ret ?_)
       exact retS (rs := [(ResultVar.tmp 6)]) (v := Value.int .i64 0) (by kernel_rfl) (⟨by kernel_rfl, trivial⟩) ⟨0, rfl, h⟩
 · rintro e w' ⟨v, rfl, r0, rfl, h⟩; exact ⟨r0, rfl, h⟩
end
end Go.Proofs.YtpdegdnigcnjiaaGreatDoor
