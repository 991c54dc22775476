/- WRITTEN BY PROGRAM (dec.py): for each Go function the clean formula F, the call's contract C, and the proof S that F gives C. -/
import Derived.Test.YtpdegdnigcnjiaaGreatDoorRows
import Derived.Test.YtpdegdnigcnjiaaGreatDoorGF
namespace Go.Proofs.YtpdegdnigcnjiaaGreatDoor
open Go
set_option linter.unusedVariables false
set_option maxRecDepth 100000
set_option maxHeartbeats 4000000
noncomputable section

/-! ### towpath/towpathref05.Decode (function 119) -/
def c119_0 := cb_ Tryz.f119
def c119_1 := cl_ c119_0
def r119_1 := co_ c119_1
def c119_3 := cr_ c119_0
def c119_4 := cl_ c119_3
def r119_4 := co_ c119_4
def c119_6 := cr_ c119_3
def c119_7 := cl_ c119_6
def r119_7 := co_ c119_7
def c119_9 := cr_ c119_6
def c119_10 := cl_ c119_9
def c119_11 := cl_ c119_10
def r119_11 := co_ c119_11
def c119_13 := cr_ c119_10
def c119_14 := cl_ c119_13
def c119_15 := cl_ c119_14
def r119_15 := co_ c119_15
def c119_17 := cr_ c119_14
def c119_18 := cr_ c119_13
def c119_19 := cr_ c119_9
def c119_20 := cl_ c119_19
def c119_23 := cr_ c119_20
def c119_24 := cl_ c119_23
def c119_25 := cl_ c119_24
def r119_25 := co_ c119_25
def c119_27 := cr_ c119_24
def c119_28 := cr_ c119_23
def c119_29 := cr_ c119_19
def c119_30 := cl_ c119_29
def r119_30 := co_ c119_30
def c119_32 := cr_ c119_29
def c119_33 := cl_ c119_32
def c119_34 := cl_ c119_33
def r119_34 := co_ c119_34
def c119_36 := cr_ c119_33
def c119_37 := cl_ c119_36
def c119_38 := cl_ c119_37
def r119_38 := co_ c119_38
def c119_40 := cr_ c119_37
def c119_41 := cr_ c119_36
def c119_42 := cr_ c119_32
def c119_43 := cl_ c119_42
def c119_46 := cr_ c119_43
def c119_47 := cl_ c119_46
def c119_48 := cl_ c119_47
def r119_48 := co_ c119_48
def c119_50 := cr_ c119_47
def c119_51 := cr_ c119_46
def c119_52 := cr_ c119_42
def c119_53 := cl_ c119_52
def r119_53 := co_ c119_53
def c119_55 := cr_ c119_52
def c119_56 := cl_ c119_55
def c119_59 := cr_ c119_56
def c119_60 := cl_ c119_59
def c119_61 := cl_ c119_60
def c119_62 := cl_ c119_61
def c119_65 := cr_ c119_62
def c119_66 := cl_ c119_65
def c119_67 := cr_ c119_65
def c119_68 := cr_ c119_61
def c119_69 := cl_ c119_68
def c119_70 := cl_ c119_69
def c119_71 := cl_ c119_70
def r119_71 := co_ c119_71
def c119_73 := cr_ c119_70
def c119_74 := cl_ c119_73
def c119_77 := cr_ c119_74
def c119_78 := cl_ c119_77
def c119_79 := cl_ c119_78
def r119_79 := co_ c119_79
def c119_81 := cr_ c119_78
def c119_82 := cr_ c119_77
def c119_83 := cr_ c119_73
def c119_84 := cl_ c119_83
def r119_84 := co_ c119_84
def c119_86 := cr_ c119_83
def r119_86 := co_ c119_86
def c119_88 := cr_ c119_68
def r119_88 := co_ c119_88
def c119_90 := cr_ c119_55
def c119_91 := cl_ c119_90
def c119_92 := cl_ c119_91
def r119_92 := co_ c119_92
def c119_94 := cr_ c119_91
def c119_95 := cl_ c119_94
def c119_96 := cl_ c119_95
def r119_96 := co_ c119_96
def c119_98 := cr_ c119_95
def c119_99 := cr_ c119_94
def c119_100 := cr_ c119_90
def c119_101 := cl_ c119_100
def r119_101 := co_ c119_101
def c119_103 := cr_ c119_100
def o_towpathref05_Decode_15 : List Nat := [0, 1, 2, 3, 4]
def o_towpathref05_Decode_38 : List Nat := [0, 1, 2, 3, 4]

theorem S_towpathref05_Decode {b_ : Slc} {w : World} {R : T_api_Txn → Int → World → Prop} (h : F_towpathref05_Decode b_ R w) : C_towpathref05_Decode b_ w R := by
 unfold F_towpathref05_Decode at h
 unfold C_towpathref05_Decode
 refine Calls.mono (calls_of_wpE (args := [sv_ b_]) (R := fun v w' => ∃ (r0 : T_api_Txn) (r1 : Int), v = Value.tuple #[Value.agg #[Value.int .i64 r0.Number, sv_ r0.Writes], Value.int .i64 r1] ∧ R r0 r1 w') Tryz.func119 (c := c119_0) (by kernel_rfl) 77 (by kernel_rfl) (by kernel_rfl) [(0, sv_ b_)] (by kernel_rfl) ?_) ?_
 · refine Zt r119_1 c119_3 ?_
   refine Zn [] 0 [(0, [], sv_ b_)] ?_
   refine Zw (some 2) (fun bb => pv_ bb) (Obj.cells ([.int .i64 0, .slice none 0 0]).toArray ty_api_Txn (0, 0)) (fun b_1 w1 hb hw => ?_)
   replace h := h b_1 w1 hb hw
   clear hb hw
   refine Zf P1 [(0, sv_ b_), (2, pv_ b_1)] ?_
   change WpE _ _ c119_3 _ _ _
   refine Zt r119_4 c119_6 ?_
   refine Zn P2 2 [(2, [], pv_ b_1), (13, [], .agg #[.bool false, sv_ b_, .int .i64 0, .int .i64 0])] ?_
   refine Zw (some 4) (fun bb => pv_ bb) (Obj.cells ([.bool false, .slice none 0 0, .int .i64 0, .int .i64 0]).toArray ty_towpathref02_Reader (0, 0)) (fun b_2 w2 hb hw => ?_)
   replace h := h b_2 w2 hb hw
   clear hb hw
   refine Zn [] 3 [(2, [], pv_ b_1), (4, [], pv_ b_2), (13, [], .agg #[.bool false, sv_ b_, .int .i64 0, .int .i64 0])] ?_
   obtain ⟨hc, h⟩ := h
   refine Zo 130 4 13 b_2 0 4 [.bool false, sv_ b_, .int .i64 0, .int .i64 0] hc (fun w3 hw => ?_)
   replace h := h w3 hw
   clear hw
   refine Ze [(2, pv_ b_1), (4, pv_ b_2)] ?_
   change WpE _ _ c119_6 _ _ _
   refine Zt r119_7 c119_9 ?_
   refine Zn [] 0 [(2, [], pv_ b_1), (4, [], pv_ b_2)] ?_
   obtain ⟨v15, hc, h⟩ := h
   refine reg_loadN (t := 130) (a := (Operand.tmp 4)) (b := b_2) (o := 0) (ty := 130) (dst := some 15) [Value.bool v15.Gone, sv_ v15.B, Value.int .i64 v15.At, Value.int .i64 v15.Code] (by kernel_rfl) (by kernel_rfl) (by kernel_rfl) (k := 4) (by kernel_rfl) (by kernel_rfl) hc ?_
   refine Zn [] 1 [(2, [], pv_ b_1), (4, [], pv_ b_2), (15, [], .agg #[.bool v15.Gone, sv_ v15.B, .int .i64 v15.At, .int .i64 v15.Code])] ?_
   refine Zm 181 #[.agg #[.bool v15.Gone, sv_ v15.B, .int .i64 v15.At, .int .i64 v15.Code]] (some 16) (Calls.mono h ?_)
   rintro _ w4 ⟨v16, n_, rfl, h⟩
   refine ⟨_, rfl, ?_⟩
   refine Zn P3 5 [(2, [], pv_ b_1), (4, [], pv_ b_2), (17, [], .agg #[.bool v16.Gone, sv_ v16.B, .int .i64 v16.At, .int .i64 v16.Code]), (18, [], .int .u64 n_)] ?_
   obtain ⟨hc, h⟩ := h
   refine Zo 130 4 17 b_2 0 4 [.bool v16.Gone, sv_ v16.B, .int .i64 v16.At, .int .i64 v16.Code] hc (fun w5 hw => ?_)
   replace h := h w5 hw
   clear hw
   refine Zf P1 [(2, pv_ b_1), (4, pv_ b_2), (5, .int .u64 n_)] ?_
   change WpE _ _ c119_9 _ _ _
   refine Zs c119_10 c119_19 ?_
   refine Zt r119_11 c119_13 ?_
   refine Zn P1 1 [(2, [], pv_ b_1), (4, [], pv_ b_2), (5, [], .int .u64 n_), (19, [], .pointer (some ⟨b_2, 3, none⟩))] ?_
   obtain ⟨v20, hc, h⟩ := h
   refine Zl 28 19 b_2 3 28 20 hc ?_
   refine Zf P1 [(2, pv_ b_1), (4, pv_ b_2), (5, .int .u64 n_), (21, .bool (v20 != 0))] ?_
   change WpE _ _ c119_13 _ _ _
   refine Zc 21 (v20 != 0) c119_14 c119_18 (fun hb => ?_) (fun hb => ?_)
   · replace h := h.1 hb
     refine Zs c119_15 c119_17 ?_
     refine wpE_mixregion (id := 4) (ops := r119_15) o_towpathref05_Decode_15 (by kernel_rfl) (by kernel_rfl) (by kernel_rfl) (by kernel_rfl) (fun w6 hw => ?_)
     replace h := h w6 hw
     clear hw
     refine mreg_run P2 2 [(2, [], pv_ b_1), (22, [], Value.agg #[Value.int .i64 0, Value.slice none 0 0]), (23, [], Value.pointer (some ⟨b_2, 3, none⟩))] (by kernel_rfl) (by kernel_rfl) ?_
     obtain ⟨v24, hc, h⟩ := h
     refine mreg_load1 (i := 2) (by kernel_rfl) (t := 28) (a := (Operand.tmp 23)) (b := b_2) (o := 3) (ty := 28) (dst := some 24) (by kernel_rfl) (by kernel_rfl) (by kernel_rfl) hc ?_
     refine mreg_run [] 3 [(2, [], pv_ b_1), (22, [], Value.agg #[Value.int .i64 0, Value.slice none 0 0]), (24, [], Value.int .i64 v24)] (by kernel_rfl) (by kernel_rfl) ?_
     obtain ⟨hc, h⟩ := h
     refine mreg_store (t := 52) (a := (Operand.tmp 2)) (x := (Operand.tmp 22)) (b := b_1) (o := 0) (k := 2) (ty := 0) (dst := none) 3 [0] [(2, fun w' => w'.cell? ⟨b_2, 3, none⟩ = some (Value.int .i64 v24))] [Value.int .i64 0, Value.slice none 0 0] (by kernel_rfl) (by kernel_rfl) (by kernel_rfl) (by kernel_rfl) (by kernel_rfl) (by kernel_rfl) (by kernel_rfl) (by kernel_rfl) (by kernel_rfl) (by kernel_rfl) hc (fun w7 hw => ?_)
     replace h := h w7 hw
     clear hw
     obtain ⟨hk0, h⟩ := h
     refine ⟨⟨hk0, trivial⟩, ?_⟩
     refine mreg_run P1 5 [(2, [], pv_ b_1), (3, [], Value.int .i64 v24)] (by kernel_rfl) (by kernel_rfl) ?_
     refine mreg_end [(2, pv_ b_1), (3, Value.int .i64 v24)] (by kernel_rfl) (by kernel_rfl) (by kernel_rfl) ?_
     change WpE _ _ c119_17 _ _ _
     refine wpE_ret (by kernel_rfl) ?_
     obtain ⟨res, hc_res, h⟩ := h
     repeat (first | refine seqQ_ret ?_ | refine blockQ_ret ?_ | refine loopQ_ret ?_ | refine cutQ_ret ?_)
     exact retT (rs := [(ResultVar.cell 2 52), (ResultVar.tmp 3)]) (vs := [Value.agg #[Value.int .i64 res.Number, sv_ res.Writes], Value.int .i64 v24]) (by kernel_rfl) (⟨b_1, 0, [Value.int .i64 res.Number, sv_ res.Writes], by kernel_rfl, hc_res, (sizeP_of (k := 2) (by kernel_rfl) (by kernel_rfl)), .inl ⟨by kernel_rfl, rfl⟩, ⟨by kernel_rfl, trivial⟩⟩) (by kernel_rfl) ⟨res, v24, rfl, h⟩
   · replace h := h.2 hb
     refine wpE_skip (by kernel_rfl) ?_
     change WpE _ _ c119_19 _ _ _
     refine Zs c119_20 c119_29 ?_
     refine Zp c119_23 [.plain, .plain, .plain, .plain, .plain, .pick] [(2, pv_ b_1), (4, pv_ b_2), (5, .int .u64 n_), (30, .bool ((decide (n_ < 1)) || (decide (n_ > 65536))))] ?_
     refine Zc 30 ((decide (n_ < 1)) || (decide (n_ > 65536))) c119_24 c119_28 (fun hb => ?_) (fun hb => ?_)
     · replace h := h.1 hb
       refine Zt r119_25 c119_27 ?_
       refine Zn P1 1 [(2, [], pv_ b_1), (31, [], .agg #[.int .i64 0, .slice none 0 0])] ?_
       obtain ⟨hc, h⟩ := h
       refine Zo 52 2 31 b_1 0 2 [.int .i64 0, .slice none 0 0] hc (fun w8 hw => ?_)
       replace h := h w8 hw
       clear hw
       refine Zf P1 [(2, pv_ b_1), (3, .int .i64 1)] ?_
       change WpE _ _ c119_27 _ _ _
       refine wpE_ret (by kernel_rfl) ?_
       obtain ⟨res1, hc_res1, h⟩ := h
       repeat (first | refine seqQ_ret ?_ | refine blockQ_ret ?_ | refine loopQ_ret ?_ | refine cutQ_ret ?_)
       exact retT (rs := [(ResultVar.cell 2 52), (ResultVar.tmp 3)]) (vs := [Value.agg #[Value.int .i64 res1.Number, sv_ res1.Writes], Value.int .i64 1]) (by kernel_rfl) (⟨b_1, 0, [Value.int .i64 res1.Number, sv_ res1.Writes], by kernel_rfl, hc_res1, (sizeP_of (k := 2) (by kernel_rfl) (by kernel_rfl)), .inl ⟨by kernel_rfl, rfl⟩, ⟨by kernel_rfl, trivial⟩⟩) (by kernel_rfl) ⟨res1, 1, rfl, h⟩
     · replace h := h.2 hb
       refine wpE_skip (by kernel_rfl) ?_
       change WpE _ _ c119_29 _ _ _
       refine Zt r119_30 c119_32 ?_
       refine Zn [] 0 [(2, [], pv_ b_1), (4, [], pv_ b_2), (5, [], .int .u64 n_)] ?_
       obtain ⟨v33, hc, h⟩ := h
       refine reg_loadN (t := 130) (a := (Operand.tmp 4)) (b := b_2) (o := 0) (ty := 130) (dst := some 33) [Value.bool v33.Gone, sv_ v33.B, Value.int .i64 v33.At, Value.int .i64 v33.Code] (by kernel_rfl) (by kernel_rfl) (by kernel_rfl) (k := 4) (by kernel_rfl) (by kernel_rfl) hc ?_
       refine Zn [] 1 [(2, [], pv_ b_1), (4, [], pv_ b_2), (5, [], .int .u64 n_), (33, [], .agg #[.bool v33.Gone, sv_ v33.B, .int .i64 v33.At, .int .i64 v33.Code])] ?_
       refine Zm 181 #[.agg #[.bool v33.Gone, sv_ v33.B, .int .i64 v33.At, .int .i64 v33.Code]] (some 34) (Calls.mono h ?_)
       rintro _ w9 ⟨v34, many, rfl, h⟩
       refine ⟨_, rfl, ?_⟩
       refine Zn P3 5 [(2, [], pv_ b_1), (4, [], pv_ b_2), (5, [], .int .u64 n_), (35, [], .agg #[.bool v34.Gone, sv_ v34.B, .int .i64 v34.At, .int .i64 v34.Code]), (36, [], .int .u64 many)] ?_
       obtain ⟨hc, h⟩ := h
       refine Zo 130 4 35 b_2 0 4 [.bool v34.Gone, sv_ v34.B, .int .i64 v34.At, .int .i64 v34.Code] hc (fun w10 hw => ?_)
       replace h := h w10 hw
       clear hw
       refine Zf P1 [(2, pv_ b_1), (4, pv_ b_2), (5, .int .u64 n_), (6, .int .u64 many)] ?_
       change WpE _ _ c119_32 _ _ _
       refine Zs c119_33 c119_42 ?_
       refine Zt r119_34 c119_36 ?_
       refine Zn P1 1 [(2, [], pv_ b_1), (4, [], pv_ b_2), (5, [], .int .u64 n_), (6, [], .int .u64 many), (37, [], .pointer (some ⟨b_2, 3, none⟩))] ?_
       obtain ⟨v38, hc, h⟩ := h
       refine Zl 28 37 b_2 3 28 38 hc ?_
       refine Zf P1 [(2, pv_ b_1), (4, pv_ b_2), (5, .int .u64 n_), (6, .int .u64 many), (39, .bool (v38 != 0))] ?_
       change WpE _ _ c119_36 _ _ _
       refine Zc 39 (v38 != 0) c119_37 c119_41 (fun hb => ?_) (fun hb => ?_)
       · replace h := h.1 hb
         refine Zs c119_38 c119_40 ?_
         refine wpE_mixregion (id := 9) (ops := r119_38) o_towpathref05_Decode_38 (by kernel_rfl) (by kernel_rfl) (by kernel_rfl) (by kernel_rfl) (fun w11 hw => ?_)
         replace h := h w11 hw
         clear hw
         refine mreg_run P2 2 [(2, [], pv_ b_1), (40, [], Value.agg #[Value.int .i64 0, Value.slice none 0 0]), (41, [], Value.pointer (some ⟨b_2, 3, none⟩))] (by kernel_rfl) (by kernel_rfl) ?_
         obtain ⟨v42, hc, h⟩ := h
         refine mreg_load1 (i := 2) (by kernel_rfl) (t := 28) (a := (Operand.tmp 41)) (b := b_2) (o := 3) (ty := 28) (dst := some 42) (by kernel_rfl) (by kernel_rfl) (by kernel_rfl) hc ?_
         refine mreg_run [] 3 [(2, [], pv_ b_1), (40, [], Value.agg #[Value.int .i64 0, Value.slice none 0 0]), (42, [], Value.int .i64 v42)] (by kernel_rfl) (by kernel_rfl) ?_
         obtain ⟨hc, h⟩ := h
         refine mreg_store (t := 52) (a := (Operand.tmp 2)) (x := (Operand.tmp 40)) (b := b_1) (o := 0) (k := 2) (ty := 0) (dst := none) 3 [0] [(2, fun w' => w'.cell? ⟨b_2, 3, none⟩ = some (Value.int .i64 v42))] [Value.int .i64 0, Value.slice none 0 0] (by kernel_rfl) (by kernel_rfl) (by kernel_rfl) (by kernel_rfl) (by kernel_rfl) (by kernel_rfl) (by kernel_rfl) (by kernel_rfl) (by kernel_rfl) (by kernel_rfl) hc (fun w12 hw => ?_)
         replace h := h w12 hw
         clear hw
         obtain ⟨hk0, h⟩ := h
         refine ⟨⟨hk0, trivial⟩, ?_⟩
         refine mreg_run P1 5 [(2, [], pv_ b_1), (3, [], Value.int .i64 v42)] (by kernel_rfl) (by kernel_rfl) ?_
         refine mreg_end [(2, pv_ b_1), (3, Value.int .i64 v42)] (by kernel_rfl) (by kernel_rfl) (by kernel_rfl) ?_
         change WpE _ _ c119_40 _ _ _
         refine wpE_ret (by kernel_rfl) ?_
         obtain ⟨res2, hc_res2, h⟩ := h
         repeat (first | refine seqQ_ret ?_ | refine blockQ_ret ?_ | refine loopQ_ret ?_ | refine cutQ_ret ?_)
         exact retT (rs := [(ResultVar.cell 2 52), (ResultVar.tmp 3)]) (vs := [Value.agg #[Value.int .i64 res2.Number, sv_ res2.Writes], Value.int .i64 v42]) (by kernel_rfl) (⟨b_1, 0, [Value.int .i64 res2.Number, sv_ res2.Writes], by kernel_rfl, hc_res2, (sizeP_of (k := 2) (by kernel_rfl) (by kernel_rfl)), .inl ⟨by kernel_rfl, rfl⟩, ⟨by kernel_rfl, trivial⟩⟩) (by kernel_rfl) ⟨res2, v42, rfl, h⟩
       · replace h := h.2 hb
         refine wpE_skip (by kernel_rfl) ?_
         change WpE _ _ c119_42 _ _ _
         refine Zs c119_43 c119_52 ?_
         refine Zp c119_46 P2 [(2, pv_ b_1), (4, pv_ b_2), (5, .int .u64 n_), (6, .int .u64 many), (44, .bool (decide (many > 32)))] ?_
         refine Zc 44 (decide (many > 32)) c119_47 c119_51 (fun hb => ?_) (fun hb => ?_)
         · replace h := h.1 hb
           refine Zt r119_48 c119_50 ?_
           refine Zn P1 1 [(2, [], pv_ b_1), (45, [], .agg #[.int .i64 0, .slice none 0 0])] ?_
           obtain ⟨hc, h⟩ := h
           refine Zo 52 2 45 b_1 0 2 [.int .i64 0, .slice none 0 0] hc (fun w13 hw => ?_)
           replace h := h w13 hw
           clear hw
           refine Zf P1 [(2, pv_ b_1), (3, .int .i64 3)] ?_
           change WpE _ _ c119_50 _ _ _
           refine wpE_ret (by kernel_rfl) ?_
           obtain ⟨res3, hc_res3, h⟩ := h
           repeat (first | refine seqQ_ret ?_ | refine blockQ_ret ?_ | refine loopQ_ret ?_ | refine cutQ_ret ?_)
           exact retT (rs := [(ResultVar.cell 2 52), (ResultVar.tmp 3)]) (vs := [Value.agg #[Value.int .i64 res3.Number, sv_ res3.Writes], Value.int .i64 3]) (by kernel_rfl) (⟨b_1, 0, [Value.int .i64 res3.Number, sv_ res3.Writes], by kernel_rfl, hc_res3, (sizeP_of (k := 2) (by kernel_rfl) (by kernel_rfl)), .inl ⟨by kernel_rfl, rfl⟩, ⟨by kernel_rfl, trivial⟩⟩) (by kernel_rfl) ⟨res3, 3, rfl, h⟩
         · replace h := h.2 hb
           refine wpE_skip (by kernel_rfl) ?_
           change WpE _ _ c119_52 _ _ _
           refine Zt r119_53 c119_55 ?_
           refine Zn P3 3 [(2, [], pv_ b_1), (4, [], pv_ b_2), (6, [], .int .u64 many), (48, [], .agg #[.int .i64 (IntKind.i64.wrap n_), .slice none 0 0])] ?_
           refine Zw (some 7) (fun bb => pv_ bb) (Obj.cells ([.int .i64 0, .slice none 0 0]).toArray ty_api_Txn (0, 0)) (fun b_3 w14 hb hw => ?_)
           replace h := h b_3 w14 hb hw
           clear hb hw
           refine Zn [] 4 [(2, [], pv_ b_1), (4, [], pv_ b_2), (6, [], .int .u64 many), (7, [], pv_ b_3), (48, [], .agg #[.int .i64 (IntKind.i64.wrap n_), .slice none 0 0])] ?_
           obtain ⟨hc, h⟩ := h
           refine Zo 52 7 48 b_3 0 2 [.int .i64 (IntKind.i64.wrap n_), .slice none 0 0] hc (fun w15 hw => ?_)
           replace h := h w15 hw
           clear hw
           refine Ze [(2, pv_ b_1), (4, pv_ b_2), (6, .int .u64 many), (7, pv_ b_3)] ?_
           change WpE _ _ c119_55 _ _ _
           refine Zs c119_56 c119_90 ?_
           refine Zp c119_59 P1 [(2, pv_ b_1), (4, pv_ b_2), (6, .int .u64 many), (7, pv_ b_3), (8, .int .i64 0)] ?_
           refine Zb 0 c119_60 ?_
           obtain ⟨I, μ, h0, hr⟩ := h
           refine wpE_loop (x := c119_61) (by kernel_rfl) (fun m l w => ∃ (i : Int), l = [(2, pv_ b_1), (4, pv_ b_2), (6, Value.int .u64 many), (7, pv_ b_3), (8, Value.int .i64 i)] ∧ I i w ∧ μ i w = m) (l' := [(2, pv_ b_1), (4, pv_ b_2), (6, Value.int .u64 many), (7, pv_ b_3), (8, Value.int .i64 0)]) (Sub.mk (by kernel_rfl)) ⟨0, rfl, h0, rfl⟩ ?_
           rintro _ _ w16 ⟨i, rfl, hI, rfl⟩
           obtain ⟨again_, again__h, h⟩ : ∃ again_ : Int → World → Prop, (∀ i' w', again_ i' w' → I i' w' ∧ μ i' w' < μ i w16) ∧ F_towpathref05_Decode_L0 R b_1 b_2 many b_3 again_ i w16 := ⟨_, fun _ _ h => h, hr i w16 hI⟩
           clear h0 hI
           unfold F_towpathref05_Decode_L0 at h
           refine Zs c119_62 c119_68 ?_
           refine Zp c119_65 P4 [(2, pv_ b_1), (4, pv_ b_2), (6, .int .u64 many), (7, pv_ b_3), (8, .int .i64 i), (52, .bool (decide (i < (IntKind.i64.wrap many))))] ?_
           refine Zc 52 (decide (i < (IntKind.i64.wrap many))) c119_66 c119_67 (fun hb => ?_) (fun hb => ?_)
           · replace h := h.1 hb
             refine wpE_skip (by kernel_rfl) ?_
             change WpE _ _ c119_68 _ _ _
             refine Zs c119_69 c119_88 ?_
             refine Zb 1 c119_70 ?_
             refine Zt r119_71 c119_73 ?_
             refine Zn [] 0 [(2, [], pv_ b_1), (4, [], pv_ b_2), (6, [], .int .u64 many), (7, [], pv_ b_3), (8, [], .int .i64 i)] ?_
             obtain ⟨v56, hc, h⟩ := h
             refine reg_loadN (t := 130) (a := (Operand.tmp 4)) (b := b_2) (o := 0) (ty := 130) (dst := some 56) [Value.bool v56.Gone, sv_ v56.B, Value.int .i64 v56.At, Value.int .i64 v56.Code] (by kernel_rfl) (by kernel_rfl) (by kernel_rfl) (k := 4) (by kernel_rfl) (by kernel_rfl) hc ?_
             refine Zn [] 1 [(2, [], pv_ b_1), (4, [], pv_ b_2), (6, [], .int .u64 many), (7, [], pv_ b_3), (8, [], .int .i64 i), (56, [], .agg #[.bool v56.Gone, sv_ v56.B, .int .i64 v56.At, .int .i64 v56.Code])] ?_
             refine Zm 182 #[.agg #[.bool v56.Gone, sv_ v56.B, .int .i64 v56.At, .int .i64 v56.Code]] (some 57) (Calls.mono h ?_)
             rintro _ w17 ⟨v57, v57_1, e, rfl, h⟩
             refine ⟨_, rfl, ?_⟩
             refine Zn P4 6 [(2, [], pv_ b_1), (4, [], pv_ b_2), (6, [], .int .u64 many), (7, [], pv_ b_3), (8, [], .int .i64 i), (58, [], .agg #[.bool v57.Gone, sv_ v57.B, .int .i64 v57.At, .int .i64 v57.Code]), (59, [], .agg #[.string v57_1.Key, .string v57_1.Val, .bool v57_1.Drop]), (60, [], .int .i64 e)] ?_
             refine Zw (some 9) (fun bb => pv_ bb) (Obj.cells ([.bool false, .slice none 0 0, .int .i64 0, .int .i64 0]).toArray ty_towpathref02_Reader (0, 0)) (fun b_4 w18 hb hw => ?_)
             replace h := h b_4 w18 hb hw
             clear hb hw
             refine Zn [] 7 [(2, [], pv_ b_1), (4, [], pv_ b_2), (6, [], .int .u64 many), (7, [], pv_ b_3), (8, [], .int .i64 i), (9, [], pv_ b_4), (58, [], .agg #[.bool v57.Gone, sv_ v57.B, .int .i64 v57.At, .int .i64 v57.Code]), (59, [], .agg #[.string v57_1.Key, .string v57_1.Val, .bool v57_1.Drop]), (60, [], .int .i64 e)] ?_
             refine Zw (some 10) (fun bb => pv_ bb) (Obj.cells ([.string ByteArray.empty, .string ByteArray.empty, .bool false]).toArray ty_api_Write (0, 0)) (fun b_5 w19 hb hw => ?_)
             replace h := h b_5 w19 hb hw
             clear hb hw
             refine Zn [] 8 [(2, [], pv_ b_1), (4, [], pv_ b_2), (6, [], .int .u64 many), (7, [], pv_ b_3), (8, [], .int .i64 i), (9, [], pv_ b_4), (10, [], pv_ b_5), (58, [], .agg #[.bool v57.Gone, sv_ v57.B, .int .i64 v57.At, .int .i64 v57.Code]), (59, [], .agg #[.string v57_1.Key, .string v57_1.Val, .bool v57_1.Drop]), (60, [], .int .i64 e)] ?_
             obtain ⟨hc, h⟩ := h
             refine Zo 130 9 58 b_4 0 4 [.bool v57.Gone, sv_ v57.B, .int .i64 v57.At, .int .i64 v57.Code] hc (fun w20 hw => ?_)
             replace h := h w20 hw
             clear hw
             refine Zn [] 9 [(2, [], pv_ b_1), (4, [], pv_ b_2), (6, [], .int .u64 many), (7, [], pv_ b_3), (8, [], .int .i64 i), (9, [], pv_ b_4), (10, [], pv_ b_5), (59, [], .agg #[.string v57_1.Key, .string v57_1.Val, .bool v57_1.Drop]), (60, [], .int .i64 e)] ?_
             obtain ⟨hc, h⟩ := h
             refine Zo 139 10 59 b_5 0 3 [.string v57_1.Key, .string v57_1.Val, .bool v57_1.Drop] hc (fun w21 hw => ?_)
             replace h := h w21 hw
             clear hw
             refine Zf P1 [(2, pv_ b_1), (4, pv_ b_2), (6, .int .u64 many), (7, pv_ b_3), (8, .int .i64 i), (9, pv_ b_4), (10, pv_ b_5), (11, .int .i64 e)] ?_
             change WpE _ _ c119_73 _ _ _
             refine Zs c119_74 c119_83 ?_
             refine Zp c119_77 P2 [(2, pv_ b_1), (4, pv_ b_2), (6, .int .u64 many), (7, pv_ b_3), (8, .int .i64 i), (9, pv_ b_4), (10, pv_ b_5), (11, .int .i64 e), (62, .bool (e != 0))] ?_
             refine Zc 62 (e != 0) c119_78 c119_82 (fun hb => ?_) (fun hb => ?_)
             · replace h := h.1 hb
               refine Zt r119_79 c119_81 ?_
               refine Zn P2 2 [(2, [], pv_ b_1), (63, [], .agg #[.int .i64 0, .slice none 0 0]), (64, [], .int .i64 e)] ?_
               obtain ⟨hc, h⟩ := h
               refine Zo 52 2 63 b_1 0 2 [.int .i64 0, .slice none 0 0] hc (fun w22 hw => ?_)
               replace h := h w22 hw
               clear hw
               refine Zf P1 [(2, pv_ b_1), (3, .int .i64 e)] ?_
               change WpE _ _ c119_81 _ _ _
               refine wpE_ret (by kernel_rfl) ?_
               obtain ⟨res4, hc_res4, h⟩ := h
               repeat (first | refine seqQ_ret ?_ | refine blockQ_ret ?_ | refine loopQ_ret ?_ | refine cutQ_ret ?_)
               exact retT (rs := [(ResultVar.cell 2 52), (ResultVar.tmp 3)]) (vs := [Value.agg #[Value.int .i64 res4.Number, sv_ res4.Writes], Value.int .i64 e]) (by kernel_rfl) (⟨b_1, 0, [Value.int .i64 res4.Number, sv_ res4.Writes], by kernel_rfl, hc_res4, (sizeP_of (k := 2) (by kernel_rfl) (by kernel_rfl)), .inl ⟨by kernel_rfl, rfl⟩, ⟨by kernel_rfl, trivial⟩⟩) (by kernel_rfl) ⟨res4, e, rfl, h⟩
             · replace h := h.2 hb
               refine wpE_skip (by kernel_rfl) ?_
               change WpE _ _ c119_83 _ _ _
               refine Zt r119_84 c119_86 ?_
               refine Zn [] 0 [(2, [], pv_ b_1), (4, [], pv_ b_2), (6, [], .int .u64 many), (7, [], pv_ b_3), (8, [], .int .i64 i), (9, [], pv_ b_4), (10, [], pv_ b_5)] ?_
               obtain ⟨v65, hc, h⟩ := h
               refine reg_loadN (t := 130) (a := (Operand.tmp 9)) (b := b_4) (o := 0) (ty := 130) (dst := some 65) [Value.bool v65.Gone, sv_ v65.B, Value.int .i64 v65.At, Value.int .i64 v65.Code] (by kernel_rfl) (by kernel_rfl) (by kernel_rfl) (k := 4) (by kernel_rfl) (by kernel_rfl) hc ?_
               refine Zn [] 1 [(2, [], pv_ b_1), (4, [], pv_ b_2), (6, [], .int .u64 many), (7, [], pv_ b_3), (8, [], .int .i64 i), (10, [], pv_ b_5), (65, [], .agg #[.bool v65.Gone, sv_ v65.B, .int .i64 v65.At, .int .i64 v65.Code])] ?_
               obtain ⟨hc, h⟩ := h
               refine Zo 130 4 65 b_2 0 4 [.bool v65.Gone, sv_ v65.B, .int .i64 v65.At, .int .i64 v65.Code] hc (fun w23 hw => ?_)
               replace h := h w23 hw
               clear hw
               refine Ze [(2, pv_ b_1), (4, pv_ b_2), (6, .int .u64 many), (7, pv_ b_3), (8, .int .i64 i), (10, pv_ b_5)] ?_
               change WpE _ _ c119_86 _ _ _
               refine Zr r119_86 ?_
               refine Zn P1 1 [(2, [], pv_ b_1), (4, [], pv_ b_2), (6, [], .int .u64 many), (7, [], pv_ b_3), (8, [], .int .i64 i), (10, [], pv_ b_5), (66, [], .pointer (some ⟨b_3, 1, none⟩))] ?_
               obtain ⟨v67, hc, h⟩ := h
               refine Zl 50 66 b_3 1 50 67 hc ?_
               refine Zn [] 2 [(2, [], pv_ b_1), (4, [], pv_ b_2), (6, [], .int .u64 many), (7, [], pv_ b_3), (8, [], .int .i64 i), (10, [], pv_ b_5), (67, [], sv_ v67)] ?_
               obtain ⟨v68, hc, h⟩ := h
               refine reg_loadN (t := 139) (a := (Operand.tmp 10)) (b := b_5) (o := 0) (ty := 139) (dst := some 68) [Value.string v68.Key, Value.string v68.Val, Value.bool v68.Drop] (by kernel_rfl) (by kernel_rfl) (by kernel_rfl) (k := 3) (by kernel_rfl) (by kernel_rfl) hc ?_
               refine Zn [] 3 [(2, [], pv_ b_1), (4, [], pv_ b_2), (6, [], .int .u64 many), (7, [], pv_ b_3), (8, [], .int .i64 i), (67, [], sv_ v67), (68, [], .agg #[.string v68.Key, .string v68.Val, .bool v68.Drop])] ?_
               refine Zw (some 69) (fun bb => .slice (some ⟨bb, 0, none⟩) 1 1) (Obj.cells ([.string v68.Key, .string v68.Val, .bool v68.Drop]).toArray ty_api_Write (0, 0)) (fun b_6 w24 hb hw => ?_)
               replace h := h b_6 w24 hb hw
               clear hb hw
               refine Zn [] 4 [(2, [], pv_ b_1), (4, [], pv_ b_2), (6, [], .int .u64 many), (7, [], pv_ b_3), (8, [], .int .i64 i), (67, [], sv_ v67), (69, [], .slice (some ⟨b_6, 0, none⟩) 1 1)] ?_
               obtain ⟨src, hs, h⟩ := h
               refine reg_append (t := 50) (tx := 50) (e := 139) (a := (Operand.tmp 67)) (xo := (Operand.tmp 69)) (s := v67) (x := (Slc.mk (some ⟨b_6, 0, none⟩) 1 1)) (sz := 3) (by_ := 40) (zs := [Value.string ByteArray.empty, Value.string ByteArray.empty, Value.bool false]) (ty := 50) (dst := some 70)  src (by kernel_rfl) (by kernel_rfl) (by kernel_rfl) (by kernel_rfl) (by kernel_rfl) (by kernel_rfl) (by kernel_rfl) (by kernel_rfl) (by kernel_rfl) hs (AppendW.mono h (fun v70 w25 h => ?_))
               refine Zn P1 6 [(2, [], pv_ b_1), (4, [], pv_ b_2), (6, [], .int .u64 many), (7, [], pv_ b_3), (8, [], .int .i64 i), (70, [], sv_ v70), (71, [], .pointer (some ⟨b_3, 1, none⟩))] ?_
               obtain ⟨hc, h⟩ := h
               refine Zo 50 71 70 b_3 1 1 [sv_ v70] hc (fun w26 hw => ?_)
               replace h := h w26 hw
               clear hw
               refine Ze [(2, pv_ b_1), (4, pv_ b_2), (6, .int .u64 many), (7, pv_ b_3), (8, .int .i64 i)] ?_
               change WpE _ _ c119_88 _ _ _
               refine Zr r119_88 ?_
               refine Zf P3 [(2, pv_ b_1), (4, pv_ b_2), (6, .int .u64 many), (7, pv_ b_3), (8, .int .i64 (IntKind.i64.wrap (i + 1)))] ?_
               have hb_ := again__h _ _ h
               exact ⟨_, hb_.2, [(2, pv_ b_1), (4, pv_ b_2), (6, Value.int .u64 many), (7, pv_ b_3), (8, Value.int .i64 (IntKind.i64.wrap (i + 1)))], Sub.mk (by kernel_rfl), (IntKind.i64.wrap (i + 1)), rfl, hb_.1, rfl⟩
           · replace h := h.2 hb
             refine wpE_exit (id := 0) (by kernel_rfl) ?_
             change WpE _ _ c119_90 _ _ _
             refine Zs c119_91 c119_100 ?_
             refine Zt r119_92 c119_94 ?_
             refine Zn [] 0 [(2, [], pv_ b_1), (4, [], pv_ b_2), (7, [], pv_ b_3)] ?_
             obtain ⟨v72, hc, h⟩ := h
             refine reg_loadN (t := 130) (a := (Operand.tmp 4)) (b := b_2) (o := 0) (ty := 130) (dst := some 72) [Value.bool v72.Gone, sv_ v72.B, Value.int .i64 v72.At, Value.int .i64 v72.Code] (by kernel_rfl) (by kernel_rfl) (by kernel_rfl) (k := 4) (by kernel_rfl) (by kernel_rfl) hc ?_
             refine Zn [] 1 [(2, [], pv_ b_1), (7, [], pv_ b_3), (72, [], .agg #[.bool v72.Gone, sv_ v72.B, .int .i64 v72.At, .int .i64 v72.Code])] ?_
             refine Zm 183 #[.agg #[.bool v72.Gone, sv_ v72.B, .int .i64 v72.At, .int .i64 v72.Code]] (some 73) (Calls.mono h ?_)
             rintro _ w27 ⟨v73, rfl, h⟩
             refine ⟨_, rfl, ?_⟩
             refine Zf P1 [(2, pv_ b_1), (7, pv_ b_3), (74, .bool (v73 != 0))] ?_
             change WpE _ _ c119_94 _ _ _
             refine Zc 74 (v73 != 0) c119_95 c119_99 (fun hb => ?_) (fun hb => ?_)
             · replace h := h.1 hb
               refine Zt r119_96 c119_98 ?_
               refine Zn P1 1 [(2, [], pv_ b_1), (75, [], .agg #[.int .i64 0, .slice none 0 0])] ?_
               obtain ⟨hc, h⟩ := h
               refine Zo 52 2 75 b_1 0 2 [.int .i64 0, .slice none 0 0] hc (fun w28 hw => ?_)
               replace h := h w28 hw
               clear hw
               refine Zf P1 [(2, pv_ b_1), (3, .int .i64 4)] ?_
               change WpE _ _ c119_98 _ _ _
               refine wpE_ret (by kernel_rfl) ?_
               obtain ⟨res5, hc_res5, h⟩ := h
               repeat (first | refine seqQ_ret ?_ | refine blockQ_ret ?_ | refine loopQ_ret ?_ | refine cutQ_ret ?_)
               exact retT (rs := [(ResultVar.cell 2 52), (ResultVar.tmp 3)]) (vs := [Value.agg #[Value.int .i64 res5.Number, sv_ res5.Writes], Value.int .i64 4]) (by kernel_rfl) (⟨b_1, 0, [Value.int .i64 res5.Number, sv_ res5.Writes], by kernel_rfl, hc_res5, (sizeP_of (k := 2) (by kernel_rfl) (by kernel_rfl)), .inl ⟨by kernel_rfl, rfl⟩, ⟨by kernel_rfl, trivial⟩⟩) (by kernel_rfl) ⟨res5, 4, rfl, h⟩
             · replace h := h.2 hb
               refine wpE_skip (by kernel_rfl) ?_
               change WpE _ _ c119_100 _ _ _
               refine Zt r119_101 c119_103 ?_
               refine Zn [] 0 [(2, [], pv_ b_1), (7, [], pv_ b_3)] ?_
               obtain ⟨v76, hc, h⟩ := h
               refine reg_loadN (t := 52) (a := (Operand.tmp 7)) (b := b_3) (o := 0) (ty := 52) (dst := some 76) [Value.int .i64 v76.Number, sv_ v76.Writes] (by kernel_rfl) (by kernel_rfl) (by kernel_rfl) (k := 2) (by kernel_rfl) (by kernel_rfl) hc ?_
               refine Zn [] 1 [(2, [], pv_ b_1), (76, [], .agg #[.int .i64 v76.Number, sv_ v76.Writes])] ?_
               obtain ⟨hc, h⟩ := h
               refine Zo 52 2 76 b_1 0 2 [.int .i64 v76.Number, sv_ v76.Writes] hc (fun w29 hw => ?_)
               replace h := h w29 hw
               clear hw
               refine Zf P1 [(2, pv_ b_1), (3, .int .i64 0)] ?_
               change WpE _ _ c119_103 _ _ _
               refine wpE_ret (by kernel_rfl) ?_
               obtain ⟨res6, hc_res6, h⟩ := h
               repeat (first | refine seqQ_ret ?_ | refine blockQ_ret ?_ | refine loopQ_ret ?_ | refine cutQ_ret ?_)
               exact retT (rs := [(ResultVar.cell 2 52), (ResultVar.tmp 3)]) (vs := [Value.agg #[Value.int .i64 res6.Number, sv_ res6.Writes], Value.int .i64 0]) (by kernel_rfl) (⟨b_1, 0, [Value.int .i64 res6.Number, sv_ res6.Writes], by kernel_rfl, hc_res6, (sizeP_of (k := 2) (by kernel_rfl) (by kernel_rfl)), .inl ⟨by kernel_rfl, rfl⟩, ⟨by kernel_rfl, trivial⟩⟩) (by kernel_rfl) ⟨res6, 0, rfl, h⟩
 · rintro e w' ⟨v, rfl, r0, r1, rfl, h⟩; exact ⟨r0, r1, rfl, h⟩

/-! ### towpath/towpathref05.one (function 182) -/
def c182_0 := cb_ Tryz.f182
def c182_1 := cl_ c182_0
def r182_1 := co_ c182_1
def c182_3 := cr_ c182_0
def c182_4 := cl_ c182_3
def r182_4 := co_ c182_4
def c182_6 := cr_ c182_3
def c182_7 := cl_ c182_6
def c182_8 := cl_ c182_7
def r182_8 := co_ c182_8
def c182_10 := cr_ c182_7
def c182_11 := cl_ c182_10
def c182_12 := cl_ c182_11
def r182_12 := co_ c182_12
def c182_14 := cr_ c182_11
def c182_15 := cr_ c182_10
def c182_16 := cr_ c182_6
def c182_17 := cl_ c182_16
def c182_20 := cr_ c182_17
def c182_21 := cl_ c182_20
def c182_22 := cl_ c182_21
def r182_22 := co_ c182_22
def c182_24 := cr_ c182_21
def c182_25 := cr_ c182_20
def c182_26 := cr_ c182_16
def c182_27 := cl_ c182_26
def r182_27 := co_ c182_27
def c182_29 := cr_ c182_26
def c182_30 := cl_ c182_29
def c182_31 := cl_ c182_30
def r182_31 := co_ c182_31
def c182_33 := cr_ c182_30
def c182_34 := cl_ c182_33
def c182_35 := cl_ c182_34
def r182_35 := co_ c182_35
def c182_37 := cr_ c182_34
def c182_38 := cr_ c182_33
def c182_39 := cr_ c182_29
def c182_40 := cl_ c182_39
def c182_43 := cr_ c182_40
def c182_44 := cl_ c182_43
def c182_45 := cl_ c182_44
def r182_45 := co_ c182_45
def c182_47 := cr_ c182_44
def c182_48 := cr_ c182_43
def c182_49 := cr_ c182_39
def c182_50 := cl_ c182_49
def c182_53 := cr_ c182_50
def c182_54 := cl_ c182_53
def c182_55 := cl_ c182_54
def r182_55 := co_ c182_55
def c182_57 := cr_ c182_54
def c182_58 := cr_ c182_53
def c182_59 := cr_ c182_49
def c182_60 := cl_ c182_59
def r182_60 := co_ c182_60
def c182_62 := cr_ c182_59
def c182_63 := cl_ c182_62
def r182_63 := co_ c182_63
def c182_65 := cr_ c182_62
def o_towpathref05_one_12 : List Nat := [0, 1, 2, 3, 4, 5, 6]
def o_towpathref05_one_35 : List Nat := [0, 1, 2, 3, 4, 5, 6]
def o_towpathref05_one_63 : List Nat := [0, 1, 2, 3, 4, 5, 6, 7, 8]

theorem S_towpathref05_one {r : T_towpathref02_Reader} {w : World} {R : T_towpathref02_Reader → T_api_Write → Int → World → Prop} (h : F_towpathref05_one r R w) : C_towpathref05_one r w R := by
 unfold F_towpathref05_one at h
 unfold C_towpathref05_one
 refine Calls.mono (calls_of_wpE (args := [Value.agg #[Value.bool r.Gone, sv_ r.B, Value.int .i64 r.At, Value.int .i64 r.Code]]) (R := fun v w' => ∃ (r0 : T_towpathref02_Reader) (r1 : T_api_Write) (r2 : Int), v = Value.tuple #[Value.agg #[Value.bool r0.Gone, sv_ r0.B, Value.int .i64 r0.At, Value.int .i64 r0.Code], Value.agg #[Value.string r1.Key, Value.string r1.Val, Value.bool r1.Drop], Value.int .i64 r2] ∧ R r0 r1 r2 w') Tryz.func182 (c := c182_0) (by kernel_rfl) 57 (by kernel_rfl) (by kernel_rfl) [(0, Value.agg #[Value.bool r.Gone, sv_ r.B, Value.int .i64 r.At, Value.int .i64 r.Code])] (by kernel_rfl) ?_) ?_
 · refine Zt r182_1 c182_3 ?_
   refine Zn [] 0 [(0, [], .agg #[.bool r.Gone, sv_ r.B, .int .i64 r.At, .int .i64 r.Code])] ?_
   refine Zw (some 1) (fun bb => pv_ bb) (Obj.cells ([.bool r.Gone, sv_ r.B, .int .i64 r.At, .int .i64 r.Code]).toArray ty_towpathref02_Reader (0, 0)) (fun b_ w1 hb hw => ?_)
   replace h := h b_ w1 hb hw
   clear hb hw
   refine Zn [] 1 [(1, [], pv_ b_)] ?_
   refine Zw (some 2) (fun bb => pv_ bb) (Obj.cells ([.bool false, .slice none 0 0, .int .i64 0, .int .i64 0]).toArray ty_towpathref02_Reader (0, 0)) (fun b_1 w2 hb hw => ?_)
   replace h := h b_1 w2 hb hw
   clear hb hw
   refine Zn [] 2 [(1, [], pv_ b_), (2, [], pv_ b_1)] ?_
   refine Zw (some 3) (fun bb => pv_ bb) (Obj.cells ([.string ByteArray.empty, .string ByteArray.empty, .bool false]).toArray ty_api_Write (0, 0)) (fun b_2 w3 hb hw => ?_)
   replace h := h b_2 w3 hb hw
   clear hb hw
   refine Zf P1 [(1, pv_ b_), (2, pv_ b_1), (3, pv_ b_2)] ?_
   change WpE _ _ c182_3 _ _ _
   refine Zt r182_4 c182_6 ?_
   refine Zn [] 0 [(1, [], pv_ b_), (2, [], pv_ b_1), (3, [], pv_ b_2)] ?_
   obtain ⟨v9, hc, h⟩ := h
   refine reg_loadN (t := 130) (a := (Operand.tmp 1)) (b := b_) (o := 0) (ty := 130) (dst := some 9) [Value.bool v9.Gone, sv_ v9.B, Value.int .i64 v9.At, Value.int .i64 v9.Code] (by kernel_rfl) (by kernel_rfl) (by kernel_rfl) (k := 4) (by kernel_rfl) (by kernel_rfl) hc ?_
   refine Zn [] 1 [(1, [], pv_ b_), (2, [], pv_ b_1), (3, [], pv_ b_2), (9, [], .agg #[.bool v9.Gone, sv_ v9.B, .int .i64 v9.At, .int .i64 v9.Code])] ?_
   refine Zm 117 #[.agg #[.bool v9.Gone, sv_ v9.B, .int .i64 v9.At, .int .i64 v9.Code], .int .i64 64] (some 10) (Calls.mono h ?_)
   rintro _ w4 ⟨v10, key, rfl, h⟩
   refine ⟨_, rfl, ?_⟩
   refine Zn P3 5 [(1, [], pv_ b_), (2, [], pv_ b_1), (3, [], pv_ b_2), (11, [], .agg #[.bool v10.Gone, sv_ v10.B, .int .i64 v10.At, .int .i64 v10.Code]), (12, [], .string key)] ?_
   obtain ⟨hc, h⟩ := h
   refine Zo 130 1 11 b_ 0 4 [.bool v10.Gone, sv_ v10.B, .int .i64 v10.At, .int .i64 v10.Code] hc (fun w5 hw => ?_)
   replace h := h w5 hw
   clear hw
   refine Zf P1 [(1, pv_ b_), (2, pv_ b_1), (3, pv_ b_2), (5, .string key)] ?_
   change WpE _ _ c182_6 _ _ _
   refine Zs c182_7 c182_16 ?_
   refine Zt r182_8 c182_10 ?_
   refine Zn P1 1 [(1, [], pv_ b_), (2, [], pv_ b_1), (3, [], pv_ b_2), (5, [], .string key), (13, [], .pointer (some ⟨b_, 3, none⟩))] ?_
   obtain ⟨v14, hc, h⟩ := h
   refine Zl 28 13 b_ 3 28 14 hc ?_
   refine Zf P1 [(1, pv_ b_), (2, pv_ b_1), (3, pv_ b_2), (5, .string key), (15, .bool (v14 != 0))] ?_
   change WpE _ _ c182_10 _ _ _
   refine Zc 15 (v14 != 0) c182_11 c182_15 (fun hb => ?_) (fun hb => ?_)
   · replace h := h.1 hb
     refine Zs c182_12 c182_14 ?_
     refine wpE_mixregion (id := 3) (ops := r182_12) o_towpathref05_one_12 (by kernel_rfl) (by kernel_rfl) (by kernel_rfl) (by kernel_rfl) (fun w6 hw => ?_)
     replace h := h w6 hw
     clear hw
     refine mreg_run [] 0 [(1, [], pv_ b_), (2, [], pv_ b_1), (3, [], pv_ b_2)] (by kernel_rfl) (by kernel_rfl) ?_
     obtain ⟨v16, hc, h⟩ := h
     refine mreg_loadN (i := 0) (by kernel_rfl) (t := 130) (a := (Operand.tmp 1)) (b := b_) (o := 0) (ty := 130) (dst := some 16) [Value.bool v16.Gone, sv_ v16.B, Value.int .i64 v16.At, Value.int .i64 v16.Code] (by kernel_rfl) (by kernel_rfl) (by kernel_rfl) (k := 4) (by kernel_rfl) (by kernel_rfl) hc ?_
     refine mreg_run P2 3 [(2, [], pv_ b_1), (3, [], pv_ b_2), (16, [], Value.agg #[Value.bool v16.Gone, sv_ v16.B, Value.int .i64 v16.At, Value.int .i64 v16.Code]), (17, [], Value.agg #[Value.string ByteArray.empty, Value.string ByteArray.empty, Value.bool false]), (18, [], Value.pointer (some ⟨b_, 3, none⟩))] (by kernel_rfl) (by kernel_rfl) ?_
     obtain ⟨v19, hc, h⟩ := h
     refine mreg_load1 (i := 3) (by kernel_rfl) (t := 28) (a := (Operand.tmp 18)) (b := b_) (o := 3) (ty := 28) (dst := some 19) (by kernel_rfl) (by kernel_rfl) (by kernel_rfl) hc ?_
     refine mreg_run [] 4 [(2, [], pv_ b_1), (3, [], pv_ b_2), (16, [], Value.agg #[Value.bool v16.Gone, sv_ v16.B, Value.int .i64 v16.At, Value.int .i64 v16.Code]), (17, [], Value.agg #[Value.string ByteArray.empty, Value.string ByteArray.empty, Value.bool false]), (19, [], Value.int .i64 v19)] (by kernel_rfl) (by kernel_rfl) ?_
     obtain ⟨hc, h⟩ := h
     refine mreg_store (t := 130) (a := (Operand.tmp 2)) (x := (Operand.tmp 16)) (b := b_1) (o := 0) (k := 4) (ty := 0) (dst := none) 4 [0] [(3, fun w' => w'.cell? ⟨b_, 3, none⟩ = some (Value.int .i64 v19))] [Value.bool v16.Gone, sv_ v16.B, Value.int .i64 v16.At, Value.int .i64 v16.Code] (by kernel_rfl) (by kernel_rfl) (by kernel_rfl) (by kernel_rfl) (by kernel_rfl) (by kernel_rfl) (by kernel_rfl) (by kernel_rfl) (by kernel_rfl) (by kernel_rfl) hc (fun w7 hw => ?_)
     replace h := h w7 hw
     clear hw
     obtain ⟨hk0, h⟩ := h
     refine ⟨⟨hk0, trivial⟩, ?_⟩
     refine mreg_run [] 5 [(2, [], pv_ b_1), (3, [], pv_ b_2), (17, [], Value.agg #[Value.string ByteArray.empty, Value.string ByteArray.empty, Value.bool false]), (19, [], Value.int .i64 v19)] (by kernel_rfl) (by kernel_rfl) ?_
     obtain ⟨hc, h⟩ := h
     refine mreg_store (t := 139) (a := (Operand.tmp 3)) (x := (Operand.tmp 17)) (b := b_2) (o := 0) (k := 3) (ty := 0) (dst := none) 5 [0, 1, 4] [(3, fun w' => w'.cell? ⟨b_, 3, none⟩ = some (Value.int .i64 v19))] [Value.string ByteArray.empty, Value.string ByteArray.empty, Value.bool false] (by kernel_rfl) (by kernel_rfl) (by kernel_rfl) (by kernel_rfl) (by kernel_rfl) (by kernel_rfl) (by kernel_rfl) (by kernel_rfl) (by kernel_rfl) (by kernel_rfl) hc (fun w8 hw => ?_)
     replace h := h w8 hw
     clear hw
     obtain ⟨hk0, h⟩ := h
     refine ⟨⟨hk0, trivial⟩, ?_⟩
     refine mreg_run P1 7 [(2, [], pv_ b_1), (3, [], pv_ b_2), (4, [], Value.int .i64 v19)] (by kernel_rfl) (by kernel_rfl) ?_
     refine mreg_end [(2, pv_ b_1), (3, pv_ b_2), (4, Value.int .i64 v19)] (by kernel_rfl) (by kernel_rfl) (by kernel_rfl) ?_
     change WpE _ _ c182_14 _ _ _
     refine wpE_ret (by kernel_rfl) ?_
     obtain ⟨res, hc_res, h⟩ := h
     obtain ⟨res1, hc_res1, h⟩ := h
     repeat (first | refine seqQ_ret ?_ | refine blockQ_ret ?_ | refine loopQ_ret ?_ | refine cutQ_ret ?_)
     exact retT (rs := [(ResultVar.cell 2 130), (ResultVar.cell 3 139), (ResultVar.tmp 4)]) (vs := [Value.agg #[Value.bool res.Gone, sv_ res.B, Value.int .i64 res.At, Value.int .i64 res.Code], Value.agg #[Value.string res1.Key, Value.string res1.Val, Value.bool res1.Drop], Value.int .i64 v19]) (by kernel_rfl) (⟨b_1, 0, [Value.bool res.Gone, sv_ res.B, Value.int .i64 res.At, Value.int .i64 res.Code], by kernel_rfl, hc_res, (sizeP_of (k := 4) (by kernel_rfl) (by kernel_rfl)), .inl ⟨by kernel_rfl, rfl⟩, ⟨b_2, 0, [Value.string res1.Key, Value.string res1.Val, Value.bool res1.Drop], by kernel_rfl, hc_res1, (sizeP_of (k := 3) (by kernel_rfl) (by kernel_rfl)), .inl ⟨by kernel_rfl, rfl⟩, ⟨by kernel_rfl, trivial⟩⟩⟩) (by kernel_rfl) ⟨res, res1, v19, rfl, h⟩
   · replace h := h.2 hb
     refine wpE_skip (by kernel_rfl) ?_
     change WpE _ _ c182_16 _ _ _
     refine Zs c182_17 c182_26 ?_
     refine Zp c182_20 P3 [(1, pv_ b_), (2, pv_ b_1), (3, pv_ b_2), (5, .string key), (22, .bool (((key.size : Nat) : Int) == 0))] ?_
     refine Zc 22 (((key.size : Nat) : Int) == 0) c182_21 c182_25 (fun hb => ?_) (fun hb => ?_)
     · replace h := h.1 hb
       refine Zt r182_22 c182_24 ?_
       refine Zn [] 0 [(1, [], pv_ b_), (2, [], pv_ b_1), (3, [], pv_ b_2)] ?_
       obtain ⟨v23, hc, h⟩ := h
       refine reg_loadN (t := 130) (a := (Operand.tmp 1)) (b := b_) (o := 0) (ty := 130) (dst := some 23) [Value.bool v23.Gone, sv_ v23.B, Value.int .i64 v23.At, Value.int .i64 v23.Code] (by kernel_rfl) (by kernel_rfl) (by kernel_rfl) (k := 4) (by kernel_rfl) (by kernel_rfl) hc ?_
       refine Zn P1 2 [(2, [], pv_ b_1), (3, [], pv_ b_2), (23, [], .agg #[.bool v23.Gone, sv_ v23.B, .int .i64 v23.At, .int .i64 v23.Code]), (24, [], .agg #[.string ByteArray.empty, .string ByteArray.empty, .bool false])] ?_
       obtain ⟨hc, h⟩ := h
       refine Zo 130 2 23 b_1 0 4 [.bool v23.Gone, sv_ v23.B, .int .i64 v23.At, .int .i64 v23.Code] hc (fun w9 hw => ?_)
       replace h := h w9 hw
       clear hw
       refine Zn [] 3 [(2, [], pv_ b_1), (3, [], pv_ b_2), (24, [], .agg #[.string ByteArray.empty, .string ByteArray.empty, .bool false])] ?_
       obtain ⟨hc, h⟩ := h
       refine Zo 139 3 24 b_2 0 3 [.string ByteArray.empty, .string ByteArray.empty, .bool false] hc (fun w10 hw => ?_)
       replace h := h w10 hw
       clear hw
       refine Zf P1 [(2, pv_ b_1), (3, pv_ b_2), (4, .int .i64 1)] ?_
       change WpE _ _ c182_24 _ _ _
       refine wpE_ret (by kernel_rfl) ?_
       obtain ⟨res2, hc_res2, h⟩ := h
       obtain ⟨res3, hc_res3, h⟩ := h
       repeat (first | refine seqQ_ret ?_ | refine blockQ_ret ?_ | refine loopQ_ret ?_ | refine cutQ_ret ?_)
       exact retT (rs := [(ResultVar.cell 2 130), (ResultVar.cell 3 139), (ResultVar.tmp 4)]) (vs := [Value.agg #[Value.bool res2.Gone, sv_ res2.B, Value.int .i64 res2.At, Value.int .i64 res2.Code], Value.agg #[Value.string res3.Key, Value.string res3.Val, Value.bool res3.Drop], Value.int .i64 1]) (by kernel_rfl) (⟨b_1, 0, [Value.bool res2.Gone, sv_ res2.B, Value.int .i64 res2.At, Value.int .i64 res2.Code], by kernel_rfl, hc_res2, (sizeP_of (k := 4) (by kernel_rfl) (by kernel_rfl)), .inl ⟨by kernel_rfl, rfl⟩, ⟨b_2, 0, [Value.string res3.Key, Value.string res3.Val, Value.bool res3.Drop], by kernel_rfl, hc_res3, (sizeP_of (k := 3) (by kernel_rfl) (by kernel_rfl)), .inl ⟨by kernel_rfl, rfl⟩, ⟨by kernel_rfl, trivial⟩⟩⟩) (by kernel_rfl) ⟨res2, res3, 1, rfl, h⟩
     · replace h := h.2 hb
       refine wpE_skip (by kernel_rfl) ?_
       change WpE _ _ c182_26 _ _ _
       refine Zt r182_27 c182_29 ?_
       refine Zn [] 0 [(1, [], pv_ b_), (2, [], pv_ b_1), (3, [], pv_ b_2), (5, [], .string key)] ?_
       obtain ⟨v26, hc, h⟩ := h
       refine reg_loadN (t := 130) (a := (Operand.tmp 1)) (b := b_) (o := 0) (ty := 130) (dst := some 26) [Value.bool v26.Gone, sv_ v26.B, Value.int .i64 v26.At, Value.int .i64 v26.Code] (by kernel_rfl) (by kernel_rfl) (by kernel_rfl) (k := 4) (by kernel_rfl) (by kernel_rfl) hc ?_
       refine Zn [] 1 [(1, [], pv_ b_), (2, [], pv_ b_1), (3, [], pv_ b_2), (5, [], .string key), (26, [], .agg #[.bool v26.Gone, sv_ v26.B, .int .i64 v26.At, .int .i64 v26.Code])] ?_
       refine Zm 118 #[.agg #[.bool v26.Gone, sv_ v26.B, .int .i64 v26.At, .int .i64 v26.Code], .int .i64 1] (some 27) (Calls.mono h ?_)
       rintro _ w11 ⟨v27, drop, rfl, h⟩
       refine ⟨_, rfl, ?_⟩
       refine Zn P3 5 [(1, [], pv_ b_), (2, [], pv_ b_1), (3, [], pv_ b_2), (5, [], .string key), (28, [], .agg #[.bool v27.Gone, sv_ v27.B, .int .i64 v27.At, .int .i64 v27.Code]), (29, [], .int .u64 drop)] ?_
       obtain ⟨hc, h⟩ := h
       refine Zo 130 1 28 b_ 0 4 [.bool v27.Gone, sv_ v27.B, .int .i64 v27.At, .int .i64 v27.Code] hc (fun w12 hw => ?_)
       replace h := h w12 hw
       clear hw
       refine Zf P1 [(1, pv_ b_), (2, pv_ b_1), (3, pv_ b_2), (5, .string key), (6, .int .u64 drop)] ?_
       change WpE _ _ c182_29 _ _ _
       refine Zs c182_30 c182_39 ?_
       refine Zt r182_31 c182_33 ?_
       refine Zn P1 1 [(1, [], pv_ b_), (2, [], pv_ b_1), (3, [], pv_ b_2), (5, [], .string key), (6, [], .int .u64 drop), (30, [], .pointer (some ⟨b_, 3, none⟩))] ?_
       obtain ⟨v31, hc, h⟩ := h
       refine Zl 28 30 b_ 3 28 31 hc ?_
       refine Zf P1 [(1, pv_ b_), (2, pv_ b_1), (3, pv_ b_2), (5, .string key), (6, .int .u64 drop), (32, .bool (v31 != 0))] ?_
       change WpE _ _ c182_33 _ _ _
       refine Zc 32 (v31 != 0) c182_34 c182_38 (fun hb => ?_) (fun hb => ?_)
       · replace h := h.1 hb
         refine Zs c182_35 c182_37 ?_
         refine wpE_mixregion (id := 8) (ops := r182_35) o_towpathref05_one_35 (by kernel_rfl) (by kernel_rfl) (by kernel_rfl) (by kernel_rfl) (fun w13 hw => ?_)
         replace h := h w13 hw
         clear hw
         refine mreg_run [] 0 [(1, [], pv_ b_), (2, [], pv_ b_1), (3, [], pv_ b_2)] (by kernel_rfl) (by kernel_rfl) ?_
         obtain ⟨v33, hc, h⟩ := h
         refine mreg_loadN (i := 0) (by kernel_rfl) (t := 130) (a := (Operand.tmp 1)) (b := b_) (o := 0) (ty := 130) (dst := some 33) [Value.bool v33.Gone, sv_ v33.B, Value.int .i64 v33.At, Value.int .i64 v33.Code] (by kernel_rfl) (by kernel_rfl) (by kernel_rfl) (k := 4) (by kernel_rfl) (by kernel_rfl) hc ?_
         refine mreg_run P2 3 [(2, [], pv_ b_1), (3, [], pv_ b_2), (33, [], Value.agg #[Value.bool v33.Gone, sv_ v33.B, Value.int .i64 v33.At, Value.int .i64 v33.Code]), (34, [], Value.agg #[Value.string ByteArray.empty, Value.string ByteArray.empty, Value.bool false]), (35, [], Value.pointer (some ⟨b_, 3, none⟩))] (by kernel_rfl) (by kernel_rfl) ?_
         obtain ⟨v36, hc, h⟩ := h
         refine mreg_load1 (i := 3) (by kernel_rfl) (t := 28) (a := (Operand.tmp 35)) (b := b_) (o := 3) (ty := 28) (dst := some 36) (by kernel_rfl) (by kernel_rfl) (by kernel_rfl) hc ?_
         refine mreg_run [] 4 [(2, [], pv_ b_1), (3, [], pv_ b_2), (33, [], Value.agg #[Value.bool v33.Gone, sv_ v33.B, Value.int .i64 v33.At, Value.int .i64 v33.Code]), (34, [], Value.agg #[Value.string ByteArray.empty, Value.string ByteArray.empty, Value.bool false]), (36, [], Value.int .i64 v36)] (by kernel_rfl) (by kernel_rfl) ?_
         obtain ⟨hc, h⟩ := h
         refine mreg_store (t := 130) (a := (Operand.tmp 2)) (x := (Operand.tmp 33)) (b := b_1) (o := 0) (k := 4) (ty := 0) (dst := none) 4 [0] [(3, fun w' => w'.cell? ⟨b_, 3, none⟩ = some (Value.int .i64 v36))] [Value.bool v33.Gone, sv_ v33.B, Value.int .i64 v33.At, Value.int .i64 v33.Code] (by kernel_rfl) (by kernel_rfl) (by kernel_rfl) (by kernel_rfl) (by kernel_rfl) (by kernel_rfl) (by kernel_rfl) (by kernel_rfl) (by kernel_rfl) (by kernel_rfl) hc (fun w14 hw => ?_)
         replace h := h w14 hw
         clear hw
         obtain ⟨hk0, h⟩ := h
         refine ⟨⟨hk0, trivial⟩, ?_⟩
         refine mreg_run [] 5 [(2, [], pv_ b_1), (3, [], pv_ b_2), (34, [], Value.agg #[Value.string ByteArray.empty, Value.string ByteArray.empty, Value.bool false]), (36, [], Value.int .i64 v36)] (by kernel_rfl) (by kernel_rfl) ?_
         obtain ⟨hc, h⟩ := h
         refine mreg_store (t := 139) (a := (Operand.tmp 3)) (x := (Operand.tmp 34)) (b := b_2) (o := 0) (k := 3) (ty := 0) (dst := none) 5 [0, 1, 4] [(3, fun w' => w'.cell? ⟨b_, 3, none⟩ = some (Value.int .i64 v36))] [Value.string ByteArray.empty, Value.string ByteArray.empty, Value.bool false] (by kernel_rfl) (by kernel_rfl) (by kernel_rfl) (by kernel_rfl) (by kernel_rfl) (by kernel_rfl) (by kernel_rfl) (by kernel_rfl) (by kernel_rfl) (by kernel_rfl) hc (fun w15 hw => ?_)
         replace h := h w15 hw
         clear hw
         obtain ⟨hk0, h⟩ := h
         refine ⟨⟨hk0, trivial⟩, ?_⟩
         refine mreg_run P1 7 [(2, [], pv_ b_1), (3, [], pv_ b_2), (4, [], Value.int .i64 v36)] (by kernel_rfl) (by kernel_rfl) ?_
         refine mreg_end [(2, pv_ b_1), (3, pv_ b_2), (4, Value.int .i64 v36)] (by kernel_rfl) (by kernel_rfl) (by kernel_rfl) ?_
         change WpE _ _ c182_37 _ _ _
         refine wpE_ret (by kernel_rfl) ?_
         obtain ⟨res4, hc_res4, h⟩ := h
         obtain ⟨res5, hc_res5, h⟩ := h
         repeat (first | refine seqQ_ret ?_ | refine blockQ_ret ?_ | refine loopQ_ret ?_ | refine cutQ_ret ?_)
         exact retT (rs := [(ResultVar.cell 2 130), (ResultVar.cell 3 139), (ResultVar.tmp 4)]) (vs := [Value.agg #[Value.bool res4.Gone, sv_ res4.B, Value.int .i64 res4.At, Value.int .i64 res4.Code], Value.agg #[Value.string res5.Key, Value.string res5.Val, Value.bool res5.Drop], Value.int .i64 v36]) (by kernel_rfl) (⟨b_1, 0, [Value.bool res4.Gone, sv_ res4.B, Value.int .i64 res4.At, Value.int .i64 res4.Code], by kernel_rfl, hc_res4, (sizeP_of (k := 4) (by kernel_rfl) (by kernel_rfl)), .inl ⟨by kernel_rfl, rfl⟩, ⟨b_2, 0, [Value.string res5.Key, Value.string res5.Val, Value.bool res5.Drop], by kernel_rfl, hc_res5, (sizeP_of (k := 3) (by kernel_rfl) (by kernel_rfl)), .inl ⟨by kernel_rfl, rfl⟩, ⟨by kernel_rfl, trivial⟩⟩⟩) (by kernel_rfl) ⟨res4, res5, v36, rfl, h⟩
       · replace h := h.2 hb
         refine wpE_skip (by kernel_rfl) ?_
         change WpE _ _ c182_39 _ _ _
         refine Zs c182_40 c182_49 ?_
         refine Zp c182_43 P2 [(1, pv_ b_), (2, pv_ b_1), (3, pv_ b_2), (5, .string key), (6, .int .u64 drop), (38, .bool (decide (drop > 1)))] ?_
         refine Zc 38 (decide (drop > 1)) c182_44 c182_48 (fun hb => ?_) (fun hb => ?_)
         · replace h := h.1 hb
           refine Zt r182_45 c182_47 ?_
           refine Zn [] 0 [(1, [], pv_ b_), (2, [], pv_ b_1), (3, [], pv_ b_2)] ?_
           obtain ⟨v39, hc, h⟩ := h
           refine reg_loadN (t := 130) (a := (Operand.tmp 1)) (b := b_) (o := 0) (ty := 130) (dst := some 39) [Value.bool v39.Gone, sv_ v39.B, Value.int .i64 v39.At, Value.int .i64 v39.Code] (by kernel_rfl) (by kernel_rfl) (by kernel_rfl) (k := 4) (by kernel_rfl) (by kernel_rfl) hc ?_
           refine Zn P1 2 [(2, [], pv_ b_1), (3, [], pv_ b_2), (39, [], .agg #[.bool v39.Gone, sv_ v39.B, .int .i64 v39.At, .int .i64 v39.Code]), (40, [], .agg #[.string ByteArray.empty, .string ByteArray.empty, .bool false])] ?_
           obtain ⟨hc, h⟩ := h
           refine Zo 130 2 39 b_1 0 4 [.bool v39.Gone, sv_ v39.B, .int .i64 v39.At, .int .i64 v39.Code] hc (fun w16 hw => ?_)
           replace h := h w16 hw
           clear hw
           refine Zn [] 3 [(2, [], pv_ b_1), (3, [], pv_ b_2), (40, [], .agg #[.string ByteArray.empty, .string ByteArray.empty, .bool false])] ?_
           obtain ⟨hc, h⟩ := h
           refine Zo 139 3 40 b_2 0 3 [.string ByteArray.empty, .string ByteArray.empty, .bool false] hc (fun w17 hw => ?_)
           replace h := h w17 hw
           clear hw
           refine Zf P1 [(2, pv_ b_1), (3, pv_ b_2), (4, .int .i64 4)] ?_
           change WpE _ _ c182_47 _ _ _
           refine wpE_ret (by kernel_rfl) ?_
           obtain ⟨res6, hc_res6, h⟩ := h
           obtain ⟨res7, hc_res7, h⟩ := h
           repeat (first | refine seqQ_ret ?_ | refine blockQ_ret ?_ | refine loopQ_ret ?_ | refine cutQ_ret ?_)
           exact retT (rs := [(ResultVar.cell 2 130), (ResultVar.cell 3 139), (ResultVar.tmp 4)]) (vs := [Value.agg #[Value.bool res6.Gone, sv_ res6.B, Value.int .i64 res6.At, Value.int .i64 res6.Code], Value.agg #[Value.string res7.Key, Value.string res7.Val, Value.bool res7.Drop], Value.int .i64 4]) (by kernel_rfl) (⟨b_1, 0, [Value.bool res6.Gone, sv_ res6.B, Value.int .i64 res6.At, Value.int .i64 res6.Code], by kernel_rfl, hc_res6, (sizeP_of (k := 4) (by kernel_rfl) (by kernel_rfl)), .inl ⟨by kernel_rfl, rfl⟩, ⟨b_2, 0, [Value.string res7.Key, Value.string res7.Val, Value.bool res7.Drop], by kernel_rfl, hc_res7, (sizeP_of (k := 3) (by kernel_rfl) (by kernel_rfl)), .inl ⟨by kernel_rfl, rfl⟩, ⟨by kernel_rfl, trivial⟩⟩⟩) (by kernel_rfl) ⟨res6, res7, 4, rfl, h⟩
         · replace h := h.2 hb
           refine wpE_skip (by kernel_rfl) ?_
           change WpE _ _ c182_49 _ _ _
           refine Zs c182_50 c182_59 ?_
           refine Zp c182_53 P2 [(1, pv_ b_), (2, pv_ b_1), (3, pv_ b_2), (5, .string key), (42, .bool (drop == 1))] ?_
           refine Zc 42 (drop == 1) c182_54 c182_58 (fun hb => ?_) (fun hb => ?_)
           · replace h := h.1 hb
             refine Zt r182_55 c182_57 ?_
             refine Zn [] 0 [(1, [], pv_ b_), (2, [], pv_ b_1), (3, [], pv_ b_2), (5, [], .string key)] ?_
             obtain ⟨v43, hc, h⟩ := h
             refine reg_loadN (t := 130) (a := (Operand.tmp 1)) (b := b_) (o := 0) (ty := 130) (dst := some 43) [Value.bool v43.Gone, sv_ v43.B, Value.int .i64 v43.At, Value.int .i64 v43.Code] (by kernel_rfl) (by kernel_rfl) (by kernel_rfl) (k := 4) (by kernel_rfl) (by kernel_rfl) hc ?_
             refine Zn P2 3 [(2, [], pv_ b_1), (3, [], pv_ b_2), (43, [], .agg #[.bool v43.Gone, sv_ v43.B, .int .i64 v43.At, .int .i64 v43.Code]), (45, [], .agg #[.string key, .string ByteArray.empty, .bool true])] ?_
             obtain ⟨hc, h⟩ := h
             refine Zo 130 2 43 b_1 0 4 [.bool v43.Gone, sv_ v43.B, .int .i64 v43.At, .int .i64 v43.Code] hc (fun w18 hw => ?_)
             replace h := h w18 hw
             clear hw
             refine Zn [] 4 [(2, [], pv_ b_1), (3, [], pv_ b_2), (45, [], .agg #[.string key, .string ByteArray.empty, .bool true])] ?_
             obtain ⟨hc, h⟩ := h
             refine Zo 139 3 45 b_2 0 3 [.string key, .string ByteArray.empty, .bool true] hc (fun w19 hw => ?_)
             replace h := h w19 hw
             clear hw
             refine Zf P1 [(2, pv_ b_1), (3, pv_ b_2), (4, .int .i64 0)] ?_
             change WpE _ _ c182_57 _ _ _
             refine wpE_ret (by kernel_rfl) ?_
             obtain ⟨res8, hc_res8, h⟩ := h
             obtain ⟨res9, hc_res9, h⟩ := h
             repeat (first | refine seqQ_ret ?_ | refine blockQ_ret ?_ | refine loopQ_ret ?_ | refine cutQ_ret ?_)
             exact retT (rs := [(ResultVar.cell 2 130), (ResultVar.cell 3 139), (ResultVar.tmp 4)]) (vs := [Value.agg #[Value.bool res8.Gone, sv_ res8.B, Value.int .i64 res8.At, Value.int .i64 res8.Code], Value.agg #[Value.string res9.Key, Value.string res9.Val, Value.bool res9.Drop], Value.int .i64 0]) (by kernel_rfl) (⟨b_1, 0, [Value.bool res8.Gone, sv_ res8.B, Value.int .i64 res8.At, Value.int .i64 res8.Code], by kernel_rfl, hc_res8, (sizeP_of (k := 4) (by kernel_rfl) (by kernel_rfl)), .inl ⟨by kernel_rfl, rfl⟩, ⟨b_2, 0, [Value.string res9.Key, Value.string res9.Val, Value.bool res9.Drop], by kernel_rfl, hc_res9, (sizeP_of (k := 3) (by kernel_rfl) (by kernel_rfl)), .inl ⟨by kernel_rfl, rfl⟩, ⟨by kernel_rfl, trivial⟩⟩⟩) (by kernel_rfl) ⟨res8, res9, 0, rfl, h⟩
           · replace h := h.2 hb
             refine wpE_skip (by kernel_rfl) ?_
             change WpE _ _ c182_59 _ _ _
             refine Zt r182_60 c182_62 ?_
             refine Zn [] 0 [(1, [], pv_ b_), (2, [], pv_ b_1), (3, [], pv_ b_2), (5, [], .string key)] ?_
             obtain ⟨v47, hc, h⟩ := h
             refine reg_loadN (t := 130) (a := (Operand.tmp 1)) (b := b_) (o := 0) (ty := 130) (dst := some 47) [Value.bool v47.Gone, sv_ v47.B, Value.int .i64 v47.At, Value.int .i64 v47.Code] (by kernel_rfl) (by kernel_rfl) (by kernel_rfl) (k := 4) (by kernel_rfl) (by kernel_rfl) hc ?_
             refine Zn [] 1 [(1, [], pv_ b_), (2, [], pv_ b_1), (3, [], pv_ b_2), (5, [], .string key), (47, [], .agg #[.bool v47.Gone, sv_ v47.B, .int .i64 v47.At, .int .i64 v47.Code])] ?_
             refine Zm 117 #[.agg #[.bool v47.Gone, sv_ v47.B, .int .i64 v47.At, .int .i64 v47.Code], .int .i64 1024] (some 48) (Calls.mono h ?_)
             rintro _ w20 ⟨v48, val, rfl, h⟩
             refine ⟨_, rfl, ?_⟩
             refine Zn P3 5 [(1, [], pv_ b_), (2, [], pv_ b_1), (3, [], pv_ b_2), (5, [], .string key), (49, [], .agg #[.bool v48.Gone, sv_ v48.B, .int .i64 v48.At, .int .i64 v48.Code]), (50, [], .string val)] ?_
             obtain ⟨hc, h⟩ := h
             refine Zo 130 1 49 b_ 0 4 [.bool v48.Gone, sv_ v48.B, .int .i64 v48.At, .int .i64 v48.Code] hc (fun w21 hw => ?_)
             replace h := h w21 hw
             clear hw
             refine Zf P1 [(1, pv_ b_), (2, pv_ b_1), (3, pv_ b_2), (5, .string key), (7, .string val)] ?_
             change WpE _ _ c182_62 _ _ _
             refine Zs c182_63 c182_65 ?_
             refine wpE_mixregion (id := 14) (ops := r182_63) o_towpathref05_one_63 (by kernel_rfl) (by kernel_rfl) (by kernel_rfl) (by kernel_rfl) (fun w22 hw => ?_)
             replace h := h w22 hw
             clear hw
             refine mreg_run [] 0 [(1, [], pv_ b_), (2, [], pv_ b_1), (3, [], pv_ b_2), (5, [], Value.string key), (7, [], Value.string val)] (by kernel_rfl) (by kernel_rfl) ?_
             obtain ⟨v51, hc, h⟩ := h
             refine mreg_loadN (i := 0) (by kernel_rfl) (t := 130) (a := (Operand.tmp 1)) (b := b_) (o := 0) (ty := 130) (dst := some 51) [Value.bool v51.Gone, sv_ v51.B, Value.int .i64 v51.At, Value.int .i64 v51.Code] (by kernel_rfl) (by kernel_rfl) (by kernel_rfl) (k := 4) (by kernel_rfl) (by kernel_rfl) hc ?_
             refine mreg_run P4 5 [(2, [], pv_ b_1), (3, [], pv_ b_2), (51, [], Value.agg #[Value.bool v51.Gone, sv_ v51.B, Value.int .i64 v51.At, Value.int .i64 v51.Code]), (54, [], Value.agg #[Value.string key, Value.string val, Value.bool false]), (55, [], Value.pointer (some ⟨b_, 3, none⟩))] (by kernel_rfl) (by kernel_rfl) ?_
             obtain ⟨v56, hc, h⟩ := h
             refine mreg_load1 (i := 5) (by kernel_rfl) (t := 28) (a := (Operand.tmp 55)) (b := b_) (o := 3) (ty := 28) (dst := some 56) (by kernel_rfl) (by kernel_rfl) (by kernel_rfl) hc ?_
             refine mreg_run [] 6 [(2, [], pv_ b_1), (3, [], pv_ b_2), (51, [], Value.agg #[Value.bool v51.Gone, sv_ v51.B, Value.int .i64 v51.At, Value.int .i64 v51.Code]), (54, [], Value.agg #[Value.string key, Value.string val, Value.bool false]), (56, [], Value.int .i64 v56)] (by kernel_rfl) (by kernel_rfl) ?_
             obtain ⟨hc, h⟩ := h
             refine mreg_store (t := 130) (a := (Operand.tmp 2)) (x := (Operand.tmp 51)) (b := b_1) (o := 0) (k := 4) (ty := 0) (dst := none) 6 [0] [(5, fun w' => w'.cell? ⟨b_, 3, none⟩ = some (Value.int .i64 v56))] [Value.bool v51.Gone, sv_ v51.B, Value.int .i64 v51.At, Value.int .i64 v51.Code] (by kernel_rfl) (by kernel_rfl) (by kernel_rfl) (by kernel_rfl) (by kernel_rfl) (by kernel_rfl) (by kernel_rfl) (by kernel_rfl) (by kernel_rfl) (by kernel_rfl) hc (fun w23 hw => ?_)
             replace h := h w23 hw
             clear hw
             obtain ⟨hk0, h⟩ := h
             refine ⟨⟨hk0, trivial⟩, ?_⟩
             refine mreg_run [] 7 [(2, [], pv_ b_1), (3, [], pv_ b_2), (54, [], Value.agg #[Value.string key, Value.string val, Value.bool false]), (56, [], Value.int .i64 v56)] (by kernel_rfl) (by kernel_rfl) ?_
             obtain ⟨hc, h⟩ := h
             refine mreg_store (t := 139) (a := (Operand.tmp 3)) (x := (Operand.tmp 54)) (b := b_2) (o := 0) (k := 3) (ty := 0) (dst := none) 7 [0, 1, 2, 3, 6] [(5, fun w' => w'.cell? ⟨b_, 3, none⟩ = some (Value.int .i64 v56))] [Value.string key, Value.string val, Value.bool false] (by kernel_rfl) (by kernel_rfl) (by kernel_rfl) (by kernel_rfl) (by kernel_rfl) (by kernel_rfl) (by kernel_rfl) (by kernel_rfl) (by kernel_rfl) (by kernel_rfl) hc (fun w24 hw => ?_)
             replace h := h w24 hw
             clear hw
             obtain ⟨hk0, h⟩ := h
             refine ⟨⟨hk0, trivial⟩, ?_⟩
             refine mreg_run P1 9 [(2, [], pv_ b_1), (3, [], pv_ b_2), (4, [], Value.int .i64 v56)] (by kernel_rfl) (by kernel_rfl) ?_
             refine mreg_end [(2, pv_ b_1), (3, pv_ b_2), (4, Value.int .i64 v56)] (by kernel_rfl) (by kernel_rfl) (by kernel_rfl) ?_
             change WpE _ _ c182_65 _ _ _
             refine wpE_ret (by kernel_rfl) ?_
             obtain ⟨res10, hc_res10, h⟩ := h
             obtain ⟨res11, hc_res11, h⟩ := h
             repeat (first | refine seqQ_ret ?_ | refine blockQ_ret ?_ | refine loopQ_ret ?_ | refine cutQ_ret ?_)
             exact retT (rs := [(ResultVar.cell 2 130), (ResultVar.cell 3 139), (ResultVar.tmp 4)]) (vs := [Value.agg #[Value.bool res10.Gone, sv_ res10.B, Value.int .i64 res10.At, Value.int .i64 res10.Code], Value.agg #[Value.string res11.Key, Value.string res11.Val, Value.bool res11.Drop], Value.int .i64 v56]) (by kernel_rfl) (⟨b_1, 0, [Value.bool res10.Gone, sv_ res10.B, Value.int .i64 res10.At, Value.int .i64 res10.Code], by kernel_rfl, hc_res10, (sizeP_of (k := 4) (by kernel_rfl) (by kernel_rfl)), .inl ⟨by kernel_rfl, rfl⟩, ⟨b_2, 0, [Value.string res11.Key, Value.string res11.Val, Value.bool res11.Drop], by kernel_rfl, hc_res11, (sizeP_of (k := 3) (by kernel_rfl) (by kernel_rfl)), .inl ⟨by kernel_rfl, rfl⟩, ⟨by kernel_rfl, trivial⟩⟩⟩) (by kernel_rfl) ⟨res10, res11, v56, rfl, h⟩
 · rintro e w' ⟨v, rfl, r0, r1, r2, rfl, h⟩; exact ⟨r0, r1, r2, rfl, h⟩
end
end Go.Proofs.YtpdegdnigcnjiaaGreatDoor
