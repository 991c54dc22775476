/- WRITTEN BY PROGRAM (dec.py): for each Go function the clean formula F, the call's contract C, and the proof S that F gives C. -/
import Derived.Test.YtpdegdnigcnjiaaGreatDoorRows
import Derived.Test.YtpdegdnigcnjiaaGreatDoorGF
namespace Go.Proofs.YtpdegdnigcnjiaaGreatDoor
open Go
set_option linter.unusedVariables false
set_option maxRecDepth 100000
set_option maxHeartbeats 4000000
noncomputable section

/-! ### (towpath/towpathref02.Reader).Left (function 116) -/
def c116_0 := cb_ Tryz.f116
def c116_1 := cl_ c116_0
def r116_1 := co_ c116_1
def c116_3 := cr_ c116_0
def c116_4 := cl_ c116_3
def c116_5 := cl_ c116_4
def r116_5 := co_ c116_5
def c116_7 := cr_ c116_4
def c116_8 := cl_ c116_7
def c116_11 := cr_ c116_8
def c116_12 := cr_ c116_7
def c116_13 := cr_ c116_3
def c116_14 := cl_ c116_13
def r116_14 := co_ c116_14
def c116_16 := cr_ c116_13

theorem S_towpathref02_Reader_Left {r : T_towpathref02_Reader} {w : World} {R : Int → World → Prop} (h : F_towpathref02_Reader_Left r R w) : C_towpathref02_Reader_Left r w R := by
 unfold F_towpathref02_Reader_Left at h
 unfold C_towpathref02_Reader_Left
 refine Calls.mono (calls_of_wpE (args := [Value.agg #[Value.bool r.Gone, sv_ r.B, Value.int .i64 r.At, Value.int .i64 r.Code]]) (R := fun v w' => ∃ (r0 : Int), v = Value.int .i64 r0 ∧ R r0 w') Tryz.func116 (c := c116_0) (by kernel_rfl) 11 (by kernel_rfl) (by kernel_rfl) [(0, Value.agg #[Value.bool r.Gone, sv_ r.B, Value.int .i64 r.At, Value.int .i64 r.Code])] (by kernel_rfl) ?_) ?_
 · refine Zt r116_1 c116_3 ?_
   refine Zn [] 0 [(0, [], .agg #[.bool r.Gone, sv_ r.B, .int .i64 r.At, .int .i64 r.Code])] ?_
   refine Zw (some 1) (fun bb => pv_ bb) (Obj.cells ([.bool r.Gone, sv_ r.B, .int .i64 r.At, .int .i64 r.Code]).toArray ty_towpathref02_Reader (0, 0)) (fun b_ w1 hb hw => ?_)
   replace h := h b_ w1 hb hw
   clear hb hw
   refine Zf P1 [(1, pv_ b_)] ?_
   change WpE _ _ c116_3 _ _ _
   refine Zs c116_4 c116_13 ?_
   refine Zt r116_5 c116_7 ?_
   refine Zn P1 1 [(1, [], pv_ b_), (3, [], pv_ b_)] ?_
   obtain ⟨v4, hc, h⟩ := h
   refine Zl 4 3 b_ 0 4 4 hc ?_
   refine Ze [(1, pv_ b_), (4, .bool v4)] ?_
   change WpE _ _ c116_7 _ _ _
   refine Zc 4 v4 c116_8 c116_12 (fun hb => ?_) (fun hb => ?_)
   · replace h := h.1 hb
     refine Zp c116_11 P1 [(2, .int .i64 0)] ?_
     refine wpE_ret (by kernel_rfl) ?_
     repeat (first | refine seqQ_ret ?_ | refine blockQ_ret ?_ | refine loopQ_ret ?_ | refine cutQ_ret ?_)
     exact retS (rs := [(ResultVar.tmp 2)]) (v := Value.int .i64 0) (by kernel_rfl) (⟨by kernel_rfl, trivial⟩) ⟨0, rfl, h⟩
   · replace h := h.2 hb
     refine wpE_skip (by kernel_rfl) ?_
     change WpE _ _ c116_13 _ _ _
     refine Zt r116_14 c116_16 ?_
     refine Zn P1 1 [(1, [], pv_ b_), (5, [], .pointer (some ⟨b_, 1, none⟩))] ?_
     obtain ⟨v6, hc, h⟩ := h
     refine Zl 79 5 b_ 1 79 6 hc ?_
     refine Zn P2 4 [(7, [], .int .i64 ((v6.len : Nat) : Int)), (8, [], .pointer (some ⟨b_, 2, none⟩))] ?_
     obtain ⟨v9, hc, h⟩ := h
     refine Zl 3 8 b_ 2 3 9 hc ?_
     refine Zf P2 [(2, .int .i64 (IntKind.i64.wrap (((v6.len : Nat) : Int) - v9)))] ?_
     change WpE _ _ c116_16 _ _ _
     refine wpE_ret (by kernel_rfl) ?_
     repeat (first | refine seqQ_ret ?_ | refine blockQ_ret ?_ | refine loopQ_ret ?_ | refine cutQ_ret ?_)
     exact retS (rs := [(ResultVar.tmp 2)]) (v := Value.int .i64 (IntKind.i64.wrap (((v6.len : Nat) : Int) - v9))) (by kernel_rfl) (⟨by kernel_rfl, trivial⟩) ⟨(IntKind.i64.wrap (((v6.len : Nat) : Int) - v9)), rfl, h⟩
 · rintro e w' ⟨v, rfl, r0, rfl, h⟩; exact ⟨r0, rfl, h⟩

/-! ### (towpath/towpathref02.Reader).Text (function 117) -/
def c117_0 := cb_ Tryz.f117
def c117_1 := cl_ c117_0
def r117_1 := co_ c117_1
def c117_3 := cr_ c117_0
def c117_4 := cl_ c117_3
def c117_5 := cl_ c117_4
def r117_5 := co_ c117_5
def c117_7 := cr_ c117_4
def c117_8 := cl_ c117_7
def c117_9 := cl_ c117_8
def r117_9 := co_ c117_9
def c117_11 := cr_ c117_8
def c117_12 := cr_ c117_7
def c117_13 := cr_ c117_3
def c117_14 := cl_ c117_13
def c117_17 := cr_ c117_14
def c117_18 := cl_ c117_17
def c117_19 := cl_ c117_18
def r117_19 := co_ c117_19
def c117_21 := cr_ c117_18
def c117_22 := cr_ c117_17
def c117_23 := cr_ c117_13
def c117_24 := cl_ c117_23
def r117_24 := co_ c117_24
def c117_26 := cr_ c117_23
def c117_27 := cl_ c117_26
def c117_28 := cl_ c117_27
def r117_28 := co_ c117_28
def c117_30 := cr_ c117_27
def c117_31 := cl_ c117_30
def c117_32 := cl_ c117_31
def r117_32 := co_ c117_32
def c117_34 := cr_ c117_31
def c117_35 := cr_ c117_30
def c117_36 := cr_ c117_26
def c117_37 := cl_ c117_36
def c117_40 := cr_ c117_37
def c117_41 := cl_ c117_40
def c117_42 := cl_ c117_41
def r117_42 := co_ c117_42
def c117_44 := cr_ c117_41
def c117_45 := cr_ c117_40
def c117_46 := cr_ c117_36
def c117_47 := cl_ c117_46
def c117_48 := cl_ c117_47
def r117_48 := co_ c117_48
def c117_50 := cr_ c117_47
def c117_51 := cl_ c117_50
def c117_52 := cl_ c117_51
def r117_52 := co_ c117_52
def c117_54 := cr_ c117_51
def c117_55 := cr_ c117_50
def c117_56 := cr_ c117_46
def c117_57 := cl_ c117_56
def r117_57 := co_ c117_57
def c117_59 := cr_ c117_56
def c117_60 := cl_ c117_59
def r117_60 := co_ c117_60
def c117_62 := cr_ c117_59
def c117_63 := cl_ c117_62
def r117_63 := co_ c117_63
def c117_65 := cr_ c117_62

theorem S_towpathref02_Reader_Text {r : T_towpathref02_Reader} {most : Int} {w : World} {R : T_towpathref02_Reader → ByteArray → World → Prop} (h : F_towpathref02_Reader_Text r most R w) : C_towpathref02_Reader_Text r most w R := by
 unfold F_towpathref02_Reader_Text at h
 unfold C_towpathref02_Reader_Text
 refine Calls.mono (calls_of_wpE (args := [Value.agg #[Value.bool r.Gone, sv_ r.B, Value.int .i64 r.At, Value.int .i64 r.Code], Value.int .i64 most]) (R := fun v w' => ∃ (r0 : T_towpathref02_Reader) (r1 : ByteArray), v = Value.tuple #[Value.agg #[Value.bool r0.Gone, sv_ r0.B, Value.int .i64 r0.At, Value.int .i64 r0.Code], Value.string r1] ∧ R r0 r1 w') Tryz.func117 (c := c117_0) (by kernel_rfl) 63 (by kernel_rfl) (by kernel_rfl) [(0, Value.agg #[Value.bool r.Gone, sv_ r.B, Value.int .i64 r.At, Value.int .i64 r.Code]), (1, Value.int .i64 most)] (by kernel_rfl) ?_) ?_
 · refine Zt r117_1 c117_3 ?_
   refine Zn [] 0 [(0, [], .agg #[.bool r.Gone, sv_ r.B, .int .i64 r.At, .int .i64 r.Code]), (1, [], .int .i64 most)] ?_
   refine Zw (some 2) (fun bb => pv_ bb) (Obj.cells ([.bool r.Gone, sv_ r.B, .int .i64 r.At, .int .i64 r.Code]).toArray ty_towpathref02_Reader (0, 0)) (fun b_ w1 hb hw => ?_)
   replace h := h b_ w1 hb hw
   clear hb hw
   refine Zn [] 1 [(1, [], .int .i64 most), (2, [], pv_ b_)] ?_
   refine Zw (some 4) (fun bb => pv_ bb) (Obj.cells ([.bool false, .slice none 0 0, .int .i64 0, .int .i64 0]).toArray ty_towpathref02_Reader (0, 0)) (fun b_1 w2 hb hw => ?_)
   replace h := h b_1 w2 hb hw
   clear hb hw
   refine Zf P1 [(1, .int .i64 most), (2, pv_ b_), (4, pv_ b_1)] ?_
   change WpE _ _ c117_3 _ _ _
   refine Zs c117_4 c117_13 ?_
   refine Zt r117_5 c117_7 ?_
   refine Zn [] 0 [(1, [], .int .i64 most), (2, [], pv_ b_), (4, [], pv_ b_1)] ?_
   obtain ⟨v9, hc, h⟩ := h
   refine reg_loadN (t := 130) (a := (Operand.tmp 2)) (b := b_) (o := 0) (ty := 130) (dst := some 9) [Value.bool v9.Gone, sv_ v9.B, Value.int .i64 v9.At, Value.int .i64 v9.Code] (by kernel_rfl) (by kernel_rfl) (by kernel_rfl) (k := 4) (by kernel_rfl) (by kernel_rfl) hc ?_
   refine Zn [] 1 [(1, [], .int .i64 most), (2, [], pv_ b_), (4, [], pv_ b_1), (9, [], .agg #[.bool v9.Gone, sv_ v9.B, .int .i64 v9.At, .int .i64 v9.Code])] ?_
   refine Zm 179 #[.agg #[.bool v9.Gone, sv_ v9.B, .int .i64 v9.At, .int .i64 v9.Code]] (some 10) (Calls.mono h ?_)
   rintro _ w3 ⟨v10, rfl, h⟩
   refine ⟨_, rfl, ?_⟩
   refine Ze [(1, .int .i64 most), (2, pv_ b_), (4, pv_ b_1), (10, .bool v10)] ?_
   change WpE _ _ c117_7 _ _ _
   refine Zc 10 v10 c117_8 c117_12 (fun hb => ?_) (fun hb => ?_)
   · replace h := h.1 hb
     refine Zt r117_9 c117_11 ?_
     refine Zn [] 0 [(2, [], pv_ b_), (4, [], pv_ b_1)] ?_
     obtain ⟨v11, hc, h⟩ := h
     refine reg_loadN (t := 130) (a := (Operand.tmp 2)) (b := b_) (o := 0) (ty := 130) (dst := some 11) [Value.bool v11.Gone, sv_ v11.B, Value.int .i64 v11.At, Value.int .i64 v11.Code] (by kernel_rfl) (by kernel_rfl) (by kernel_rfl) (k := 4) (by kernel_rfl) (by kernel_rfl) hc ?_
     refine Zn [] 1 [(4, [], pv_ b_1), (11, [], .agg #[.bool v11.Gone, sv_ v11.B, .int .i64 v11.At, .int .i64 v11.Code])] ?_
     obtain ⟨hc, h⟩ := h
     refine Zo 130 4 11 b_1 0 4 [.bool v11.Gone, sv_ v11.B, .int .i64 v11.At, .int .i64 v11.Code] hc (fun w4 hw => ?_)
     replace h := h w4 hw
     clear hw
     refine Zf P1 [(4, pv_ b_1), (5, .string ByteArray.empty)] ?_
     change WpE _ _ c117_11 _ _ _
     refine wpE_ret (by kernel_rfl) ?_
     obtain ⟨res, hc_res, h⟩ := h
     repeat (first | refine seqQ_ret ?_ | refine blockQ_ret ?_ | refine loopQ_ret ?_ | refine cutQ_ret ?_)
     exact retT (rs := [(ResultVar.cell 4 130), (ResultVar.tmp 5)]) (vs := [Value.agg #[Value.bool res.Gone, sv_ res.B, Value.int .i64 res.At, Value.int .i64 res.Code], Value.string ByteArray.empty]) (by kernel_rfl) (⟨b_1, 0, [Value.bool res.Gone, sv_ res.B, Value.int .i64 res.At, Value.int .i64 res.Code], by kernel_rfl, hc_res, (sizeP_of (k := 4) (by kernel_rfl) (by kernel_rfl)), .inl ⟨by kernel_rfl, rfl⟩, ⟨by kernel_rfl, trivial⟩⟩) (by kernel_rfl) ⟨res, ByteArray.empty, rfl, h⟩
   · replace h := h.2 hb
     refine wpE_skip (by kernel_rfl) ?_
     change WpE _ _ c117_13 _ _ _
     refine Zs c117_14 c117_23 ?_
     refine Zp c117_17 P2 [(1, .int .i64 most), (2, pv_ b_), (4, pv_ b_1), (13, .bool (decide (most < 0)))] ?_
     refine Zc 13 (decide (most < 0)) c117_18 c117_22 (fun hb => ?_) (fun hb => ?_)
     · replace h := h.1 hb
       refine Zt r117_19 c117_21 ?_
       refine Zn [] 0 [(2, [], pv_ b_), (4, [], pv_ b_1)] ?_
       obtain ⟨v14, hc, h⟩ := h
       refine reg_loadN (t := 130) (a := (Operand.tmp 2)) (b := b_) (o := 0) (ty := 130) (dst := some 14) [Value.bool v14.Gone, sv_ v14.B, Value.int .i64 v14.At, Value.int .i64 v14.Code] (by kernel_rfl) (by kernel_rfl) (by kernel_rfl) (k := 4) (by kernel_rfl) (by kernel_rfl) hc ?_
       refine Zn [] 1 [(4, [], pv_ b_1), (14, [], .agg #[.bool v14.Gone, sv_ v14.B, .int .i64 v14.At, .int .i64 v14.Code])] ?_
       refine Zm 180 #[.agg #[.bool v14.Gone, sv_ v14.B, .int .i64 v14.At, .int .i64 v14.Code], .int .i64 1] (some 15) (Calls.mono h ?_)
       rintro _ w5 ⟨v15, rfl, h⟩
       refine ⟨_, rfl, ?_⟩
       refine Zn [] 2 [(4, [], pv_ b_1), (15, [], .agg #[.bool v15.Gone, sv_ v15.B, .int .i64 v15.At, .int .i64 v15.Code])] ?_
       obtain ⟨hc, h⟩ := h
       refine Zo 130 4 15 b_1 0 4 [.bool v15.Gone, sv_ v15.B, .int .i64 v15.At, .int .i64 v15.Code] hc (fun w6 hw => ?_)
       replace h := h w6 hw
       clear hw
       refine Zf P1 [(4, pv_ b_1), (5, .string ByteArray.empty)] ?_
       change WpE _ _ c117_21 _ _ _
       refine wpE_ret (by kernel_rfl) ?_
       obtain ⟨res1, hc_res1, h⟩ := h
       repeat (first | refine seqQ_ret ?_ | refine blockQ_ret ?_ | refine loopQ_ret ?_ | refine cutQ_ret ?_)
       exact retT (rs := [(ResultVar.cell 4 130), (ResultVar.tmp 5)]) (vs := [Value.agg #[Value.bool res1.Gone, sv_ res1.B, Value.int .i64 res1.At, Value.int .i64 res1.Code], Value.string ByteArray.empty]) (by kernel_rfl) (⟨b_1, 0, [Value.bool res1.Gone, sv_ res1.B, Value.int .i64 res1.At, Value.int .i64 res1.Code], by kernel_rfl, hc_res1, (sizeP_of (k := 4) (by kernel_rfl) (by kernel_rfl)), .inl ⟨by kernel_rfl, rfl⟩, ⟨by kernel_rfl, trivial⟩⟩) (by kernel_rfl) ⟨res1, ByteArray.empty, rfl, h⟩
     · replace h := h.2 hb
       refine wpE_skip (by kernel_rfl) ?_
       change WpE _ _ c117_23 _ _ _
       refine Zt r117_24 c117_26 ?_
       refine Zn [] 0 [(1, [], .int .i64 most), (2, [], pv_ b_), (4, [], pv_ b_1)] ?_
       obtain ⟨v17, hc, h⟩ := h
       refine reg_loadN (t := 130) (a := (Operand.tmp 2)) (b := b_) (o := 0) (ty := 130) (dst := some 17) [Value.bool v17.Gone, sv_ v17.B, Value.int .i64 v17.At, Value.int .i64 v17.Code] (by kernel_rfl) (by kernel_rfl) (by kernel_rfl) (k := 4) (by kernel_rfl) (by kernel_rfl) hc ?_
       refine Zn [] 1 [(1, [], .int .i64 most), (2, [], pv_ b_), (4, [], pv_ b_1), (17, [], .agg #[.bool v17.Gone, sv_ v17.B, .int .i64 v17.At, .int .i64 v17.Code])] ?_
       refine Zm 181 #[.agg #[.bool v17.Gone, sv_ v17.B, .int .i64 v17.At, .int .i64 v17.Code]] (some 18) (Calls.mono h ?_)
       rintro _ w7 ⟨v18, n_, rfl, h⟩
       refine ⟨_, rfl, ?_⟩
       refine Zn P3 5 [(1, [], .int .i64 most), (2, [], pv_ b_), (4, [], pv_ b_1), (19, [], .agg #[.bool v18.Gone, sv_ v18.B, .int .i64 v18.At, .int .i64 v18.Code]), (20, [], .int .u64 n_)] ?_
       refine Zw (some 6) (fun bb => pv_ bb) (Obj.cells ([.bool false, .slice none 0 0, .int .i64 0, .int .i64 0]).toArray ty_towpathref02_Reader (0, 0)) (fun b_2 w8 hb hw => ?_)
       replace h := h b_2 w8 hb hw
       clear hb hw
       refine Zn [] 6 [(1, [], .int .i64 most), (2, [], pv_ b_), (4, [], pv_ b_1), (6, [], pv_ b_2), (19, [], .agg #[.bool v18.Gone, sv_ v18.B, .int .i64 v18.At, .int .i64 v18.Code]), (20, [], .int .u64 n_)] ?_
       obtain ⟨hc, h⟩ := h
       refine Zo 130 6 19 b_2 0 4 [.bool v18.Gone, sv_ v18.B, .int .i64 v18.At, .int .i64 v18.Code] hc (fun w9 hw => ?_)
       replace h := h w9 hw
       clear hw
       refine Zf P1 [(1, .int .i64 most), (2, pv_ b_), (4, pv_ b_1), (6, pv_ b_2), (7, .int .u64 n_)] ?_
       change WpE _ _ c117_26 _ _ _
       refine Zs c117_27 c117_36 ?_
       refine Zt r117_28 c117_30 ?_
       refine Zn [] 0 [(1, [], .int .i64 most), (2, [], pv_ b_), (4, [], pv_ b_1), (6, [], pv_ b_2), (7, [], .int .u64 n_)] ?_
       obtain ⟨v21, hc, h⟩ := h
       refine reg_loadN (t := 130) (a := (Operand.tmp 6)) (b := b_2) (o := 0) (ty := 130) (dst := some 21) [Value.bool v21.Gone, sv_ v21.B, Value.int .i64 v21.At, Value.int .i64 v21.Code] (by kernel_rfl) (by kernel_rfl) (by kernel_rfl) (k := 4) (by kernel_rfl) (by kernel_rfl) hc ?_
       refine Zn [] 1 [(1, [], .int .i64 most), (2, [], pv_ b_), (4, [], pv_ b_1), (6, [], pv_ b_2), (7, [], .int .u64 n_), (21, [], .agg #[.bool v21.Gone, sv_ v21.B, .int .i64 v21.At, .int .i64 v21.Code])] ?_
       refine Zm 179 #[.agg #[.bool v21.Gone, sv_ v21.B, .int .i64 v21.At, .int .i64 v21.Code]] (some 22) (Calls.mono h ?_)
       rintro _ w10 ⟨v22, rfl, h⟩
       refine ⟨_, rfl, ?_⟩
       refine Ze [(1, .int .i64 most), (2, pv_ b_), (4, pv_ b_1), (6, pv_ b_2), (7, .int .u64 n_), (22, .bool v22)] ?_
       change WpE _ _ c117_30 _ _ _
       refine Zc 22 v22 c117_31 c117_35 (fun hb => ?_) (fun hb => ?_)
       · replace h := h.1 hb
         refine Zt r117_32 c117_34 ?_
         refine Zn [] 0 [(2, [], pv_ b_), (4, [], pv_ b_1), (6, [], pv_ b_2)] ?_
         obtain ⟨v23, hc, h⟩ := h
         refine reg_loadN (t := 130) (a := (Operand.tmp 2)) (b := b_) (o := 0) (ty := 130) (dst := some 23) [Value.bool v23.Gone, sv_ v23.B, Value.int .i64 v23.At, Value.int .i64 v23.Code] (by kernel_rfl) (by kernel_rfl) (by kernel_rfl) (k := 4) (by kernel_rfl) (by kernel_rfl) hc ?_
         refine Zn P1 2 [(4, [], pv_ b_1), (23, [], .agg #[.bool v23.Gone, sv_ v23.B, .int .i64 v23.At, .int .i64 v23.Code]), (24, [], .pointer (some ⟨b_2, 3, none⟩))] ?_
         obtain ⟨v25, hc, h⟩ := h
         refine Zl 28 24 b_2 3 28 25 hc ?_
         refine Zn [] 3 [(4, [], pv_ b_1), (23, [], .agg #[.bool v23.Gone, sv_ v23.B, .int .i64 v23.At, .int .i64 v23.Code]), (25, [], .int .i64 v25)] ?_
         refine Zm 180 #[.agg #[.bool v23.Gone, sv_ v23.B, .int .i64 v23.At, .int .i64 v23.Code], .int .i64 v25] (some 26) (Calls.mono h ?_)
         rintro _ w11 ⟨v26, rfl, h⟩
         refine ⟨_, rfl, ?_⟩
         refine Zn [] 4 [(4, [], pv_ b_1), (26, [], .agg #[.bool v26.Gone, sv_ v26.B, .int .i64 v26.At, .int .i64 v26.Code])] ?_
         obtain ⟨hc, h⟩ := h
         refine Zo 130 4 26 b_1 0 4 [.bool v26.Gone, sv_ v26.B, .int .i64 v26.At, .int .i64 v26.Code] hc (fun w12 hw => ?_)
         replace h := h w12 hw
         clear hw
         refine Zf P1 [(4, pv_ b_1), (5, .string ByteArray.empty)] ?_
         change WpE _ _ c117_34 _ _ _
         refine wpE_ret (by kernel_rfl) ?_
         obtain ⟨res2, hc_res2, h⟩ := h
         repeat (first | refine seqQ_ret ?_ | refine blockQ_ret ?_ | refine loopQ_ret ?_ | refine cutQ_ret ?_)
         exact retT (rs := [(ResultVar.cell 4 130), (ResultVar.tmp 5)]) (vs := [Value.agg #[Value.bool res2.Gone, sv_ res2.B, Value.int .i64 res2.At, Value.int .i64 res2.Code], Value.string ByteArray.empty]) (by kernel_rfl) (⟨b_1, 0, [Value.bool res2.Gone, sv_ res2.B, Value.int .i64 res2.At, Value.int .i64 res2.Code], by kernel_rfl, hc_res2, (sizeP_of (k := 4) (by kernel_rfl) (by kernel_rfl)), .inl ⟨by kernel_rfl, rfl⟩, ⟨by kernel_rfl, trivial⟩⟩) (by kernel_rfl) ⟨res2, ByteArray.empty, rfl, h⟩
       · replace h := h.2 hb
         refine wpE_skip (by kernel_rfl) ?_
         change WpE _ _ c117_36 _ _ _
         refine Zs c117_37 c117_46 ?_
         refine Zp c117_40 P4 [(2, pv_ b_), (4, pv_ b_1), (6, pv_ b_2), (7, .int .u64 n_), (30, .bool (decide (n_ > (IntKind.u64.wrap most))))] ?_
         refine Zc 30 (decide (n_ > (IntKind.u64.wrap most))) c117_41 c117_45 (fun hb => ?_) (fun hb => ?_)
         · replace h := h.1 hb
           refine Zt r117_42 c117_44 ?_
           refine Zn [] 0 [(2, [], pv_ b_), (4, [], pv_ b_1)] ?_
           obtain ⟨v31, hc, h⟩ := h
           refine reg_loadN (t := 130) (a := (Operand.tmp 2)) (b := b_) (o := 0) (ty := 130) (dst := some 31) [Value.bool v31.Gone, sv_ v31.B, Value.int .i64 v31.At, Value.int .i64 v31.Code] (by kernel_rfl) (by kernel_rfl) (by kernel_rfl) (k := 4) (by kernel_rfl) (by kernel_rfl) hc ?_
           refine Zn [] 1 [(4, [], pv_ b_1), (31, [], .agg #[.bool v31.Gone, sv_ v31.B, .int .i64 v31.At, .int .i64 v31.Code])] ?_
           refine Zm 180 #[.agg #[.bool v31.Gone, sv_ v31.B, .int .i64 v31.At, .int .i64 v31.Code], .int .i64 3] (some 32) (Calls.mono h ?_)
           rintro _ w13 ⟨v32, rfl, h⟩
           refine ⟨_, rfl, ?_⟩
           refine Zn [] 2 [(4, [], pv_ b_1), (32, [], .agg #[.bool v32.Gone, sv_ v32.B, .int .i64 v32.At, .int .i64 v32.Code])] ?_
           obtain ⟨hc, h⟩ := h
           refine Zo 130 4 32 b_1 0 4 [.bool v32.Gone, sv_ v32.B, .int .i64 v32.At, .int .i64 v32.Code] hc (fun w14 hw => ?_)
           replace h := h w14 hw
           clear hw
           refine Zf P1 [(4, pv_ b_1), (5, .string ByteArray.empty)] ?_
           change WpE _ _ c117_44 _ _ _
           refine wpE_ret (by kernel_rfl) ?_
           obtain ⟨res3, hc_res3, h⟩ := h
           repeat (first | refine seqQ_ret ?_ | refine blockQ_ret ?_ | refine loopQ_ret ?_ | refine cutQ_ret ?_)
           exact retT (rs := [(ResultVar.cell 4 130), (ResultVar.tmp 5)]) (vs := [Value.agg #[Value.bool res3.Gone, sv_ res3.B, Value.int .i64 res3.At, Value.int .i64 res3.Code], Value.string ByteArray.empty]) (by kernel_rfl) (⟨b_1, 0, [Value.bool res3.Gone, sv_ res3.B, Value.int .i64 res3.At, Value.int .i64 res3.Code], by kernel_rfl, hc_res3, (sizeP_of (k := 4) (by kernel_rfl) (by kernel_rfl)), .inl ⟨by kernel_rfl, rfl⟩, ⟨by kernel_rfl, trivial⟩⟩) (by kernel_rfl) ⟨res3, ByteArray.empty, rfl, h⟩
         · replace h := h.2 hb
           refine wpE_skip (by kernel_rfl) ?_
           change WpE _ _ c117_46 _ _ _
           refine Zs c117_47 c117_56 ?_
           refine Zt r117_48 c117_50 ?_
           refine Zn P2 2 [(2, [], pv_ b_), (4, [], pv_ b_1), (6, [], pv_ b_2), (7, [], .int .u64 n_), (33, [], .int .u64 n_), (34, [], .pointer (some ⟨b_, 1, none⟩))] ?_
           obtain ⟨v35, hc, h⟩ := h
           refine Zl 79 34 b_ 1 79 35 hc ?_
           refine Zn P2 5 [(2, [], pv_ b_), (4, [], pv_ b_1), (6, [], pv_ b_2), (7, [], .int .u64 n_), (33, [], .int .u64 n_), (36, [], .int .i64 ((v35.len : Nat) : Int)), (37, [], .pointer (some ⟨b_2, 2, none⟩))] ?_
           obtain ⟨v38, hc, h⟩ := h
           refine Zl 3 37 b_2 2 3 38 hc ?_
           refine Zf P3 [(2, pv_ b_), (4, pv_ b_1), (6, pv_ b_2), (7, .int .u64 n_), (41, .bool (decide (n_ > (IntKind.u64.wrap (IntKind.i64.wrap (((v35.len : Nat) : Int) - v38))))))] ?_
           change WpE _ _ c117_50 _ _ _
           refine Zc 41 (decide (n_ > (IntKind.u64.wrap (IntKind.i64.wrap (((v35.len : Nat) : Int) - v38))))) c117_51 c117_55 (fun hb => ?_) (fun hb => ?_)
           · replace h := h.1 hb
             refine Zt r117_52 c117_54 ?_
             refine Zn [] 0 [(2, [], pv_ b_), (4, [], pv_ b_1)] ?_
             obtain ⟨v42, hc, h⟩ := h
             refine reg_loadN (t := 130) (a := (Operand.tmp 2)) (b := b_) (o := 0) (ty := 130) (dst := some 42) [Value.bool v42.Gone, sv_ v42.B, Value.int .i64 v42.At, Value.int .i64 v42.Code] (by kernel_rfl) (by kernel_rfl) (by kernel_rfl) (k := 4) (by kernel_rfl) (by kernel_rfl) hc ?_
             refine Zn [] 1 [(4, [], pv_ b_1), (42, [], .agg #[.bool v42.Gone, sv_ v42.B, .int .i64 v42.At, .int .i64 v42.Code])] ?_
             refine Zm 180 #[.agg #[.bool v42.Gone, sv_ v42.B, .int .i64 v42.At, .int .i64 v42.Code], .int .i64 5] (some 43) (Calls.mono h ?_)
             rintro _ w15 ⟨v43, rfl, h⟩
             refine ⟨_, rfl, ?_⟩
             refine Zn [] 2 [(4, [], pv_ b_1), (43, [], .agg #[.bool v43.Gone, sv_ v43.B, .int .i64 v43.At, .int .i64 v43.Code])] ?_
             obtain ⟨hc, h⟩ := h
             refine Zo 130 4 43 b_1 0 4 [.bool v43.Gone, sv_ v43.B, .int .i64 v43.At, .int .i64 v43.Code] hc (fun w16 hw => ?_)
             replace h := h w16 hw
             clear hw
             refine Zf P1 [(4, pv_ b_1), (5, .string ByteArray.empty)] ?_
             change WpE _ _ c117_54 _ _ _
             refine wpE_ret (by kernel_rfl) ?_
             obtain ⟨res4, hc_res4, h⟩ := h
             repeat (first | refine seqQ_ret ?_ | refine blockQ_ret ?_ | refine loopQ_ret ?_ | refine cutQ_ret ?_)
             exact retT (rs := [(ResultVar.cell 4 130), (ResultVar.tmp 5)]) (vs := [Value.agg #[Value.bool res4.Gone, sv_ res4.B, Value.int .i64 res4.At, Value.int .i64 res4.Code], Value.string ByteArray.empty]) (by kernel_rfl) (⟨b_1, 0, [Value.bool res4.Gone, sv_ res4.B, Value.int .i64 res4.At, Value.int .i64 res4.Code], by kernel_rfl, hc_res4, (sizeP_of (k := 4) (by kernel_rfl) (by kernel_rfl)), .inl ⟨by kernel_rfl, rfl⟩, ⟨by kernel_rfl, trivial⟩⟩) (by kernel_rfl) ⟨res4, ByteArray.empty, rfl, h⟩
           · replace h := h.2 hb
             refine wpE_skip (by kernel_rfl) ?_
             change WpE _ _ c117_56 _ _ _
             refine Zt r117_57 c117_59 ?_
             refine Zn P1 1 [(4, [], pv_ b_1), (6, [], pv_ b_2), (7, [], .int .u64 n_), (44, [], .pointer (some ⟨b_, 1, none⟩))] ?_
             obtain ⟨v45, hc, h⟩ := h
             refine Zl 79 44 b_ 1 79 45 hc ?_
             refine Zn P1 3 [(4, [], pv_ b_1), (6, [], pv_ b_2), (7, [], .int .u64 n_), (45, [], sv_ v45), (46, [], .pointer (some ⟨b_2, 2, none⟩))] ?_
             obtain ⟨v47, hc, h⟩ := h
             refine Zl 3 46 b_2 2 3 47 hc ?_
             refine Zn P1 5 [(4, [], pv_ b_1), (6, [], pv_ b_2), (7, [], .int .u64 n_), (45, [], sv_ v45), (47, [], .int .i64 v47), (48, [], .pointer (some ⟨b_2, 2, none⟩))] ?_
             obtain ⟨v49, hc, h⟩ := h
             refine Zl 3 48 b_2 2 3 49 hc ?_
             refine Zn P3 9 [(4, [], pv_ b_1), (6, [], pv_ b_2), (7, [], .int .u64 n_), (45, [], sv_ v45), (47, [], .int .i64 v47), (52, [], .int .i64 (IntKind.i64.wrap (v49 + (IntKind.i64.wrap n_))))] ?_
             obtain ⟨hc, h⟩ := h
             refine reg_sliceH (t := 79) (e := 5) (x := (Operand.tmp 45)) (lo := (Operand.tmp 47)) (hi := (Operand.tmp 52)) (s := v45) (sz := 1) (k := .i64) (a := v47) (k' := .i64) (b := (IntKind.i64.wrap (v49 + (IntKind.i64.wrap n_)))) (ty := 79) (dst := some 53) (by kernel_rfl) (by kernel_rfl) (by kernel_rfl) (by kernel_rfl) (by kernel_rfl) (by kernel_rfl) hc (fun s hs => ?_)
             replace h := h s hs
             clear hs
             refine Zn [] 10 [(4, [], pv_ b_1), (6, [], pv_ b_2), (7, [], .int .u64 n_), (53, [], sv_ s)] ?_
             obtain ⟨str, hs, h⟩ := h
             refine reg_toString (t := 79) (d := 9) (e := 5) (x := (Operand.tmp 53)) (s := s) (ty := 9) (dst := some 54) (by kernel_rfl) (by kernel_rfl) (by kernel_rfl) (by kernel_rfl) (by kernel_rfl) hs ?_
             refine Zf P1 [(4, pv_ b_1), (6, pv_ b_2), (7, .int .u64 n_), (8, .string str)] ?_
             change WpE _ _ c117_59 _ _ _
             refine Zt r117_60 c117_62 ?_
             refine Zn P1 1 [(4, [], pv_ b_1), (6, [], pv_ b_2), (7, [], .int .u64 n_), (8, [], .string str), (55, [], .pointer (some ⟨b_2, 2, none⟩))] ?_
             obtain ⟨v56, hc, h⟩ := h
             refine Zl 3 55 b_2 2 3 56 hc ?_
             refine Zn P4 6 [(4, [], pv_ b_1), (6, [], pv_ b_2), (8, [], .string str), (59, [], .int .i64 (IntKind.i64.wrap (v56 + (IntKind.i64.wrap n_)))), (60, [], .pointer (some ⟨b_2, 2, none⟩))] ?_
             obtain ⟨hc, h⟩ := h
             refine Zo 3 60 59 b_2 2 1 [.int .i64 (IntKind.i64.wrap (v56 + (IntKind.i64.wrap n_)))] hc (fun w17 hw => ?_)
             replace h := h w17 hw
             clear hw
             refine Ze [(4, pv_ b_1), (6, pv_ b_2), (8, .string str)] ?_
             change WpE _ _ c117_62 _ _ _
             refine Zt r117_63 c117_65 ?_
             refine Zn [] 0 [(4, [], pv_ b_1), (6, [], pv_ b_2), (8, [], .string str)] ?_
             obtain ⟨v61, hc, h⟩ := h
             refine reg_loadN (t := 130) (a := (Operand.tmp 6)) (b := b_2) (o := 0) (ty := 130) (dst := some 61) [Value.bool v61.Gone, sv_ v61.B, Value.int .i64 v61.At, Value.int .i64 v61.Code] (by kernel_rfl) (by kernel_rfl) (by kernel_rfl) (k := 4) (by kernel_rfl) (by kernel_rfl) hc ?_
             refine Zn P1 2 [(4, [], pv_ b_1), (61, [], .agg #[.bool v61.Gone, sv_ v61.B, .int .i64 v61.At, .int .i64 v61.Code]), (62, [], .string str)] ?_
             obtain ⟨hc, h⟩ := h
             refine Zo 130 4 61 b_1 0 4 [.bool v61.Gone, sv_ v61.B, .int .i64 v61.At, .int .i64 v61.Code] hc (fun w18 hw => ?_)
             replace h := h w18 hw
             clear hw
             refine Zf P1 [(4, pv_ b_1), (5, .string str)] ?_
             change WpE _ _ c117_65 _ _ _
             refine wpE_ret (by kernel_rfl) ?_
             obtain ⟨res5, hc_res5, h⟩ := h
             repeat (first | refine seqQ_ret ?_ | refine blockQ_ret ?_ | refine loopQ_ret ?_ | refine cutQ_ret ?_)
             exact retT (rs := [(ResultVar.cell 4 130), (ResultVar.tmp 5)]) (vs := [Value.agg #[Value.bool res5.Gone, sv_ res5.B, Value.int .i64 res5.At, Value.int .i64 res5.Code], Value.string str]) (by kernel_rfl) (⟨b_1, 0, [Value.bool res5.Gone, sv_ res5.B, Value.int .i64 res5.At, Value.int .i64 res5.Code], by kernel_rfl, hc_res5, (sizeP_of (k := 4) (by kernel_rfl) (by kernel_rfl)), .inl ⟨by kernel_rfl, rfl⟩, ⟨by kernel_rfl, trivial⟩⟩) (by kernel_rfl) ⟨res5, str, rfl, h⟩
 · rintro e w' ⟨v, rfl, r0, r1, rfl, h⟩; exact ⟨r0, r1, rfl, h⟩

/-! ### (towpath/towpathref02.Reader).Fixed (function 118) -/
def c118_0 := cb_ Tryz.f118
def c118_1 := cl_ c118_0
def r118_1 := co_ c118_1
def c118_3 := cr_ c118_0
def c118_4 := cl_ c118_3
def c118_5 := cl_ c118_4
def r118_5 := co_ c118_5
def c118_7 := cr_ c118_4
def c118_8 := cl_ c118_7
def c118_9 := cl_ c118_8
def r118_9 := co_ c118_9
def c118_11 := cr_ c118_8
def c118_12 := cr_ c118_7
def c118_13 := cr_ c118_3
def c118_14 := cl_ c118_13
def c118_17 := cr_ c118_14
def c118_18 := cl_ c118_17
def c118_19 := cl_ c118_18
def r118_19 := co_ c118_19
def c118_21 := cr_ c118_18
def c118_22 := cr_ c118_17
def c118_23 := cr_ c118_13
def c118_24 := cl_ c118_23
def c118_25 := cl_ c118_24
def r118_25 := co_ c118_25
def c118_27 := cr_ c118_24
def c118_28 := cl_ c118_27
def c118_29 := cl_ c118_28
def r118_29 := co_ c118_29
def c118_31 := cr_ c118_28
def c118_32 := cr_ c118_27
def c118_33 := cr_ c118_23
def c118_36 := cr_ c118_33
def c118_37 := cl_ c118_36
def c118_40 := cr_ c118_37
def c118_41 := cl_ c118_40
def c118_42 := cl_ c118_41
def c118_43 := cl_ c118_42
def c118_46 := cr_ c118_43
def c118_47 := cl_ c118_46
def c118_48 := cr_ c118_46
def c118_49 := cr_ c118_42
def c118_50 := cl_ c118_49
def c118_51 := cl_ c118_50
def r118_51 := co_ c118_51
def c118_53 := cr_ c118_49
def r118_53 := co_ c118_53
def c118_55 := cr_ c118_36
def c118_56 := cl_ c118_55
def r118_56 := co_ c118_56
def c118_58 := cr_ c118_55
def c118_59 := cl_ c118_58
def r118_59 := co_ c118_59
def c118_61 := cr_ c118_58

theorem S_towpathref02_Reader_Fixed {r : T_towpathref02_Reader} {width : Int} {w : World} {R : T_towpathref02_Reader → Int → World → Prop} (h : F_towpathref02_Reader_Fixed r width R w) : C_towpathref02_Reader_Fixed r width w R := by
 unfold F_towpathref02_Reader_Fixed at h
 unfold C_towpathref02_Reader_Fixed
 refine Calls.mono (calls_of_wpE (args := [Value.agg #[Value.bool r.Gone, sv_ r.B, Value.int .i64 r.At, Value.int .i64 r.Code], Value.int .i64 width]) (R := fun v w' => ∃ (r0 : T_towpathref02_Reader) (r1 : Int), v = Value.tuple #[Value.agg #[Value.bool r0.Gone, sv_ r0.B, Value.int .i64 r0.At, Value.int .i64 r0.Code], Value.int .u64 r1] ∧ R r0 r1 w') Tryz.func118 (c := c118_0) (by kernel_rfl) 54 (by kernel_rfl) (by kernel_rfl) [(0, Value.agg #[Value.bool r.Gone, sv_ r.B, Value.int .i64 r.At, Value.int .i64 r.Code]), (1, Value.int .i64 width)] (by kernel_rfl) ?_) ?_
 · refine Zt r118_1 c118_3 ?_
   refine Zn [] 0 [(0, [], .agg #[.bool r.Gone, sv_ r.B, .int .i64 r.At, .int .i64 r.Code]), (1, [], .int .i64 width)] ?_
   refine Zw (some 2) (fun bb => pv_ bb) (Obj.cells ([.bool r.Gone, sv_ r.B, .int .i64 r.At, .int .i64 r.Code]).toArray ty_towpathref02_Reader (0, 0)) (fun b_ w1 hb hw => ?_)
   replace h := h b_ w1 hb hw
   clear hb hw
   refine Zn [] 1 [(1, [], .int .i64 width), (2, [], pv_ b_)] ?_
   refine Zw (some 4) (fun bb => pv_ bb) (Obj.cells ([.bool false, .slice none 0 0, .int .i64 0, .int .i64 0]).toArray ty_towpathref02_Reader (0, 0)) (fun b_1 w2 hb hw => ?_)
   replace h := h b_1 w2 hb hw
   clear hb hw
   refine Zf P1 [(1, .int .i64 width), (2, pv_ b_), (4, pv_ b_1)] ?_
   change WpE _ _ c118_3 _ _ _
   refine Zs c118_4 c118_13 ?_
   refine Zt r118_5 c118_7 ?_
   refine Zn [] 0 [(1, [], .int .i64 width), (2, [], pv_ b_), (4, [], pv_ b_1)] ?_
   obtain ⟨v8, hc, h⟩ := h
   refine reg_loadN (t := 130) (a := (Operand.tmp 2)) (b := b_) (o := 0) (ty := 130) (dst := some 8) [Value.bool v8.Gone, sv_ v8.B, Value.int .i64 v8.At, Value.int .i64 v8.Code] (by kernel_rfl) (by kernel_rfl) (by kernel_rfl) (k := 4) (by kernel_rfl) (by kernel_rfl) hc ?_
   refine Zn [] 1 [(1, [], .int .i64 width), (2, [], pv_ b_), (4, [], pv_ b_1), (8, [], .agg #[.bool v8.Gone, sv_ v8.B, .int .i64 v8.At, .int .i64 v8.Code])] ?_
   refine Zm 179 #[.agg #[.bool v8.Gone, sv_ v8.B, .int .i64 v8.At, .int .i64 v8.Code]] (some 9) (Calls.mono h ?_)
   rintro _ w3 ⟨v9, rfl, h⟩
   refine ⟨_, rfl, ?_⟩
   refine Ze [(1, .int .i64 width), (2, pv_ b_), (4, pv_ b_1), (9, .bool v9)] ?_
   change WpE _ _ c118_7 _ _ _
   refine Zc 9 v9 c118_8 c118_12 (fun hb => ?_) (fun hb => ?_)
   · replace h := h.1 hb
     refine Zt r118_9 c118_11 ?_
     refine Zn [] 0 [(2, [], pv_ b_), (4, [], pv_ b_1)] ?_
     obtain ⟨v10, hc, h⟩ := h
     refine reg_loadN (t := 130) (a := (Operand.tmp 2)) (b := b_) (o := 0) (ty := 130) (dst := some 10) [Value.bool v10.Gone, sv_ v10.B, Value.int .i64 v10.At, Value.int .i64 v10.Code] (by kernel_rfl) (by kernel_rfl) (by kernel_rfl) (k := 4) (by kernel_rfl) (by kernel_rfl) hc ?_
     refine Zn [] 1 [(4, [], pv_ b_1), (10, [], .agg #[.bool v10.Gone, sv_ v10.B, .int .i64 v10.At, .int .i64 v10.Code])] ?_
     obtain ⟨hc, h⟩ := h
     refine Zo 130 4 10 b_1 0 4 [.bool v10.Gone, sv_ v10.B, .int .i64 v10.At, .int .i64 v10.Code] hc (fun w4 hw => ?_)
     replace h := h w4 hw
     clear hw
     refine Zf P1 [(4, pv_ b_1), (5, .int .u64 0)] ?_
     change WpE _ _ c118_11 _ _ _
     refine wpE_ret (by kernel_rfl) ?_
     obtain ⟨res, hc_res, h⟩ := h
     repeat (first | refine seqQ_ret ?_ | refine blockQ_ret ?_ | refine loopQ_ret ?_ | refine cutQ_ret ?_)
     exact retT (rs := [(ResultVar.cell 4 130), (ResultVar.tmp 5)]) (vs := [Value.agg #[Value.bool res.Gone, sv_ res.B, Value.int .i64 res.At, Value.int .i64 res.Code], Value.int .u64 0]) (by kernel_rfl) (⟨b_1, 0, [Value.bool res.Gone, sv_ res.B, Value.int .i64 res.At, Value.int .i64 res.Code], by kernel_rfl, hc_res, (sizeP_of (k := 4) (by kernel_rfl) (by kernel_rfl)), .inl ⟨by kernel_rfl, rfl⟩, ⟨by kernel_rfl, trivial⟩⟩) (by kernel_rfl) ⟨res, 0, rfl, h⟩
   · replace h := h.2 hb
     refine wpE_skip (by kernel_rfl) ?_
     change WpE _ _ c118_13 _ _ _
     refine Zs c118_14 c118_23 ?_
     refine Zp c118_17 [.plain, .plain, .plain, .plain, .plain, .pick] [(1, .int .i64 width), (2, pv_ b_), (4, pv_ b_1), (16, .bool ((decide (width < 1)) || (decide (width > 8))))] ?_
     refine Zc 16 ((decide (width < 1)) || (decide (width > 8))) c118_18 c118_22 (fun hb => ?_) (fun hb => ?_)
     · replace h := h.1 hb
       refine Zt r118_19 c118_21 ?_
       refine Zn [] 0 [(2, [], pv_ b_), (4, [], pv_ b_1)] ?_
       obtain ⟨v17, hc, h⟩ := h
       refine reg_loadN (t := 130) (a := (Operand.tmp 2)) (b := b_) (o := 0) (ty := 130) (dst := some 17) [Value.bool v17.Gone, sv_ v17.B, Value.int .i64 v17.At, Value.int .i64 v17.Code] (by kernel_rfl) (by kernel_rfl) (by kernel_rfl) (k := 4) (by kernel_rfl) (by kernel_rfl) hc ?_
       refine Zn [] 1 [(4, [], pv_ b_1), (17, [], .agg #[.bool v17.Gone, sv_ v17.B, .int .i64 v17.At, .int .i64 v17.Code])] ?_
       refine Zm 180 #[.agg #[.bool v17.Gone, sv_ v17.B, .int .i64 v17.At, .int .i64 v17.Code], .int .i64 1] (some 18) (Calls.mono h ?_)
       rintro _ w5 ⟨v18, rfl, h⟩
       refine ⟨_, rfl, ?_⟩
       refine Zn [] 2 [(4, [], pv_ b_1), (18, [], .agg #[.bool v18.Gone, sv_ v18.B, .int .i64 v18.At, .int .i64 v18.Code])] ?_
       obtain ⟨hc, h⟩ := h
       refine Zo 130 4 18 b_1 0 4 [.bool v18.Gone, sv_ v18.B, .int .i64 v18.At, .int .i64 v18.Code] hc (fun w6 hw => ?_)
       replace h := h w6 hw
       clear hw
       refine Zf P1 [(4, pv_ b_1), (5, .int .u64 0)] ?_
       change WpE _ _ c118_21 _ _ _
       refine wpE_ret (by kernel_rfl) ?_
       obtain ⟨res1, hc_res1, h⟩ := h
       repeat (first | refine seqQ_ret ?_ | refine blockQ_ret ?_ | refine loopQ_ret ?_ | refine cutQ_ret ?_)
       exact retT (rs := [(ResultVar.cell 4 130), (ResultVar.tmp 5)]) (vs := [Value.agg #[Value.bool res1.Gone, sv_ res1.B, Value.int .i64 res1.At, Value.int .i64 res1.Code], Value.int .u64 0]) (by kernel_rfl) (⟨b_1, 0, [Value.bool res1.Gone, sv_ res1.B, Value.int .i64 res1.At, Value.int .i64 res1.Code], by kernel_rfl, hc_res1, (sizeP_of (k := 4) (by kernel_rfl) (by kernel_rfl)), .inl ⟨by kernel_rfl, rfl⟩, ⟨by kernel_rfl, trivial⟩⟩) (by kernel_rfl) ⟨res1, 0, rfl, h⟩
     · replace h := h.2 hb
       refine wpE_skip (by kernel_rfl) ?_
       change WpE _ _ c118_23 _ _ _
       refine Zs c118_24 c118_33 ?_
       refine Zt r118_25 c118_27 ?_
       refine Zn P2 2 [(1, [], .int .i64 width), (2, [], pv_ b_), (4, [], pv_ b_1), (19, [], .int .i64 width), (20, [], .pointer (some ⟨b_, 1, none⟩))] ?_
       obtain ⟨v21, hc, h⟩ := h
       refine Zl 79 20 b_ 1 79 21 hc ?_
       refine Zn P2 5 [(1, [], .int .i64 width), (2, [], pv_ b_), (4, [], pv_ b_1), (19, [], .int .i64 width), (22, [], .int .i64 ((v21.len : Nat) : Int)), (23, [], .pointer (some ⟨b_, 2, none⟩))] ?_
       obtain ⟨v24, hc, h⟩ := h
       refine Zl 3 23 b_ 2 3 24 hc ?_
       refine Zf P2 [(1, .int .i64 width), (2, pv_ b_), (4, pv_ b_1), (26, .bool (decide (width > (IntKind.i64.wrap (((v21.len : Nat) : Int) - v24)))))] ?_
       change WpE _ _ c118_27 _ _ _
       refine Zc 26 (decide (width > (IntKind.i64.wrap (((v21.len : Nat) : Int) - v24)))) c118_28 c118_32 (fun hb => ?_) (fun hb => ?_)
       · replace h := h.1 hb
         refine Zt r118_29 c118_31 ?_
         refine Zn [] 0 [(2, [], pv_ b_), (4, [], pv_ b_1)] ?_
         obtain ⟨v27, hc, h⟩ := h
         refine reg_loadN (t := 130) (a := (Operand.tmp 2)) (b := b_) (o := 0) (ty := 130) (dst := some 27) [Value.bool v27.Gone, sv_ v27.B, Value.int .i64 v27.At, Value.int .i64 v27.Code] (by kernel_rfl) (by kernel_rfl) (by kernel_rfl) (k := 4) (by kernel_rfl) (by kernel_rfl) hc ?_
         refine Zn [] 1 [(4, [], pv_ b_1), (27, [], .agg #[.bool v27.Gone, sv_ v27.B, .int .i64 v27.At, .int .i64 v27.Code])] ?_
         refine Zm 180 #[.agg #[.bool v27.Gone, sv_ v27.B, .int .i64 v27.At, .int .i64 v27.Code], .int .i64 5] (some 28) (Calls.mono h ?_)
         rintro _ w7 ⟨v28, rfl, h⟩
         refine ⟨_, rfl, ?_⟩
         refine Zn [] 2 [(4, [], pv_ b_1), (28, [], .agg #[.bool v28.Gone, sv_ v28.B, .int .i64 v28.At, .int .i64 v28.Code])] ?_
         obtain ⟨hc, h⟩ := h
         refine Zo 130 4 28 b_1 0 4 [.bool v28.Gone, sv_ v28.B, .int .i64 v28.At, .int .i64 v28.Code] hc (fun w8 hw => ?_)
         replace h := h w8 hw
         clear hw
         refine Zf P1 [(4, pv_ b_1), (5, .int .u64 0)] ?_
         change WpE _ _ c118_31 _ _ _
         refine wpE_ret (by kernel_rfl) ?_
         obtain ⟨res2, hc_res2, h⟩ := h
         repeat (first | refine seqQ_ret ?_ | refine blockQ_ret ?_ | refine loopQ_ret ?_ | refine cutQ_ret ?_)
         exact retT (rs := [(ResultVar.cell 4 130), (ResultVar.tmp 5)]) (vs := [Value.agg #[Value.bool res2.Gone, sv_ res2.B, Value.int .i64 res2.At, Value.int .i64 res2.Code], Value.int .u64 0]) (by kernel_rfl) (⟨b_1, 0, [Value.bool res2.Gone, sv_ res2.B, Value.int .i64 res2.At, Value.int .i64 res2.Code], by kernel_rfl, hc_res2, (sizeP_of (k := 4) (by kernel_rfl) (by kernel_rfl)), .inl ⟨by kernel_rfl, rfl⟩, ⟨by kernel_rfl, trivial⟩⟩) (by kernel_rfl) ⟨res2, 0, rfl, h⟩
       · replace h := h.2 hb
         refine wpE_skip (by kernel_rfl) ?_
         change WpE _ _ c118_33 _ _ _
         refine Zp c118_36 P1 [(1, .int .i64 width), (2, pv_ b_), (4, pv_ b_1), (6, .int .u64 0)] ?_
         refine Zs c118_37 c118_55 ?_
         refine Zp c118_40 P3 [(1, .int .i64 width), (2, pv_ b_), (4, pv_ b_1), (6, .int .u64 0), (7, .int .i64 (IntKind.i64.wrap (width - 1)))] ?_
         refine Zb 0 c118_41 ?_
         obtain ⟨I, μ, h0, hr⟩ := h
         refine wpE_loop (x := c118_42) (by kernel_rfl) (fun m l w => ∃ (n_ : Int) (i : Int), l = [(1, Value.int .i64 width), (2, pv_ b_), (4, pv_ b_1), (6, Value.int .u64 n_), (7, Value.int .i64 i)] ∧ I n_ i w ∧ μ n_ i w = m) (l' := [(1, Value.int .i64 width), (2, pv_ b_), (4, pv_ b_1), (6, Value.int .u64 0), (7, Value.int .i64 (IntKind.i64.wrap (width - 1)))]) (Sub.mk (by kernel_rfl)) ⟨0, (IntKind.i64.wrap (width - 1)), rfl, h0, rfl⟩ ?_
         rintro _ _ w9 ⟨n_, i, rfl, hI, rfl⟩
         obtain ⟨again_, again__h, h⟩ : ∃ again_ : Int → Int → World → Prop, (∀ n_' i' w', again_ n_' i' w' → I n_' i' w' ∧ μ n_' i' w' < μ n_ i w9) ∧ F_towpathref02_Reader_Fixed_L0 width R b_ b_1 again_ n_ i w9 := ⟨_, fun _ _ _ h => h, hr n_ i w9 hI⟩
         clear h0 hI
         unfold F_towpathref02_Reader_Fixed_L0 at h
         refine Zs c118_43 c118_49 ?_
         refine Zp c118_46 P2 [(1, .int .i64 width), (2, pv_ b_), (4, pv_ b_1), (6, .int .u64 n_), (7, .int .i64 i), (32, .bool (decide (i ≥ 0)))] ?_
         refine Zc 32 (decide (i ≥ 0)) c118_47 c118_48 (fun hb => ?_) (fun hb => ?_)
         · replace h := h.1 hb
           refine wpE_skip (by kernel_rfl) ?_
           change WpE _ _ c118_49 _ _ _
           refine Zs c118_50 c118_53 ?_
           refine Zb 1 c118_51 ?_
           refine Zr r118_51 ?_
           refine Zn P3 3 [(1, [], .int .i64 width), (2, [], pv_ b_), (4, [], pv_ b_1), (6, [], .int .u64 n_), (7, [], .int .i64 i), (36, [], .int .u64 (IntKind.u64.wrap (256 * n_))), (37, [], .pointer (some ⟨b_, 1, none⟩))] ?_
           obtain ⟨v38, hc, h⟩ := h
           refine Zl 79 37 b_ 1 79 38 hc ?_
           refine Zn P1 5 [(1, [], .int .i64 width), (2, [], pv_ b_), (4, [], pv_ b_1), (6, [], .int .u64 n_), (7, [], .int .i64 i), (36, [], .int .u64 (IntKind.u64.wrap (256 * n_))), (38, [], sv_ v38), (39, [], .pointer (some ⟨b_, 2, none⟩))] ?_
           obtain ⟨v40, hc, h⟩ := h
           refine Zl 3 39 b_ 2 3 40 hc ?_
           refine Zn P2 8 [(1, [], .int .i64 width), (2, [], pv_ b_), (4, [], pv_ b_1), (6, [], .int .u64 n_), (7, [], .int .i64 i), (36, [], .int .u64 (IntKind.u64.wrap (256 * n_))), (38, [], sv_ v38), (42, [], .int .i64 (IntKind.i64.wrap (v40 + i)))] ?_
           obtain ⟨hp_3, h⟩ := h
           refine Zv (fun pp => [(1, [], .int .i64 width), (2, [], pv_ b_), (4, [], pv_ b_1), (6, [], .int .u64 n_), (7, [], .int .i64 i), (36, [], .int .u64 (IntKind.u64.wrap (256 * n_))), (38, [], .slice pp v38.len v38.cap), (42, [], .int .i64 (IntKind.i64.wrap (v40 + i)))]) hp_3 ?_
           obtain ⟨h0, h1, h⟩ := h
           refine Zi 79 5 38 42 (pblk v38.ptr) (poff v38.ptr) v38.len v38.cap (IntKind.i64.wrap (v40 + i)) 43 0 h0 h1 ?_
           refine Zn [] 9 [(1, [], .int .i64 width), (2, [], pv_ b_), (4, [], pv_ b_1), (6, [], .int .u64 n_), (7, [], .int .i64 i), (36, [], .int .u64 (IntKind.u64.wrap (256 * n_))), (43, [], .pointer (some ⟨(pblk v38.ptr), (poff v38.ptr) + (IntKind.i64.wrap (v40 + i)).toNat, none⟩))] ?_
           obtain ⟨v44, hc, h⟩ := h
           refine Zl 5 43 (pblk v38.ptr) ((poff v38.ptr) + (IntKind.i64.wrap (v40 + i)).toNat) 5 44 hc ?_
           refine Zf P3 [(1, .int .i64 width), (2, pv_ b_), (4, pv_ b_1), (6, .int .u64 (IntKind.u64.wrap ((IntKind.u64.wrap (256 * n_)) + (IntKind.u64.wrap v44)))), (7, .int .i64 i)] ?_
           change WpE _ _ c118_53 _ _ _
           refine Zr r118_53 ?_
           refine Zf P3 [(1, .int .i64 width), (2, pv_ b_), (4, pv_ b_1), (6, .int .u64 (IntKind.u64.wrap ((IntKind.u64.wrap (256 * n_)) + (IntKind.u64.wrap v44)))), (7, .int .i64 (IntKind.i64.wrap (i - 1)))] ?_
           have hb_ := again__h _ _ _ h
           exact ⟨_, hb_.2, [(1, Value.int .i64 width), (2, pv_ b_), (4, pv_ b_1), (6, Value.int .u64 (IntKind.u64.wrap ((IntKind.u64.wrap (256 * n_)) + (IntKind.u64.wrap v44)))), (7, Value.int .i64 (IntKind.i64.wrap (i - 1)))], Sub.mk (by kernel_rfl), (IntKind.u64.wrap ((IntKind.u64.wrap (256 * n_)) + (IntKind.u64.wrap v44))), (IntKind.i64.wrap (i - 1)), rfl, hb_.1, rfl⟩
         · replace h := h.2 hb
           refine wpE_exit (id := 0) (by kernel_rfl) ?_
           change WpE _ _ c118_55 _ _ _
           refine Zt r118_56 c118_58 ?_
           refine Zn P1 1 [(1, [], .int .i64 width), (2, [], pv_ b_), (4, [], pv_ b_1), (6, [], .int .u64 n_), (47, [], .pointer (some ⟨b_, 2, none⟩))] ?_
           obtain ⟨v48, hc, h⟩ := h
           refine Zl 3 47 b_ 2 3 48 hc ?_
           refine Zn P3 5 [(2, [], pv_ b_), (4, [], pv_ b_1), (6, [], .int .u64 n_), (50, [], .int .i64 (IntKind.i64.wrap (v48 + width))), (51, [], .pointer (some ⟨b_, 2, none⟩))] ?_
           obtain ⟨hc, h⟩ := h
           refine Zo 3 51 50 b_ 2 1 [.int .i64 (IntKind.i64.wrap (v48 + width))] hc (fun w10 hw => ?_)
           replace h := h w10 hw
           clear hw
           refine Ze [(2, pv_ b_), (4, pv_ b_1), (6, .int .u64 n_)] ?_
           change WpE _ _ c118_58 _ _ _
           refine Zt r118_59 c118_61 ?_
           refine Zn [] 0 [(2, [], pv_ b_), (4, [], pv_ b_1), (6, [], .int .u64 n_)] ?_
           obtain ⟨v52, hc, h⟩ := h
           refine reg_loadN (t := 130) (a := (Operand.tmp 2)) (b := b_) (o := 0) (ty := 130) (dst := some 52) [Value.bool v52.Gone, sv_ v52.B, Value.int .i64 v52.At, Value.int .i64 v52.Code] (by kernel_rfl) (by kernel_rfl) (by kernel_rfl) (k := 4) (by kernel_rfl) (by kernel_rfl) hc ?_
           refine Zn P1 2 [(4, [], pv_ b_1), (52, [], .agg #[.bool v52.Gone, sv_ v52.B, .int .i64 v52.At, .int .i64 v52.Code]), (53, [], .int .u64 n_)] ?_
           obtain ⟨hc, h⟩ := h
           refine Zo 130 4 52 b_1 0 4 [.bool v52.Gone, sv_ v52.B, .int .i64 v52.At, .int .i64 v52.Code] hc (fun w11 hw => ?_)
           replace h := h w11 hw
           clear hw
           refine Zf P1 [(4, pv_ b_1), (5, .int .u64 n_)] ?_
           change WpE _ _ c118_61 _ _ _
           refine wpE_ret (by kernel_rfl) ?_
           obtain ⟨res3, hc_res3, h⟩ := h
           repeat (first | refine seqQ_ret ?_ | refine blockQ_ret ?_ | refine loopQ_ret ?_ | refine cutQ_ret ?_)
           exact retT (rs := [(ResultVar.cell 4 130), (ResultVar.tmp 5)]) (vs := [Value.agg #[Value.bool res3.Gone, sv_ res3.B, Value.int .i64 res3.At, Value.int .i64 res3.Code], Value.int .u64 n_]) (by kernel_rfl) (⟨b_1, 0, [Value.bool res3.Gone, sv_ res3.B, Value.int .i64 res3.At, Value.int .i64 res3.Code], by kernel_rfl, hc_res3, (sizeP_of (k := 4) (by kernel_rfl) (by kernel_rfl)), .inl ⟨by kernel_rfl, rfl⟩, ⟨by kernel_rfl, trivial⟩⟩) (by kernel_rfl) ⟨res3, n_, rfl, h⟩
 · rintro e w' ⟨v, rfl, r0, r1, rfl, h⟩; exact ⟨r0, r1, rfl, h⟩

/-! ### (towpath/towpathref02.Reader).dead (function 179) -/
def c179_0 := cb_ Tryz.f179
def c179_1 := cl_ c179_0
def r179_1 := co_ c179_1
def c179_3 := cr_ c179_0
def c179_4 := cl_ c179_3
def r179_4 := co_ c179_4
def c179_6 := cr_ c179_3

theorem S_towpathref02_Reader_dead {r : T_towpathref02_Reader} {w : World} {R : Bool → World → Prop} (h : F_towpathref02_Reader_dead r R w) : C_towpathref02_Reader_dead r w R := by
 unfold F_towpathref02_Reader_dead at h
 unfold C_towpathref02_Reader_dead
 refine Calls.mono (calls_of_wpE (args := [Value.agg #[Value.bool r.Gone, sv_ r.B, Value.int .i64 r.At, Value.int .i64 r.Code]]) (R := fun v w' => ∃ (r0 : Bool), v = Value.bool r0 ∧ R r0 w') Tryz.func179 (c := c179_0) (by kernel_rfl) 10 (by kernel_rfl) (by kernel_rfl) [(0, Value.agg #[Value.bool r.Gone, sv_ r.B, Value.int .i64 r.At, Value.int .i64 r.Code])] (by kernel_rfl) ?_) ?_
 · refine Zt r179_1 c179_3 ?_
   refine Zn [] 0 [(0, [], .agg #[.bool r.Gone, sv_ r.B, .int .i64 r.At, .int .i64 r.Code])] ?_
   refine Zw (some 1) (fun bb => pv_ bb) (Obj.cells ([.bool r.Gone, sv_ r.B, .int .i64 r.At, .int .i64 r.Code]).toArray ty_towpathref02_Reader (0, 0)) (fun b_ w1 hb hw => ?_)
   replace h := h b_ w1 hb hw
   clear hb hw
   refine Zf P1 [(1, pv_ b_)] ?_
   change WpE _ _ c179_3 _ _ _
   refine Zt r179_4 c179_6 ?_
   refine Zn P1 1 [(1, [], pv_ b_), (3, [], pv_ b_)] ?_
   obtain ⟨v4, hc, h⟩ := h
   refine Zl 4 3 b_ 0 4 4 hc ?_
   refine Zn P2 4 [(5, [], .bool v4), (6, [(5, false)], .pointer (some ⟨b_, 3, none⟩))] ?_
   refine reg_split 5 v4 (by kernel_rfl) (fun hb => ?_) (fun hb => ?_)
   · replace h := h.1 hb
     refine Zn [] 4 [(5, [], .bool true), (6, [], undef)] ?_
     refine Zf [.skip, .skip, .plain, .plain] [(2, .bool true)] ?_
     change WpE _ _ c179_6 _ _ _
     refine wpE_ret (by kernel_rfl) ?_
     repeat (first | refine seqQ_ret ?_ | refine blockQ_ret ?_ | refine loopQ_ret ?_ | refine cutQ_ret ?_)
     exact retS (rs := [(ResultVar.tmp 2)]) (v := Value.bool true) (by kernel_rfl) (⟨by kernel_rfl, trivial⟩) ⟨true, rfl, h⟩
   · replace h := h.2 hb
     refine Zn [] 4 [(5, [], .bool false), (6, [], .pointer (some ⟨b_, 3, none⟩))] ?_
     refine Zn [] 4 [(5, [], .bool false), (6, [], .pointer (some ⟨b_, 3, none⟩))] ?_
     obtain ⟨v7, hc, h⟩ := h
     refine Zl 28 6 b_ 3 28 7 hc ?_
     refine Zf [.sure, .plain, .plain] [(2, .bool (v7 != 0))] ?_
     change WpE _ _ c179_6 _ _ _
     refine wpE_ret (by kernel_rfl) ?_
     repeat (first | refine seqQ_ret ?_ | refine blockQ_ret ?_ | refine loopQ_ret ?_ | refine cutQ_ret ?_)
     exact retS (rs := [(ResultVar.tmp 2)]) (v := Value.bool (v7 != 0)) (by kernel_rfl) (⟨by kernel_rfl, trivial⟩) ⟨(v7 != 0), rfl, h⟩
 · rintro e w' ⟨v, rfl, r0, rfl, h⟩; exact ⟨r0, rfl, h⟩

/-! ### (towpath/towpathref02.Reader).wrong (function 180) -/
def c180_0 := cb_ Tryz.f180
def c180_1 := cl_ c180_0
def r180_1 := co_ c180_1
def c180_3 := cr_ c180_0
def c180_4 := cl_ c180_3
def r180_4 := co_ c180_4
def c180_6 := cr_ c180_3
def c180_7 := cl_ c180_6
def r180_7 := co_ c180_7
def c180_9 := cr_ c180_6

theorem S_towpathref02_Reader_wrong {r : T_towpathref02_Reader} {e : Int} {w : World} {R : T_towpathref02_Reader → World → Prop} (h : F_towpathref02_Reader_wrong r e R w) : C_towpathref02_Reader_wrong r e w R := by
 unfold F_towpathref02_Reader_wrong at h
 unfold C_towpathref02_Reader_wrong
 refine Calls.mono (calls_of_wpE (args := [Value.agg #[Value.bool r.Gone, sv_ r.B, Value.int .i64 r.At, Value.int .i64 r.Code], Value.int .i64 e]) (R := fun v w' => ∃ (r0 : T_towpathref02_Reader), v = Value.agg #[Value.bool r0.Gone, sv_ r0.B, Value.int .i64 r0.At, Value.int .i64 r0.Code] ∧ R r0 w') Tryz.func180 (c := c180_0) (by kernel_rfl) 8 (by kernel_rfl) (by kernel_rfl) [(0, Value.agg #[Value.bool r.Gone, sv_ r.B, Value.int .i64 r.At, Value.int .i64 r.Code]), (1, Value.int .i64 e)] (by kernel_rfl) ?_) ?_
 · refine Zt r180_1 c180_3 ?_
   refine Zn [] 0 [(0, [], .agg #[.bool r.Gone, sv_ r.B, .int .i64 r.At, .int .i64 r.Code]), (1, [], .int .i64 e)] ?_
   refine Zw (some 2) (fun bb => pv_ bb) (Obj.cells ([.bool r.Gone, sv_ r.B, .int .i64 r.At, .int .i64 r.Code]).toArray ty_towpathref02_Reader (0, 0)) (fun b_ w1 hb hw => ?_)
   replace h := h b_ w1 hb hw
   clear hb hw
   refine Zn [] 1 [(1, [], .int .i64 e), (2, [], pv_ b_)] ?_
   refine Zw (some 4) (fun bb => pv_ bb) (Obj.cells ([.bool false, .slice none 0 0, .int .i64 0, .int .i64 0]).toArray ty_towpathref02_Reader (0, 0)) (fun b_1 w2 hb hw => ?_)
   replace h := h b_1 w2 hb hw
   clear hb hw
   refine Ze [(1, .int .i64 e), (2, pv_ b_), (4, pv_ b_1)] ?_
   change WpE _ _ c180_3 _ _ _
   refine Zt r180_4 c180_6 ?_
   refine Zn P2 2 [(2, [], pv_ b_), (4, [], pv_ b_1), (5, [], .int .i64 e), (6, [], .pointer (some ⟨b_, 3, none⟩))] ?_
   obtain ⟨hc, h⟩ := h
   refine Zo 28 6 5 b_ 3 1 [.int .i64 e] hc (fun w3 hw => ?_)
   replace h := h w3 hw
   clear hw
   refine Ze [(2, pv_ b_), (4, pv_ b_1)] ?_
   change WpE _ _ c180_6 _ _ _
   refine Zt r180_7 c180_9 ?_
   refine Zn [] 0 [(2, [], pv_ b_), (4, [], pv_ b_1)] ?_
   obtain ⟨v7, hc, h⟩ := h
   refine reg_loadN (t := 130) (a := (Operand.tmp 2)) (b := b_) (o := 0) (ty := 130) (dst := some 7) [Value.bool v7.Gone, sv_ v7.B, Value.int .i64 v7.At, Value.int .i64 v7.Code] (by kernel_rfl) (by kernel_rfl) (by kernel_rfl) (k := 4) (by kernel_rfl) (by kernel_rfl) hc ?_
   refine Zn [] 1 [(4, [], pv_ b_1), (7, [], .agg #[.bool v7.Gone, sv_ v7.B, .int .i64 v7.At, .int .i64 v7.Code])] ?_
   obtain ⟨hc, h⟩ := h
   refine Zo 130 4 7 b_1 0 4 [.bool v7.Gone, sv_ v7.B, .int .i64 v7.At, .int .i64 v7.Code] hc (fun w4 hw => ?_)
   replace h := h w4 hw
   clear hw
   refine Ze [(4, pv_ b_1)] ?_
   change WpE _ _ c180_9 _ _ _
   refine wpE_ret (by kernel_rfl) ?_
   obtain ⟨res, hc_res, h⟩ := h
   repeat (first | refine seqQ_ret ?_ | refine blockQ_ret ?_ | refine loopQ_ret ?_ | refine cutQ_ret ?_)
   exact retS (rs := [(ResultVar.cell 4 130)]) (v := Value.agg #[Value.bool res.Gone, sv_ res.B, Value.int .i64 res.At, Value.int .i64 res.Code]) (by kernel_rfl) (⟨b_1, 0, [Value.bool res.Gone, sv_ res.B, Value.int .i64 res.At, Value.int .i64 res.Code], by kernel_rfl, hc_res, (sizeP_of (k := 4) (by kernel_rfl) (by kernel_rfl)), .inl ⟨by kernel_rfl, rfl⟩, trivial⟩) ⟨res, rfl, h⟩
 · rintro e w' ⟨v, rfl, r0, rfl, h⟩; exact ⟨r0, rfl, h⟩

/-! ### (towpath/towpathref02.Reader).Var (function 181) -/
def c181_0 := cb_ Tryz.f181
def c181_1 := cl_ c181_0
def r181_1 := co_ c181_1
def c181_3 := cr_ c181_0
def c181_4 := cl_ c181_3
def c181_5 := cl_ c181_4
def r181_5 := co_ c181_5
def c181_7 := cr_ c181_4
def c181_8 := cl_ c181_7
def c181_9 := cl_ c181_8
def r181_9 := co_ c181_9
def c181_11 := cr_ c181_8
def c181_12 := cr_ c181_7
def c181_13 := cr_ c181_3
def c181_16 := cr_ c181_13
def c181_19 := cr_ c181_16
def c181_22 := cr_ c181_19
def c181_23 := cl_ c181_22
def c181_24 := cl_ c181_23
def c181_25 := cl_ c181_24
def c181_26 := cl_ c181_25
def c181_27 := cl_ c181_26
def c181_28 := cl_ c181_27
def r181_28 := co_ c181_28
def c181_30 := cr_ c181_27
def c181_31 := cl_ c181_30
def c181_32 := cl_ c181_31
def r181_32 := co_ c181_32
def c181_34 := cr_ c181_31
def c181_35 := cr_ c181_30
def c181_36 := cr_ c181_26
def c181_37 := cl_ c181_36
def r181_37 := co_ c181_37
def c181_39 := cr_ c181_36
def c181_40 := cl_ c181_39
def c181_43 := cr_ c181_40
def c181_44 := cl_ c181_43
def c181_45 := cl_ c181_44
def r181_45 := co_ c181_45
def c181_47 := cr_ c181_44
def c181_48 := cr_ c181_43
def c181_49 := cr_ c181_39
def c181_52 := cr_ c181_49
def c181_55 := cr_ c181_52
def c181_58 := cr_ c181_55
def c181_59 := cl_ c181_58
def c181_60 := cl_ c181_59
def r181_60 := co_ c181_60
def c181_62 := cr_ c181_59
def c181_63 := cl_ c181_62
def r181_63 := co_ c181_63
def c181_65 := cr_ c181_62
def c181_66 := cr_ c181_58
def c181_67 := cr_ c181_24
def r181_67 := co_ c181_67

theorem S_towpathref02_Reader_Var {r : T_towpathref02_Reader} {w : World} {R : T_towpathref02_Reader → Int → World → Prop} (h : F_towpathref02_Reader_Var r R w) : C_towpathref02_Reader_Var r w R := by
 unfold F_towpathref02_Reader_Var at h
 unfold C_towpathref02_Reader_Var
 refine Calls.mono (calls_of_wpE (args := [Value.agg #[Value.bool r.Gone, sv_ r.B, Value.int .i64 r.At, Value.int .i64 r.Code]]) (R := fun v w' => ∃ (r0 : T_towpathref02_Reader) (r1 : Int), v = Value.tuple #[Value.agg #[Value.bool r0.Gone, sv_ r0.B, Value.int .i64 r0.At, Value.int .i64 r0.Code], Value.int .u64 r1] ∧ R r0 r1 w') Tryz.func181 (c := c181_0) (by kernel_rfl) 66 (by kernel_rfl) (by kernel_rfl) [(0, Value.agg #[Value.bool r.Gone, sv_ r.B, Value.int .i64 r.At, Value.int .i64 r.Code])] (by kernel_rfl) ?_) ?_
 · refine Zt r181_1 c181_3 ?_
   refine Zn [] 0 [(0, [], .agg #[.bool r.Gone, sv_ r.B, .int .i64 r.At, .int .i64 r.Code])] ?_
   refine Zw (some 1) (fun bb => pv_ bb) (Obj.cells ([.bool r.Gone, sv_ r.B, .int .i64 r.At, .int .i64 r.Code]).toArray ty_towpathref02_Reader (0, 0)) (fun b_ w1 hb hw => ?_)
   replace h := h b_ w1 hb hw
   clear hb hw
   refine Zn [] 1 [(1, [], pv_ b_)] ?_
   refine Zw (some 2) (fun bb => pv_ bb) (Obj.cells ([.bool false, .slice none 0 0, .int .i64 0, .int .i64 0]).toArray ty_towpathref02_Reader (0, 0)) (fun b_1 w2 hb hw => ?_)
   replace h := h b_1 w2 hb hw
   clear hb hw
   refine Zf P1 [(1, pv_ b_), (2, pv_ b_1)] ?_
   change WpE _ _ c181_3 _ _ _
   refine Zs c181_4 c181_13 ?_
   refine Zt r181_5 c181_7 ?_
   refine Zn [] 0 [(1, [], pv_ b_), (2, [], pv_ b_1)] ?_
   obtain ⟨v8, hc, h⟩ := h
   refine reg_loadN (t := 130) (a := (Operand.tmp 1)) (b := b_) (o := 0) (ty := 130) (dst := some 8) [Value.bool v8.Gone, sv_ v8.B, Value.int .i64 v8.At, Value.int .i64 v8.Code] (by kernel_rfl) (by kernel_rfl) (by kernel_rfl) (k := 4) (by kernel_rfl) (by kernel_rfl) hc ?_
   refine Zn [] 1 [(1, [], pv_ b_), (2, [], pv_ b_1), (8, [], .agg #[.bool v8.Gone, sv_ v8.B, .int .i64 v8.At, .int .i64 v8.Code])] ?_
   refine Zm 179 #[.agg #[.bool v8.Gone, sv_ v8.B, .int .i64 v8.At, .int .i64 v8.Code]] (some 9) (Calls.mono h ?_)
   rintro _ w3 ⟨v9, rfl, h⟩
   refine ⟨_, rfl, ?_⟩
   refine Ze [(1, pv_ b_), (2, pv_ b_1), (9, .bool v9)] ?_
   change WpE _ _ c181_7 _ _ _
   refine Zc 9 v9 c181_8 c181_12 (fun hb => ?_) (fun hb => ?_)
   · replace h := h.1 hb
     refine Zt r181_9 c181_11 ?_
     refine Zn [] 0 [(1, [], pv_ b_), (2, [], pv_ b_1)] ?_
     obtain ⟨v10, hc, h⟩ := h
     refine reg_loadN (t := 130) (a := (Operand.tmp 1)) (b := b_) (o := 0) (ty := 130) (dst := some 10) [Value.bool v10.Gone, sv_ v10.B, Value.int .i64 v10.At, Value.int .i64 v10.Code] (by kernel_rfl) (by kernel_rfl) (by kernel_rfl) (k := 4) (by kernel_rfl) (by kernel_rfl) hc ?_
     refine Zn [] 1 [(2, [], pv_ b_1), (10, [], .agg #[.bool v10.Gone, sv_ v10.B, .int .i64 v10.At, .int .i64 v10.Code])] ?_
     obtain ⟨hc, h⟩ := h
     refine Zo 130 2 10 b_1 0 4 [.bool v10.Gone, sv_ v10.B, .int .i64 v10.At, .int .i64 v10.Code] hc (fun w4 hw => ?_)
     replace h := h w4 hw
     clear hw
     refine Zf P1 [(2, pv_ b_1), (3, .int .u64 0)] ?_
     change WpE _ _ c181_11 _ _ _
     refine wpE_ret (by kernel_rfl) ?_
     obtain ⟨res, hc_res, h⟩ := h
     repeat (first | refine seqQ_ret ?_ | refine blockQ_ret ?_ | refine loopQ_ret ?_ | refine cutQ_ret ?_)
     exact retT (rs := [(ResultVar.cell 2 130), (ResultVar.tmp 3)]) (vs := [Value.agg #[Value.bool res.Gone, sv_ res.B, Value.int .i64 res.At, Value.int .i64 res.Code], Value.int .u64 0]) (by kernel_rfl) (⟨b_1, 0, [Value.bool res.Gone, sv_ res.B, Value.int .i64 res.At, Value.int .i64 res.Code], by kernel_rfl, hc_res, (sizeP_of (k := 4) (by kernel_rfl) (by kernel_rfl)), .inl ⟨by kernel_rfl, rfl⟩, ⟨by kernel_rfl, trivial⟩⟩) (by kernel_rfl) ⟨res, 0, rfl, h⟩
   · replace h := h.2 hb
     refine wpE_skip (by kernel_rfl) ?_
     change WpE _ _ c181_13 _ _ _
     refine Zp c181_16 P1 [(1, pv_ b_), (2, pv_ b_1), (4, .int .u64 0)] ?_
     refine Zp c181_19 P1 [(1, pv_ b_), (2, pv_ b_1), (4, .int .u64 0), (5, .int .u64 1)] ?_
     refine Zp c181_22 P1 [(1, pv_ b_), (2, pv_ b_1), (4, .int .u64 0), (5, .int .u64 1), (6, .int .i64 0)] ?_
     refine Zb 0 c181_23 ?_
     obtain ⟨I, μ, h0, hr⟩ := h
     refine wpE_loop (x := c181_24) (by kernel_rfl) (fun m l w => ∃ (n_ : Int) (f : Int) (i : Int), l = [(1, pv_ b_), (2, pv_ b_1), (4, Value.int .u64 n_), (5, Value.int .u64 f), (6, Value.int .i64 i)] ∧ I n_ f i w ∧ μ n_ f i w = m) (l' := [(1, pv_ b_), (2, pv_ b_1), (4, Value.int .u64 0), (5, Value.int .u64 1), (6, Value.int .i64 0)]) (Sub.mk (by kernel_rfl)) ⟨0, 1, 0, rfl, h0, rfl⟩ ?_
     rintro _ _ w5 ⟨n_, f, i, rfl, hI, rfl⟩
     obtain ⟨again_, again__h, h⟩ : ∃ again_ : Int → Int → Int → World → Prop, (∀ n_' f' i' w', again_ n_' f' i' w' → I n_' f' i' w' ∧ μ n_' f' i' w' < μ n_ f i w5) ∧ F_towpathref02_Reader_Var_L0 R b_ b_1 again_ n_ f i w5 := ⟨_, fun _ _ _ _ h => h, hr n_ f i w5 hI⟩
     clear h0 hI
     unfold F_towpathref02_Reader_Var_L0 at h
     refine Zs c181_25 c181_67 ?_
     refine Zb 1 c181_26 ?_
     refine Zs c181_27 c181_36 ?_
     refine Zt r181_28 c181_30 ?_
     refine Zn P1 1 [(1, [], pv_ b_), (2, [], pv_ b_1), (4, [], .int .u64 n_), (5, [], .int .u64 f), (6, [], .int .i64 i), (13, [], .pointer (some ⟨b_, 2, none⟩))] ?_
     obtain ⟨v14, hc, h⟩ := h
     refine Zl 3 13 b_ 2 3 14 hc ?_
     refine Zn P3 5 [(1, [], pv_ b_), (2, [], pv_ b_1), (4, [], .int .u64 n_), (5, [], .int .u64 f), (6, [], .int .i64 i), (16, [], .int .i64 (IntKind.i64.wrap (v14 + i))), (17, [], .pointer (some ⟨b_, 1, none⟩))] ?_
     obtain ⟨v18, hc, h⟩ := h
     refine Zl 79 17 b_ 1 79 18 hc ?_
     refine Zf P2 [(1, pv_ b_), (2, pv_ b_1), (4, .int .u64 n_), (5, .int .u64 f), (6, .int .i64 i), (20, .bool (decide ((IntKind.i64.wrap (v14 + i)) ≥ ((v18.len : Nat) : Int))))] ?_
     change WpE _ _ c181_30 _ _ _
     refine Zc 20 (decide ((IntKind.i64.wrap (v14 + i)) ≥ ((v18.len : Nat) : Int))) c181_31 c181_35 (fun hb => ?_) (fun hb => ?_)
     · replace h := h.1 hb
       refine Zt r181_32 c181_34 ?_
       refine Zn [] 0 [(1, [], pv_ b_), (2, [], pv_ b_1)] ?_
       obtain ⟨v21, hc, h⟩ := h
       refine reg_loadN (t := 130) (a := (Operand.tmp 1)) (b := b_) (o := 0) (ty := 130) (dst := some 21) [Value.bool v21.Gone, sv_ v21.B, Value.int .i64 v21.At, Value.int .i64 v21.Code] (by kernel_rfl) (by kernel_rfl) (by kernel_rfl) (k := 4) (by kernel_rfl) (by kernel_rfl) hc ?_
       refine Zn [] 1 [(2, [], pv_ b_1), (21, [], .agg #[.bool v21.Gone, sv_ v21.B, .int .i64 v21.At, .int .i64 v21.Code])] ?_
       refine Zm 180 #[.agg #[.bool v21.Gone, sv_ v21.B, .int .i64 v21.At, .int .i64 v21.Code], .int .i64 5] (some 22) (Calls.mono h ?_)
       rintro _ w6 ⟨v22, rfl, h⟩
       refine ⟨_, rfl, ?_⟩
       refine Zn [] 2 [(2, [], pv_ b_1), (22, [], .agg #[.bool v22.Gone, sv_ v22.B, .int .i64 v22.At, .int .i64 v22.Code])] ?_
       obtain ⟨hc, h⟩ := h
       refine Zo 130 2 22 b_1 0 4 [.bool v22.Gone, sv_ v22.B, .int .i64 v22.At, .int .i64 v22.Code] hc (fun w7 hw => ?_)
       replace h := h w7 hw
       clear hw
       refine Zf P1 [(2, pv_ b_1), (3, .int .u64 0)] ?_
       change WpE _ _ c181_34 _ _ _
       refine wpE_ret (by kernel_rfl) ?_
       obtain ⟨res1, hc_res1, h⟩ := h
       repeat (first | refine seqQ_ret ?_ | refine blockQ_ret ?_ | refine loopQ_ret ?_ | refine cutQ_ret ?_)
       exact retT (rs := [(ResultVar.cell 2 130), (ResultVar.tmp 3)]) (vs := [Value.agg #[Value.bool res1.Gone, sv_ res1.B, Value.int .i64 res1.At, Value.int .i64 res1.Code], Value.int .u64 0]) (by kernel_rfl) (⟨b_1, 0, [Value.bool res1.Gone, sv_ res1.B, Value.int .i64 res1.At, Value.int .i64 res1.Code], by kernel_rfl, hc_res1, (sizeP_of (k := 4) (by kernel_rfl) (by kernel_rfl)), .inl ⟨by kernel_rfl, rfl⟩, ⟨by kernel_rfl, trivial⟩⟩) (by kernel_rfl) ⟨res1, 0, rfl, h⟩
     · replace h := h.2 hb
       refine wpE_skip (by kernel_rfl) ?_
       change WpE _ _ c181_36 _ _ _
       refine Zt r181_37 c181_39 ?_
       refine Zn P1 1 [(1, [], pv_ b_), (2, [], pv_ b_1), (4, [], .int .u64 n_), (5, [], .int .u64 f), (6, [], .int .i64 i), (23, [], .pointer (some ⟨b_, 1, none⟩))] ?_
       obtain ⟨v24, hc, h⟩ := h
       refine Zl 79 23 b_ 1 79 24 hc ?_
       refine Zn P1 3 [(1, [], pv_ b_), (2, [], pv_ b_1), (4, [], .int .u64 n_), (5, [], .int .u64 f), (6, [], .int .i64 i), (24, [], sv_ v24), (25, [], .pointer (some ⟨b_, 2, none⟩))] ?_
       obtain ⟨v26, hc, h⟩ := h
       refine Zl 3 25 b_ 2 3 26 hc ?_
       refine Zn P2 6 [(1, [], pv_ b_), (2, [], pv_ b_1), (4, [], .int .u64 n_), (5, [], .int .u64 f), (6, [], .int .i64 i), (24, [], sv_ v24), (28, [], .int .i64 (IntKind.i64.wrap (v26 + i)))] ?_
       obtain ⟨hp_3, h⟩ := h
       refine Zv (fun pp => [(1, [], pv_ b_), (2, [], pv_ b_1), (4, [], .int .u64 n_), (5, [], .int .u64 f), (6, [], .int .i64 i), (24, [], .slice pp v24.len v24.cap), (28, [], .int .i64 (IntKind.i64.wrap (v26 + i)))]) hp_3 ?_
       obtain ⟨h0, h1, h⟩ := h
       refine Zi 79 5 24 28 (pblk v24.ptr) (poff v24.ptr) v24.len v24.cap (IntKind.i64.wrap (v26 + i)) 29 0 h0 h1 ?_
       refine Zn [] 7 [(1, [], pv_ b_), (2, [], pv_ b_1), (4, [], .int .u64 n_), (5, [], .int .u64 f), (6, [], .int .i64 i), (29, [], .pointer (some ⟨(pblk v24.ptr), (poff v24.ptr) + (IntKind.i64.wrap (v26 + i)).toNat, none⟩))] ?_
       obtain ⟨c, hc, h⟩ := h
       refine Zl 5 29 (pblk v24.ptr) ((poff v24.ptr) + (IntKind.i64.wrap (v26 + i)).toNat) 5 30 hc ?_
       refine Zf P1 [(1, pv_ b_), (2, pv_ b_1), (4, .int .u64 n_), (5, .int .u64 f), (6, .int .i64 i), (7, .int .u8 c)] ?_
       change WpE _ _ c181_39 _ _ _
       refine Zs c181_40 c181_49 ?_
       refine Zp c181_43 [.plain, .plain, .plain, .plain, .plain, .pick, .plain, .plain, .plain, .plain, .plain, .plain, .pick, .pick] [(1, pv_ b_), (2, pv_ b_1), (4, .int .u64 n_), (5, .int .u64 f), (6, .int .i64 i), (7, .int .u8 c), (44, .bool (((i == 9) && (decide (c > 1))) || ((decide (i > 0)) && (c == 0))))] ?_
       refine Zc 44 (((i == 9) && (decide (c > 1))) || ((decide (i > 0)) && (c == 0))) c181_44 c181_48 (fun hb => ?_) (fun hb => ?_)
       · replace h := h.1 hb
         refine Zt r181_45 c181_47 ?_
         refine Zn [] 0 [(1, [], pv_ b_), (2, [], pv_ b_1)] ?_
         obtain ⟨v45, hc, h⟩ := h
         refine reg_loadN (t := 130) (a := (Operand.tmp 1)) (b := b_) (o := 0) (ty := 130) (dst := some 45) [Value.bool v45.Gone, sv_ v45.B, Value.int .i64 v45.At, Value.int .i64 v45.Code] (by kernel_rfl) (by kernel_rfl) (by kernel_rfl) (k := 4) (by kernel_rfl) (by kernel_rfl) hc ?_
         refine Zn [] 1 [(2, [], pv_ b_1), (45, [], .agg #[.bool v45.Gone, sv_ v45.B, .int .i64 v45.At, .int .i64 v45.Code])] ?_
         refine Zm 180 #[.agg #[.bool v45.Gone, sv_ v45.B, .int .i64 v45.At, .int .i64 v45.Code], .int .i64 4] (some 46) (Calls.mono h ?_)
         rintro _ w8 ⟨v46, rfl, h⟩
         refine ⟨_, rfl, ?_⟩
         refine Zn [] 2 [(2, [], pv_ b_1), (46, [], .agg #[.bool v46.Gone, sv_ v46.B, .int .i64 v46.At, .int .i64 v46.Code])] ?_
         obtain ⟨hc, h⟩ := h
         refine Zo 130 2 46 b_1 0 4 [.bool v46.Gone, sv_ v46.B, .int .i64 v46.At, .int .i64 v46.Code] hc (fun w9 hw => ?_)
         replace h := h w9 hw
         clear hw
         refine Zf P1 [(2, pv_ b_1), (3, .int .u64 0)] ?_
         change WpE _ _ c181_47 _ _ _
         refine wpE_ret (by kernel_rfl) ?_
         obtain ⟨res2, hc_res2, h⟩ := h
         repeat (first | refine seqQ_ret ?_ | refine blockQ_ret ?_ | refine loopQ_ret ?_ | refine cutQ_ret ?_)
         exact retT (rs := [(ResultVar.cell 2 130), (ResultVar.tmp 3)]) (vs := [Value.agg #[Value.bool res2.Gone, sv_ res2.B, Value.int .i64 res2.At, Value.int .i64 res2.Code], Value.int .u64 0]) (by kernel_rfl) (⟨b_1, 0, [Value.bool res2.Gone, sv_ res2.B, Value.int .i64 res2.At, Value.int .i64 res2.Code], by kernel_rfl, hc_res2, (sizeP_of (k := 4) (by kernel_rfl) (by kernel_rfl)), .inl ⟨by kernel_rfl, rfl⟩, ⟨by kernel_rfl, trivial⟩⟩) (by kernel_rfl) ⟨res2, 0, rfl, h⟩
       · replace h := h.2 hb
         refine wpE_skip (by kernel_rfl) ?_
         change WpE _ _ c181_49 _ _ _
         refine Zp c181_52 (Pl 8) [(1, pv_ b_), (2, pv_ b_1), (4, .int .u64 (IntKind.u64.wrap (n_ + (IntKind.u64.wrap (f * (IntKind.u64.wrap (Int.tmod c 128))))))), (5, .int .u64 f), (6, .int .i64 i), (7, .int .u8 c)] ?_
         refine Zp c181_55 P3 [(1, pv_ b_), (2, pv_ b_1), (4, .int .u64 (IntKind.u64.wrap (n_ + (IntKind.u64.wrap (f * (IntKind.u64.wrap (Int.tmod c 128))))))), (5, .int .u64 (IntKind.u64.wrap (128 * f))), (6, .int .i64 i), (7, .int .u8 c)] ?_
         refine Zp c181_58 P2 [(1, pv_ b_), (2, pv_ b_1), (4, .int .u64 (IntKind.u64.wrap (n_ + (IntKind.u64.wrap (f * (IntKind.u64.wrap (Int.tmod c 128))))))), (5, .int .u64 (IntKind.u64.wrap (128 * f))), (6, .int .i64 i), (57, .bool (decide (c < 128)))] ?_
         refine Zc 57 (decide (c < 128)) c181_59 c181_66 (fun hb => ?_) (fun hb => ?_)
         · replace h := h.1 hb
           refine Zt r181_60 c181_62 ?_
           refine Zn P1 1 [(1, [], pv_ b_), (2, [], pv_ b_1), (4, [], .int .u64 (IntKind.u64.wrap (n_ + (IntKind.u64.wrap (f * (IntKind.u64.wrap (Int.tmod c 128))))))), (6, [], .int .i64 i), (58, [], .pointer (some ⟨b_, 2, none⟩))] ?_
           obtain ⟨v59, hc, h⟩ := h
           refine Zl 3 58 b_ 2 3 59 hc ?_
           refine Zn P4 6 [(1, [], pv_ b_), (2, [], pv_ b_1), (4, [], .int .u64 (IntKind.u64.wrap (n_ + (IntKind.u64.wrap (f * (IntKind.u64.wrap (Int.tmod c 128))))))), (62, [], .int .i64 (IntKind.i64.wrap ((IntKind.i64.wrap (v59 + i)) + 1))), (63, [], .pointer (some ⟨b_, 2, none⟩))] ?_
           obtain ⟨hc, h⟩ := h
           refine Zo 3 63 62 b_ 2 1 [.int .i64 (IntKind.i64.wrap ((IntKind.i64.wrap (v59 + i)) + 1))] hc (fun w10 hw => ?_)
           replace h := h w10 hw
           clear hw
           refine Ze [(1, pv_ b_), (2, pv_ b_1), (4, .int .u64 (IntKind.u64.wrap (n_ + (IntKind.u64.wrap (f * (IntKind.u64.wrap (Int.tmod c 128)))))))] ?_
           change WpE _ _ c181_62 _ _ _
           refine Zt r181_63 c181_65 ?_
           refine Zn [] 0 [(1, [], pv_ b_), (2, [], pv_ b_1), (4, [], .int .u64 (IntKind.u64.wrap (n_ + (IntKind.u64.wrap (f * (IntKind.u64.wrap (Int.tmod c 128)))))))] ?_
           obtain ⟨v64, hc, h⟩ := h
           refine reg_loadN (t := 130) (a := (Operand.tmp 1)) (b := b_) (o := 0) (ty := 130) (dst := some 64) [Value.bool v64.Gone, sv_ v64.B, Value.int .i64 v64.At, Value.int .i64 v64.Code] (by kernel_rfl) (by kernel_rfl) (by kernel_rfl) (k := 4) (by kernel_rfl) (by kernel_rfl) hc ?_
           refine Zn P1 2 [(2, [], pv_ b_1), (64, [], .agg #[.bool v64.Gone, sv_ v64.B, .int .i64 v64.At, .int .i64 v64.Code]), (65, [], .int .u64 (IntKind.u64.wrap (n_ + (IntKind.u64.wrap (f * (IntKind.u64.wrap (Int.tmod c 128)))))))] ?_
           obtain ⟨hc, h⟩ := h
           refine Zo 130 2 64 b_1 0 4 [.bool v64.Gone, sv_ v64.B, .int .i64 v64.At, .int .i64 v64.Code] hc (fun w11 hw => ?_)
           replace h := h w11 hw
           clear hw
           refine Zf P1 [(2, pv_ b_1), (3, .int .u64 (IntKind.u64.wrap (n_ + (IntKind.u64.wrap (f * (IntKind.u64.wrap (Int.tmod c 128)))))))] ?_
           change WpE _ _ c181_65 _ _ _
           refine wpE_ret (by kernel_rfl) ?_
           obtain ⟨res3, hc_res3, h⟩ := h
           repeat (first | refine seqQ_ret ?_ | refine blockQ_ret ?_ | refine loopQ_ret ?_ | refine cutQ_ret ?_)
           exact retT (rs := [(ResultVar.cell 2 130), (ResultVar.tmp 3)]) (vs := [Value.agg #[Value.bool res3.Gone, sv_ res3.B, Value.int .i64 res3.At, Value.int .i64 res3.Code], Value.int .u64 (IntKind.u64.wrap (n_ + (IntKind.u64.wrap (f * (IntKind.u64.wrap (Int.tmod c 128))))))]) (by kernel_rfl) (⟨b_1, 0, [Value.bool res3.Gone, sv_ res3.B, Value.int .i64 res3.At, Value.int .i64 res3.Code], by kernel_rfl, hc_res3, (sizeP_of (k := 4) (by kernel_rfl) (by kernel_rfl)), .inl ⟨by kernel_rfl, rfl⟩, ⟨by kernel_rfl, trivial⟩⟩) (by kernel_rfl) ⟨res3, (IntKind.u64.wrap (n_ + (IntKind.u64.wrap (f * (IntKind.u64.wrap (Int.tmod c 128)))))), rfl, h⟩
         · replace h := h.2 hb
           refine wpE_skip (by kernel_rfl) ?_
           change WpE _ _ c181_67 _ _ _
           refine Zr r181_67 ?_
           refine Zf P3 [(1, pv_ b_), (2, pv_ b_1), (4, .int .u64 (IntKind.u64.wrap (n_ + (IntKind.u64.wrap (f * (IntKind.u64.wrap (Int.tmod c 128))))))), (5, .int .u64 (IntKind.u64.wrap (128 * f))), (6, .int .i64 (IntKind.i64.wrap (i + 1)))] ?_
           have hb_ := again__h _ _ _ _ h
           exact ⟨_, hb_.2, [(1, pv_ b_), (2, pv_ b_1), (4, Value.int .u64 (IntKind.u64.wrap (n_ + (IntKind.u64.wrap (f * (IntKind.u64.wrap (Int.tmod c 128))))))), (5, Value.int .u64 (IntKind.u64.wrap (128 * f))), (6, Value.int .i64 (IntKind.i64.wrap (i + 1)))], Sub.mk (by kernel_rfl), (IntKind.u64.wrap (n_ + (IntKind.u64.wrap (f * (IntKind.u64.wrap (Int.tmod c 128)))))), (IntKind.u64.wrap (128 * f)), (IntKind.i64.wrap (i + 1)), rfl, hb_.1, rfl⟩
 · rintro e w' ⟨v, rfl, r0, r1, rfl, h⟩; exact ⟨r0, r1, rfl, h⟩
end
end Go.Proofs.YtpdegdnigcnjiaaGreatDoor
