/- WRITTEN BY PROGRAM (dec.py): for each Go function the clean formula F, the call's contract C, and the proof S that F gives C. -/
import Derived.Test.YtpedclhflmhakaaRows
import Derived.Test.YtpedclhflmhakaaGF
namespace Go.Proofs.Ytpedclhflmhakaa
open Go
set_option linter.unusedVariables false
set_option maxRecDepth 100000
set_option maxHeartbeats 4000000
noncomputable section

/-! ### (*towpath/call.Task).Answer (function 61) -/
def c61_0 := cb_ Try.f61
def c61_1 := cl_ c61_0
def r61_1 := co_ c61_1
def c61_3 := cr_ c61_0
def c61_4 := cl_ c61_3
def c61_5 := cl_ c61_4
def c61_6 := cl_ c61_5
def r61_6 := co_ c61_6
def c61_8 := cr_ c61_5
def c61_9 := cl_ c61_8
def c61_10 := cl_ c61_9
def r61_10 := co_ c61_10
def c61_12 := cr_ c61_9
def c61_13 := cr_ c61_8
def c61_14 := cl_ c61_13
def r61_14 := co_ c61_14
def c61_16 := cr_ c61_13
def c61_17 := cl_ c61_16
def c61_18 := cl_ c61_17
def r61_18 := co_ c61_18
def c61_20 := cr_ c61_17
def c61_21 := cr_ c61_16
def c61_22 := cr_ c61_3
def c61_23 := cl_ c61_22
def r61_23 := co_ c61_23
def c61_25 := cr_ c61_22
def c61_28 := cr_ c61_25
def c61_29 := cl_ c61_28
def c61_30 := cl_ c61_29
def r61_30 := co_ c61_30
def c61_32 := cr_ c61_29
def c61_33 := cl_ c61_32
def c61_34 := cl_ c61_33
def c61_37 := cr_ c61_34
def c61_38 := cl_ c61_37
def c61_39 := cl_ c61_38
def c61_40 := cr_ c61_38
def c61_41 := cr_ c61_37
def c61_42 := cl_ c61_41
def c61_43 := cl_ c61_42
def c61_44 := cl_ c61_43
def r61_44 := co_ c61_44
def c61_46 := cr_ c61_43
def c61_47 := cl_ c61_46
def r61_47 := co_ c61_47
def c61_49 := cr_ c61_46
def c61_50 := cl_ c61_49
def c61_53 := cr_ c61_50
def c61_54 := cl_ c61_53
def c61_55 := cl_ c61_54
def r61_55 := co_ c61_55
def c61_57 := cr_ c61_54
def c61_58 := cl_ c61_57
def r61_58 := co_ c61_58
def c61_60 := cr_ c61_57
def c61_61 := cl_ c61_60
def r61_61 := co_ c61_61
def c61_63 := cr_ c61_60
def c61_64 := cr_ c61_53
def c61_67 := cr_ c61_64
def c61_68 := cl_ c61_67
def r61_68 := co_ c61_68
def c61_70 := cr_ c61_67
def c61_73 := cr_ c61_70
def c61_74 := cl_ c61_73
def r61_74 := co_ c61_74
def c61_76 := cr_ c61_73
def c61_79 := cr_ c61_76
def c61_80 := cl_ c61_79
def c61_81 := cl_ c61_80
def r61_81 := co_ c61_81
def c61_83 := cr_ c61_80
def c61_84 := cl_ c61_83
def c61_85 := cl_ c61_84
def c61_88 := cr_ c61_85
def c61_89 := cl_ c61_88
def c61_90 := cl_ c61_89
def c61_91 := cr_ c61_89
def c61_92 := cr_ c61_88
def c61_93 := cl_ c61_92
def c61_94 := cl_ c61_93
def c61_95 := cl_ c61_94
def r61_95 := co_ c61_95
def c61_97 := cr_ c61_94
def r61_97 := co_ c61_97
def c61_99 := cr_ c61_92
def r61_99 := co_ c61_99
def c61_101 := cr_ c61_79
def c61_102 := cr_ c61_41
def r61_102 := co_ c61_102
def c61_104 := cr_ c61_28
def c61_105 := cl_ c61_104
def r61_105 := co_ c61_105
def c61_107 := cr_ c61_104
def c61_108 := cl_ c61_107
def r61_108 := co_ c61_108
def c61_110 := cr_ c61_107
def o_call_Task_Answer_97 : List Nat := [0, 1, 2, 3, 4, 5, 6, 7, 8, 9]

theorem S_call_Task_Answer {t_ : Option Addr} {w : World} {R : T_api_Answer → Slc → Int → World → Prop} (h : F_call_Task_Answer t_ R w) : C_call_Task_Answer t_ w R := by
 unfold F_call_Task_Answer at h
 unfold C_call_Task_Answer
 refine Calls.mono (calls_of_wpE (args := [Value.pointer t_]) (R := fun v w' => ∃ (r0 : T_api_Answer) (r1 : Slc) (r2 : Int), v = Value.tuple #[Value.agg #[Value.int .i64 r0.Code, Value.int .i64 r0.Mark, Value.bool r0.OK, sv_ r0.Entries, Value.int .i64 r0.Count], sv_ r1, Value.int .i64 r2] ∧ R r0 r1 r2 w') Try.func61 (c := c61_0) (by kernel_rfl) 95 (by kernel_rfl) (by kernel_rfl) [(0, Value.pointer t_)] (by kernel_rfl) ?_) ?_
 · refine Zt r61_1 c61_3 ?_
   refine Zn [] 0 [(0, [], .pointer t_)] ?_
   refine Zw (some 2) (fun bb => pv_ bb) (Obj.cells ([.int .i64 0, .int .i64 0, .bool false, .slice none 0 0, .int .i64 0]).toArray ty_api_Answer (0, 0)) (fun b_ w1 hb hw => ?_)
   replace h := h b_ w1 hb hw
   clear hb hw
   refine Zf P2 [(0, .pointer t_), (2, pv_ b_)] ?_
   change WpE _ _ c61_3 _ _ _
   refine Zs c61_4 c61_22 ?_
   refine Zb 0 c61_5 ?_
   refine Zt r61_6 c61_8 ?_
   refine Zn P1 1 [(0, [], .pointer t_), (2, [], pv_ b_), (12, [], .pointer t_)] ?_
   refine Zm 63 #[.pointer t_] (some 13) (Calls.mono h ?_)
   rintro _ w2 ⟨v13, rfl, h⟩
   refine ⟨_, rfl, ?_⟩
   refine Zf P2 [(0, .pointer t_), (2, pv_ b_), (11, .bool (!v13))] ?_
   change WpE _ _ c61_8 _ _ _
   refine Zc 11 (!v13) c61_9 c61_13 (fun hb => ?_) (fun hb => ?_)
   · replace h := h.1 hb
     refine Zt r61_10 c61_12 ?_
     refine Zn P1 1 [(2, [], pv_ b_), (15, [], .agg #[.int .i64 0, .int .i64 0, .bool false, .slice none 0 0, .int .i64 0])] ?_
     obtain ⟨hc, h⟩ := h
     refine Zo 125 2 15 b_ 0 5 [.int .i64 0, .int .i64 0, .bool false, .slice none 0 0, .int .i64 0] hc (fun w3 hw => ?_)
     replace h := h w3 hw
     clear hw
     refine Zf P2 [(2, pv_ b_), (3, .slice none 0 0), (4, .int .i64 2)] ?_
     change WpE _ _ c61_12 _ _ _
     refine wpE_ret (by kernel_rfl) ?_
     obtain ⟨res, hc_res, h⟩ := h
     repeat (first | refine seqQ_ret ?_ | refine blockQ_ret ?_ | refine loopQ_ret ?_ | refine cutQ_ret ?_)
     exact retT (rs := [(ResultVar.cell 2 125), (ResultVar.tmp 3), (ResultVar.tmp 4)]) (vs := [Value.agg #[Value.int .i64 res.Code, Value.int .i64 res.Mark, Value.bool res.OK, sv_ res.Entries, Value.int .i64 res.Count], Value.slice none 0 0, Value.int .i64 2]) (by kernel_rfl) (⟨b_, 0, [Value.int .i64 res.Code, Value.int .i64 res.Mark, Value.bool res.OK, sv_ res.Entries, Value.int .i64 res.Count], by kernel_rfl, hc_res, (sizeP_of (k := 5) (by kernel_rfl) (by kernel_rfl)), .inl ⟨by kernel_rfl, rfl⟩, ⟨by kernel_rfl, ⟨by kernel_rfl, trivial⟩⟩⟩) (by kernel_rfl) ⟨res, (Slc.mk none 0 0), 2, rfl, h⟩
   · replace h := h.2 hb
     refine Zt r61_14 c61_16 ?_
     refine Zn P1 1 [(0, [], .pointer t_), (2, [], pv_ b_), (17, [], .pointer t_)] ?_
     refine Zm 35 #[.pointer t_] (some 18) (Calls.mono h ?_)
     rintro _ w4 ⟨v18, rfl, h⟩
     refine ⟨_, rfl, ?_⟩
     refine Zf P2 [(0, .pointer t_), (2, pv_ b_), (16, .bool (!v18))] ?_
     change WpE _ _ c61_16 _ _ _
     refine Zc 16 (!v18) c61_17 c61_21 (fun hb => ?_) (fun hb => ?_)
     · replace h := h.1 hb
       refine Zt r61_18 c61_20 ?_
       refine Zn P1 1 [(2, [], pv_ b_), (20, [], .agg #[.int .i64 0, .int .i64 0, .bool false, .slice none 0 0, .int .i64 0])] ?_
       obtain ⟨hc, h⟩ := h
       refine Zo 125 2 20 b_ 0 5 [.int .i64 0, .int .i64 0, .bool false, .slice none 0 0, .int .i64 0] hc (fun w5 hw => ?_)
       replace h := h w5 hw
       clear hw
       refine Zf P2 [(2, pv_ b_), (3, .slice none 0 0), (4, .int .i64 6)] ?_
       change WpE _ _ c61_20 _ _ _
       refine wpE_ret (by kernel_rfl) ?_
       obtain ⟨res1, hc_res1, h⟩ := h
       repeat (first | refine seqQ_ret ?_ | refine blockQ_ret ?_ | refine loopQ_ret ?_ | refine cutQ_ret ?_)
       exact retT (rs := [(ResultVar.cell 2 125), (ResultVar.tmp 3), (ResultVar.tmp 4)]) (vs := [Value.agg #[Value.int .i64 res1.Code, Value.int .i64 res1.Mark, Value.bool res1.OK, sv_ res1.Entries, Value.int .i64 res1.Count], Value.slice none 0 0, Value.int .i64 6]) (by kernel_rfl) (⟨b_, 0, [Value.int .i64 res1.Code, Value.int .i64 res1.Mark, Value.bool res1.OK, sv_ res1.Entries, Value.int .i64 res1.Count], by kernel_rfl, hc_res1, (sizeP_of (k := 5) (by kernel_rfl) (by kernel_rfl)), .inl ⟨by kernel_rfl, rfl⟩, ⟨by kernel_rfl, ⟨by kernel_rfl, trivial⟩⟩⟩) (by kernel_rfl) ⟨res1, (Slc.mk none 0 0), 6, rfl, h⟩
     · replace h := h.2 hb
       refine wpE_skip (by kernel_rfl) ?_
       change WpE _ _ c61_22 _ _ _
       refine Zt r61_23 c61_25 ?_
       refine Zn P1 1 [(0, [], .pointer t_), (2, [], pv_ b_), (21, [], .pointer t_)] ?_
       obtain ⟨hp_1, h⟩ := h
       refine Zv (fun pp => [(0, [], .pointer t_), (2, [], pv_ b_), (21, [], .pointer pp)]) hp_1 ?_
       refine Zn P1 2 [(0, [], .pointer t_), (2, [], pv_ b_), (21, [], .pointer (some ⟨(pblk t_), (poff t_), none⟩)), (22, [], .pointer (some ⟨(pblk t_), (poff t_), none⟩))] ?_
       refine Zn P1 3 [(0, [], .pointer t_), (2, [], pv_ b_), (23, [], .pointer (some ⟨(pblk t_), (poff t_) + 9, none⟩))] ?_
       obtain ⟨v24, hc, h⟩ := h
       refine Zl 3 23 (pblk t_) ((poff t_) + 9) 3 24 hc ?_
       refine Zn P1 5 [(0, [], .pointer t_), (2, [], pv_ b_), (25, [], .agg #[.int .i64 0, .int .i64 v24, .bool true, .slice none 0 0, .int .i64 0])] ?_
       refine Zw (some 5) (fun bb => pv_ bb) (Obj.cells ([.int .i64 0, .int .i64 0, .bool false, .slice none 0 0, .int .i64 0]).toArray ty_api_Answer (0, 0)) (fun b_1 w6 hb hw => ?_)
       replace h := h b_1 w6 hb hw
       clear hb hw
       refine Zn [] 6 [(0, [], .pointer t_), (2, [], pv_ b_), (5, [], pv_ b_1), (25, [], .agg #[.int .i64 0, .int .i64 v24, .bool true, .slice none 0 0, .int .i64 0])] ?_
       obtain ⟨hc, h⟩ := h
       refine Zo 125 5 25 b_1 0 5 [.int .i64 0, .int .i64 v24, .bool true, .slice none 0 0, .int .i64 0] hc (fun w7 hw => ?_)
       replace h := h w7 hw
       clear hw
       refine Ze [(0, .pointer t_), (2, pv_ b_), (5, pv_ b_1)] ?_
       change WpE _ _ c61_25 _ _ _
       refine Zp c61_28 P1 [(0, .pointer t_), (2, pv_ b_), (5, pv_ b_1), (6, .slice none 0 0)] ?_
       refine Zs c61_29 c61_104 ?_
       refine Zt r61_30 c61_32 ?_
       refine Zn P1 1 [(0, [], .pointer t_), (2, [], pv_ b_), (5, [], pv_ b_1), (6, [], .slice none 0 0), (26, [], .pointer t_)] ?_
       obtain ⟨hp_21, h⟩ := h
       refine Zv (fun pp => [(0, [], .pointer t_), (2, [], pv_ b_), (5, [], pv_ b_1), (6, [], .slice none 0 0), (26, [], .pointer pp)]) hp_21 ?_
       refine Zn P1 2 [(0, [], .pointer t_), (2, [], pv_ b_), (5, [], pv_ b_1), (6, [], .slice none 0 0), (26, [], .pointer (some ⟨(pblk t_), (poff t_), none⟩)), (27, [], .pointer (some ⟨(pblk t_), (poff t_), none⟩))] ?_
       refine Zn P1 3 [(0, [], .pointer t_), (2, [], pv_ b_), (5, [], pv_ b_1), (6, [], .slice none 0 0), (28, [], .pointer (some ⟨(pblk t_), (poff t_) + 12, none⟩))] ?_
       obtain ⟨v29, hc, h⟩ := h
       refine Zl 101 28 (pblk t_) ((poff t_) + 12) 101 29 hc ?_
       refine Zf P2 [(0, .pointer t_), (2, pv_ b_), (5, pv_ b_1), (6, .slice none 0 0), (29, sv_ v29), (30, .int .i64 ((v29.len : Nat) : Int)), (31, .int .i64 0)] ?_
       change WpE _ _ c61_32 _ _ _
       refine Zb 1 c61_33 ?_
       obtain ⟨I, μ, h0, hr⟩ := h
       refine wpE_loop (x := c61_34) (by kernel_rfl) (fun m l w => ∃ (held : Slc) (t31 : Int), l = [(0, Value.pointer t_), (2, pv_ b_), (5, pv_ b_1), (6, sv_ held), (29, sv_ v29), (30, Value.int .i64 ((v29.len : Nat) : Int)), (31, Value.int .i64 t31)] ∧ I held t31 w ∧ μ held t31 w = m) (l' := [(0, Value.pointer t_), (2, pv_ b_), (5, pv_ b_1), (6, Value.slice none 0 0), (29, sv_ v29), (30, Value.int .i64 ((v29.len : Nat) : Int)), (31, Value.int .i64 0)]) (Sub.mk (by kernel_rfl)) ⟨(Slc.mk none 0 0), 0, rfl, h0, rfl⟩ ?_
       rintro _ _ w8 ⟨held, t31, rfl, hI, rfl⟩
       obtain ⟨again_, again__h, h⟩ : ∃ again_ : Slc → Int → World → Prop, (∀ held' t31' w', again_ held' t31' w' → I held' t31' w' ∧ μ held' t31' w' < μ held t31 w8) ∧ F_call_Task_Answer_L0 t_ R b_ b_1 v29 again_ held t31 w8 := ⟨_, fun _ _ _ h => h, hr held t31 w8 hI⟩
       clear h0 hI
       unfold F_call_Task_Answer_L0 at h
       refine Zp c61_37 P1 [(0, .pointer t_), (2, pv_ b_), (5, pv_ b_1), (6, sv_ held), (29, sv_ v29), (30, .int .i64 ((v29.len : Nat) : Int)), (31, .int .i64 t31), (32, .bool (decide (t31 < ((v29.len : Nat) : Int))))] ?_
       refine Zs c61_38 c61_41 ?_
       refine Zc 32 (decide (t31 < ((v29.len : Nat) : Int))) c61_39 c61_40 (fun hb => ?_) (fun hb => ?_)
       · replace h := h.1 hb
         refine wpE_skip (by kernel_rfl) ?_
         change WpE _ _ c61_41 _ _ _
         refine wpE_seq_cut (x := c61_42) (y := c61_102) (by kernel_rfl) (fun l w => ∃ (held1 : Slc), l = [(0, Value.pointer t_), (2, pv_ b_), (5, pv_ b_1), (6, sv_ held1), (29, sv_ v29), (30, Value.int .i64 ((v29.len : Nat) : Int)), (31, Value.int .i64 t31)] ∧ F_call_Task_Answer_k1 t31 again_ held1 w) ?_ ?_
         · refine Zb 2 c61_43 ?_
           refine Zt r61_44 c61_46 ?_
           refine Zn [] 0 [(0, [], .pointer t_), (2, [], pv_ b_), (5, [], pv_ b_1), (6, [], sv_ held), (29, [], sv_ v29), (30, [], .int .i64 ((v29.len : Nat) : Int)), (31, [], .int .i64 t31)] ?_
           obtain ⟨hp_31, h⟩ := h
           refine Zv (fun pp => [(0, [], .pointer t_), (2, [], pv_ b_), (5, [], pv_ b_1), (6, [], sv_ held), (29, [], .slice pp v29.len v29.cap), (30, [], .int .i64 ((v29.len : Nat) : Int)), (31, [], .int .i64 t31)]) hp_31 ?_
           obtain ⟨h0, h1, h⟩ := h
           refine Zj 101 95 29 31 (pblk v29.ptr) (poff v29.ptr) v29.len v29.cap t31 5 33 0 h0 h1 ?_
           refine Zn [] 1 [(0, [], .pointer t_), (2, [], pv_ b_), (5, [], pv_ b_1), (6, [], sv_ held), (29, [], .slice (some ⟨(pblk v29.ptr), (poff v29.ptr), none⟩) v29.len v29.cap), (30, [], .int .i64 ((v29.len : Nat) : Int)), (31, [], .int .i64 t31), (33, [], .pointer (some ⟨(pblk v29.ptr), (poff v29.ptr) + t31.toNat * 5, none⟩))] ?_
           obtain ⟨v34, hc, h⟩ := h
           refine reg_loadN (t := 95) (a := (Operand.tmp 33)) (b := (pblk v29.ptr)) (o := ((poff v29.ptr) + t31.toNat * 5)) (ty := 95) (dst := some 34) [Value.int .i64 v34.To, Value.bool v34.OK, sv_ v34.Entries, sv_ v34.Held, Value.int .i64 v34.Count] (by kernel_rfl) (by kernel_rfl) (by kernel_rfl) (k := 5) (by kernel_rfl) (by kernel_rfl) hc ?_
           refine Zn [] 2 [(0, [], .pointer t_), (2, [], pv_ b_), (5, [], pv_ b_1), (6, [], sv_ held), (29, [], .slice (some ⟨(pblk v29.ptr), (poff v29.ptr), none⟩) v29.len v29.cap), (30, [], .int .i64 ((v29.len : Nat) : Int)), (31, [], .int .i64 t31), (34, [], .agg #[.int .i64 v34.To, .bool v34.OK, sv_ v34.Entries, sv_ v34.Held, .int .i64 v34.Count])] ?_
           refine Zw (some 8) (fun bb => pv_ bb) (Obj.cells ([.int .i64 0, .bool false, .slice none 0 0, .slice none 0 0, .int .i64 0]).toArray ty_api_Resp (0, 0)) (fun b_2 w10 hb hw => ?_)
           replace h := h b_2 w10 hb hw
           clear hb hw
           refine Zn [] 3 [(0, [], .pointer t_), (2, [], pv_ b_), (5, [], pv_ b_1), (6, [], sv_ held), (8, [], pv_ b_2), (29, [], .slice (some ⟨(pblk v29.ptr), (poff v29.ptr), none⟩) v29.len v29.cap), (30, [], .int .i64 ((v29.len : Nat) : Int)), (31, [], .int .i64 t31), (34, [], .agg #[.int .i64 v34.To, .bool v34.OK, sv_ v34.Entries, sv_ v34.Held, .int .i64 v34.Count])] ?_
           obtain ⟨hc, h⟩ := h
           refine Zo 95 8 34 b_2 0 5 [.int .i64 v34.To, .bool v34.OK, sv_ v34.Entries, sv_ v34.Held, .int .i64 v34.Count] hc (fun w11 hw => ?_)
           replace h := h w11 hw
           clear hw
           refine Zn [] 4 [(0, [], .pointer t_), (2, [], pv_ b_), (5, [], pv_ b_1), (6, [], sv_ held), (8, [], pv_ b_2), (29, [], .slice (some ⟨(pblk v29.ptr), (poff v29.ptr), none⟩) v29.len v29.cap), (30, [], .int .i64 ((v29.len : Nat) : Int)), (31, [], .int .i64 t31)] ?_
           refine Zv (fun pp => [(0, [], .pointer t_), (2, [], pv_ b_), (5, [], pv_ b_1), (6, [], sv_ held), (8, [], pv_ b_2), (29, [], .slice pp v29.len v29.cap), (30, [], .int .i64 ((v29.len : Nat) : Int)), (31, [], .int .i64 t31)]) hp_31.symm ?_
           refine Ze [(0, .pointer t_), (2, pv_ b_), (5, pv_ b_1), (6, sv_ held), (8, pv_ b_2), (29, sv_ v29), (30, .int .i64 ((v29.len : Nat) : Int)), (31, .int .i64 t31)] ?_
           change WpE _ _ c61_46 _ _ _
           refine Zt r61_47 c61_49 ?_
           refine Zn P1 1 [(0, [], .pointer t_), (2, [], pv_ b_), (5, [], pv_ b_1), (6, [], sv_ held), (8, [], pv_ b_2), (29, [], sv_ v29), (30, [], .int .i64 ((v29.len : Nat) : Int)), (31, [], .int .i64 t31), (35, [], .pointer t_)] ?_
           obtain ⟨hp_33, h⟩ := h
           refine Zv (fun pp => [(0, [], .pointer t_), (2, [], pv_ b_), (5, [], pv_ b_1), (6, [], sv_ held), (8, [], pv_ b_2), (29, [], sv_ v29), (30, [], .int .i64 ((v29.len : Nat) : Int)), (31, [], .int .i64 t31), (35, [], .pointer pp)]) hp_33 ?_
           refine Zn P1 2 [(0, [], .pointer t_), (2, [], pv_ b_), (5, [], pv_ b_1), (6, [], sv_ held), (8, [], pv_ b_2), (29, [], sv_ v29), (30, [], .int .i64 ((v29.len : Nat) : Int)), (31, [], .int .i64 t31), (35, [], .pointer (some ⟨(pblk t_), (poff t_), none⟩)), (36, [], .pointer (some ⟨(pblk t_), (poff t_), none⟩))] ?_
           refine Zn P2 4 [(0, [], .pointer t_), (2, [], pv_ b_), (5, [], pv_ b_1), (6, [], sv_ held), (8, [], pv_ b_2), (29, [], sv_ v29), (30, [], .int .i64 ((v29.len : Nat) : Int)), (31, [], .int .i64 t31), (38, [], .pointer (some ⟨(pblk t_), (poff t_) + 5, none⟩))] ?_
           obtain ⟨v39, hc, h⟩ := h
           refine Zl 63 38 (pblk t_) ((poff t_) + 5) 63 39 hc ?_
           refine Ze [(0, .pointer t_), (2, pv_ b_), (5, pv_ b_1), (6, sv_ held), (8, pv_ b_2), (29, sv_ v29), (30, .int .i64 ((v29.len : Nat) : Int)), (31, .int .i64 t31), (39, .int .u8 v39)] ?_
           change WpE _ _ c61_49 _ _ _
           refine Zb 3 c61_50 ?_
           refine Zp c61_53 P2 [(0, .pointer t_), (2, pv_ b_), (5, pv_ b_1), (6, sv_ held), (8, pv_ b_2), (29, sv_ v29), (30, .int .i64 ((v29.len : Nat) : Int)), (31, .int .i64 t31), (39, .int .u8 v39), (40, .bool (v39 == 1))] ?_
           refine Zc 40 (v39 == 1) c61_54 c61_64 (fun hb => ?_) (fun hb => ?_)
           · replace h := h.1 hb
             refine Zt r61_55 c61_57 ?_
             refine Zn P1 1 [(0, [], .pointer t_), (2, [], pv_ b_), (5, [], pv_ b_1), (6, [], sv_ held), (8, [], pv_ b_2), (29, [], sv_ v29), (30, [], .int .i64 ((v29.len : Nat) : Int)), (31, [], .int .i64 t31), (42, [], .pointer (some ⟨b_2, 2, none⟩))] ?_
             obtain ⟨v43, hc, h⟩ := h
             refine Zl 92 42 b_2 2 92 43 hc ?_
             refine Zn P3 5 [(0, [], .pointer t_), (2, [], pv_ b_), (5, [], pv_ b_1), (6, [], sv_ held), (8, [], pv_ b_2), (29, [], sv_ v29), (30, [], .int .i64 ((v29.len : Nat) : Int)), (31, [], .int .i64 t31), (45, [], .bool (((v43.len : Nat) : Int) == 1)), (46, [], .pointer (some ⟨b_1, 2, none⟩))] ?_
             obtain ⟨hc, h⟩ := h
             refine Zo 4 46 45 b_1 2 1 [.bool (((v43.len : Nat) : Int) == 1)] hc (fun w12 hw => ?_)
             replace h := h w12 hw
             clear hw
             refine Ze [(0, .pointer t_), (2, pv_ b_), (5, pv_ b_1), (6, sv_ held), (8, pv_ b_2), (29, sv_ v29), (30, .int .i64 ((v29.len : Nat) : Int)), (31, .int .i64 t31)] ?_
             change WpE _ _ c61_57 _ _ _
             refine Zt r61_58 c61_60 ?_
             refine Zn P1 1 [(0, [], .pointer t_), (2, [], pv_ b_), (5, [], pv_ b_1), (6, [], sv_ held), (8, [], pv_ b_2), (29, [], sv_ v29), (30, [], .int .i64 ((v29.len : Nat) : Int)), (31, [], .int .i64 t31), (47, [], .pointer (some ⟨b_1, 2, none⟩))] ?_
             obtain ⟨v48, hc, h⟩ := h
             refine Zl 4 47 b_1 2 4 48 hc ?_
             refine Ze [(0, .pointer t_), (2, pv_ b_), (5, pv_ b_1), (6, sv_ held), (8, pv_ b_2), (29, sv_ v29), (30, .int .i64 ((v29.len : Nat) : Int)), (31, .int .i64 t31), (48, .bool v48)] ?_
             change WpE _ _ c61_60 _ _ _
             refine Zc 48 v48 c61_61 c61_63 (fun hb => ?_) (fun hb => ?_)
             · replace h := h.1 hb
               refine Zr r61_61 ?_
               refine Zn P1 1 [(0, [], .pointer t_), (2, [], pv_ b_), (5, [], pv_ b_1), (6, [], sv_ held), (29, [], sv_ v29), (30, [], .int .i64 ((v29.len : Nat) : Int)), (31, [], .int .i64 t31), (49, [], .pointer (some ⟨b_2, 2, none⟩))] ?_
               obtain ⟨v50, hc, h⟩ := h
               refine Zl 92 49 b_2 2 92 50 hc ?_
               refine Zn [] 2 [(0, [], .pointer t_), (2, [], pv_ b_), (5, [], pv_ b_1), (6, [], sv_ held), (29, [], sv_ v29), (30, [], .int .i64 ((v29.len : Nat) : Int)), (31, [], .int .i64 t31), (50, [], sv_ v50)] ?_
               refine Zw (some 51) (fun bb => .slice (some ⟨bb, 0, none⟩) 1 1) (Obj.cells ([sv_ v50]).toArray ty_sl_api_Entry (0, 0)) (fun b_3 w13 hb hw => ?_)
               replace h := h b_3 w13 hb hw
               clear hb hw
               refine Zn [] 3 [(0, [], .pointer t_), (2, [], pv_ b_), (5, [], pv_ b_1), (6, [], sv_ held), (29, [], sv_ v29), (30, [], .int .i64 ((v29.len : Nat) : Int)), (31, [], .int .i64 t31), (51, [], .slice (some ⟨b_3, 0, none⟩) 1 1)] ?_
               refine Zm 90 #[.slice (some ⟨b_3, 0, none⟩) 1 1] (some 52) (Calls.mono h ?_)
               rintro _ w14 ⟨v52, rfl, h⟩
               refine ⟨_, rfl, ?_⟩
               refine Zn P1 5 [(0, [], .pointer t_), (2, [], pv_ b_), (5, [], pv_ b_1), (6, [], sv_ held), (29, [], sv_ v29), (30, [], .int .i64 ((v29.len : Nat) : Int)), (31, [], .int .i64 t31), (52, [], sv_ v52), (53, [], .pointer (some ⟨b_1, 3, none⟩))] ?_
               obtain ⟨hc, h⟩ := h
               refine Zo 92 53 52 b_1 3 1 [sv_ v52] hc (fun w15 hw => ?_)
               replace h := h w15 hw
               clear hw
               refine Ze [(0, .pointer t_), (2, pv_ b_), (5, pv_ b_1), (6, sv_ held), (29, sv_ v29), (30, .int .i64 ((v29.len : Nat) : Int)), (31, .int .i64 t31)] ?_
               exact ⟨[(0, Value.pointer t_), (2, pv_ b_), (5, pv_ b_1), (6, sv_ held), (29, sv_ v29), (30, Value.int .i64 ((v29.len : Nat) : Int)), (31, Value.int .i64 t31)], Sub.mk (by kernel_rfl), held, rfl, h⟩
             · replace h := h.2 hb
               refine wpE_skip (by kernel_rfl) ?_
               exact ⟨[(0, Value.pointer t_), (2, pv_ b_), (5, pv_ b_1), (6, sv_ held), (29, sv_ v29), (30, Value.int .i64 ((v29.len : Nat) : Int)), (31, Value.int .i64 t31)], Sub.mk (by kernel_rfl), held, rfl, h⟩
           · replace h := h.2 hb
             refine Zp c61_67 P2 [(0, .pointer t_), (2, pv_ b_), (5, pv_ b_1), (6, sv_ held), (8, pv_ b_2), (29, sv_ v29), (30, .int .i64 ((v29.len : Nat) : Int)), (31, .int .i64 t31), (39, .int .u8 v39), (54, .bool (v39 == 2))] ?_
             refine Zc 54 (v39 == 2) c61_68 c61_70 (fun hb => ?_) (fun hb => ?_)
             · replace h := h.1 hb
               refine Zr r61_68 ?_
               refine Zn P1 1 [(0, [], .pointer t_), (2, [], pv_ b_), (5, [], pv_ b_1), (6, [], sv_ held), (8, [], pv_ b_2), (29, [], sv_ v29), (30, [], .int .i64 ((v29.len : Nat) : Int)), (31, [], .int .i64 t31), (56, [], .pointer (some ⟨b_1, 3, none⟩))] ?_
               obtain ⟨v57, hc, h⟩ := h
               refine Zl 92 56 b_1 3 92 57 hc ?_
               refine Zn P1 3 [(0, [], .pointer t_), (2, [], pv_ b_), (5, [], pv_ b_1), (6, [], sv_ held), (29, [], sv_ v29), (30, [], .int .i64 ((v29.len : Nat) : Int)), (31, [], .int .i64 t31), (57, [], sv_ v57), (58, [], .pointer (some ⟨b_2, 2, none⟩))] ?_
               obtain ⟨v59, hc, h⟩ := h
               refine Zl 92 58 b_2 2 92 59 hc ?_
               refine Zn [] 4 [(0, [], .pointer t_), (2, [], pv_ b_), (5, [], pv_ b_1), (6, [], sv_ held), (29, [], sv_ v29), (30, [], .int .i64 ((v29.len : Nat) : Int)), (31, [], .int .i64 t31), (57, [], sv_ v57), (59, [], sv_ v59)] ?_
               refine Zw (some 60) (fun bb => .slice (some ⟨bb, 0, none⟩) 2 2) (Obj.cells ([sv_ v57, sv_ v59]).toArray ty_sl_api_Entry (0, 0)) (fun b_4 w16 hb hw => ?_)
               replace h := h b_4 w16 hb hw
               clear hb hw
               refine Zn [] 5 [(0, [], .pointer t_), (2, [], pv_ b_), (5, [], pv_ b_1), (6, [], sv_ held), (29, [], sv_ v29), (30, [], .int .i64 ((v29.len : Nat) : Int)), (31, [], .int .i64 t31), (60, [], .slice (some ⟨b_4, 0, none⟩) 2 2)] ?_
               refine Zm 90 #[.slice (some ⟨b_4, 0, none⟩) 2 2] (some 61) (Calls.mono h ?_)
               rintro _ w17 ⟨v61, rfl, h⟩
               refine ⟨_, rfl, ?_⟩
               refine Zn P1 7 [(0, [], .pointer t_), (2, [], pv_ b_), (5, [], pv_ b_1), (6, [], sv_ held), (29, [], sv_ v29), (30, [], .int .i64 ((v29.len : Nat) : Int)), (31, [], .int .i64 t31), (61, [], sv_ v61), (62, [], .pointer (some ⟨b_1, 3, none⟩))] ?_
               obtain ⟨hc, h⟩ := h
               refine Zo 92 62 61 b_1 3 1 [sv_ v61] hc (fun w18 hw => ?_)
               replace h := h w18 hw
               clear hw
               refine Ze [(0, .pointer t_), (2, pv_ b_), (5, pv_ b_1), (6, sv_ held), (29, sv_ v29), (30, .int .i64 ((v29.len : Nat) : Int)), (31, .int .i64 t31)] ?_
               exact ⟨[(0, Value.pointer t_), (2, pv_ b_), (5, pv_ b_1), (6, sv_ held), (29, sv_ v29), (30, Value.int .i64 ((v29.len : Nat) : Int)), (31, Value.int .i64 t31)], Sub.mk (by kernel_rfl), held, rfl, h⟩
             · replace h := h.2 hb
               refine Zp c61_73 P2 [(0, .pointer t_), (2, pv_ b_), (5, pv_ b_1), (6, sv_ held), (8, pv_ b_2), (29, sv_ v29), (30, .int .i64 ((v29.len : Nat) : Int)), (31, .int .i64 t31), (39, .int .u8 v39), (63, .bool (v39 == 3))] ?_
               refine Zc 63 (v39 == 3) c61_74 c61_76 (fun hb => ?_) (fun hb => ?_)
               · replace h := h.1 hb
                 refine Zr r61_74 ?_
                 refine Zn P1 1 [(0, [], .pointer t_), (2, [], pv_ b_), (5, [], pv_ b_1), (6, [], sv_ held), (8, [], pv_ b_2), (29, [], sv_ v29), (30, [], .int .i64 ((v29.len : Nat) : Int)), (31, [], .int .i64 t31), (65, [], .pointer (some ⟨b_1, 4, none⟩))] ?_
                 obtain ⟨v66, hc, h⟩ := h
                 refine Zl 3 65 b_1 4 3 66 hc ?_
                 refine Zn P1 3 [(0, [], .pointer t_), (2, [], pv_ b_), (5, [], pv_ b_1), (6, [], sv_ held), (29, [], sv_ v29), (30, [], .int .i64 ((v29.len : Nat) : Int)), (31, [], .int .i64 t31), (66, [], .int .i64 v66), (67, [], .pointer (some ⟨b_2, 4, none⟩))] ?_
                 obtain ⟨v68, hc, h⟩ := h
                 refine Zl 3 67 b_2 4 3 68 hc ?_
                 refine Zn P2 6 [(0, [], .pointer t_), (2, [], pv_ b_), (5, [], pv_ b_1), (6, [], sv_ held), (29, [], sv_ v29), (30, [], .int .i64 ((v29.len : Nat) : Int)), (31, [], .int .i64 t31), (69, [], .int .i64 (IntKind.i64.wrap (v66 + v68))), (70, [], .pointer (some ⟨b_1, 4, none⟩))] ?_
                 obtain ⟨hc, h⟩ := h
                 refine Zo 3 70 69 b_1 4 1 [.int .i64 (IntKind.i64.wrap (v66 + v68))] hc (fun w19 hw => ?_)
                 replace h := h w19 hw
                 clear hw
                 refine Ze [(0, .pointer t_), (2, pv_ b_), (5, pv_ b_1), (6, sv_ held), (29, sv_ v29), (30, .int .i64 ((v29.len : Nat) : Int)), (31, .int .i64 t31)] ?_
                 exact ⟨[(0, Value.pointer t_), (2, pv_ b_), (5, pv_ b_1), (6, sv_ held), (29, sv_ v29), (30, Value.int .i64 ((v29.len : Nat) : Int)), (31, Value.int .i64 t31)], Sub.mk (by kernel_rfl), held, rfl, h⟩
               · replace h := h.2 hb
                 refine Zp c61_79 P2 [(0, .pointer t_), (2, pv_ b_), (5, pv_ b_1), (6, sv_ held), (8, pv_ b_2), (29, sv_ v29), (30, .int .i64 ((v29.len : Nat) : Int)), (31, .int .i64 t31), (71, .bool (v39 == 4))] ?_
                 refine Zc 71 (v39 == 4) c61_80 c61_101 (fun hb => ?_) (fun hb => ?_)
                 · replace h := h.1 hb
                   refine Zt r61_81 c61_83 ?_
                   refine Zn P1 1 [(0, [], .pointer t_), (2, [], pv_ b_), (5, [], pv_ b_1), (6, [], sv_ held), (29, [], sv_ v29), (30, [], .int .i64 ((v29.len : Nat) : Int)), (31, [], .int .i64 t31), (73, [], .pointer (some ⟨b_2, 3, none⟩))] ?_
                   obtain ⟨v74, hc, h⟩ := h
                   refine Zl 93 73 b_2 3 93 74 hc ?_
                   refine Zf P2 [(0, .pointer t_), (2, pv_ b_), (5, pv_ b_1), (6, sv_ held), (29, sv_ v29), (30, .int .i64 ((v29.len : Nat) : Int)), (31, .int .i64 t31), (74, sv_ v74), (75, .int .i64 ((v74.len : Nat) : Int)), (76, .int .i64 0)] ?_
                   change WpE _ _ c61_83 _ _ _
                   refine Zb 4 c61_84 ?_
                   obtain ⟨I, μ, h0, hr⟩ := h
                   refine wpE_loop (x := c61_85) (by kernel_rfl) (fun m l w => ∃ (held2 : Slc) (t76 : Int), l = [(0, Value.pointer t_), (2, pv_ b_), (5, pv_ b_1), (6, sv_ held2), (29, sv_ v29), (30, Value.int .i64 ((v29.len : Nat) : Int)), (31, Value.int .i64 t31), (74, sv_ v74), (75, Value.int .i64 ((v74.len : Nat) : Int)), (76, Value.int .i64 t76)] ∧ I held2 t76 w ∧ μ held2 t76 w = m) (l' := [(0, Value.pointer t_), (2, pv_ b_), (5, pv_ b_1), (6, sv_ held), (29, sv_ v29), (30, Value.int .i64 ((v29.len : Nat) : Int)), (31, Value.int .i64 t31), (74, sv_ v74), (75, Value.int .i64 ((v74.len : Nat) : Int)), (76, Value.int .i64 0)]) (Sub.mk (by kernel_rfl)) ⟨held, 0, rfl, h0, rfl⟩ ?_
                   rintro _ _ w20 ⟨held2, t76, rfl, hI, rfl⟩
                   obtain ⟨again_1, again_1_h, h⟩ : ∃ again_1 : Slc → Int → World → Prop, (∀ held2' t76' w', again_1 held2' t76' w' → I held2' t76' w' ∧ μ held2' t76' w' < μ held2 t76 w20) ∧ F_call_Task_Answer_L2 t31 again_ v74 again_1 held2 t76 w20 := ⟨_, fun _ _ _ h => h, hr held2 t76 w20 hI⟩
                   clear h0 hI
                   unfold F_call_Task_Answer_L2 at h
                   refine Zp c61_88 P1 [(0, .pointer t_), (2, pv_ b_), (5, pv_ b_1), (6, sv_ held2), (29, sv_ v29), (30, .int .i64 ((v29.len : Nat) : Int)), (31, .int .i64 t31), (74, sv_ v74), (75, .int .i64 ((v74.len : Nat) : Int)), (76, .int .i64 t76), (77, .bool (decide (t76 < ((v74.len : Nat) : Int))))] ?_
                   refine Zs c61_89 c61_92 ?_
                   refine Zc 77 (decide (t76 < ((v74.len : Nat) : Int))) c61_90 c61_91 (fun hb => ?_) (fun hb => ?_)
                   · replace h := h.1 hb
                     refine wpE_skip (by kernel_rfl) ?_
                     change WpE _ _ c61_92 _ _ _
                     refine Zs c61_93 c61_99 ?_
                     refine Zb 5 c61_94 ?_
                     refine Zt r61_95 c61_97 ?_
                     refine Zn [] 0 [(0, [], .pointer t_), (2, [], pv_ b_), (5, [], pv_ b_1), (6, [], sv_ held2), (29, [], sv_ v29), (30, [], .int .i64 ((v29.len : Nat) : Int)), (31, [], .int .i64 t31), (74, [], sv_ v74), (75, [], .int .i64 ((v74.len : Nat) : Int)), (76, [], .int .i64 t76)] ?_
                     obtain ⟨hp_37, h⟩ := h
                     refine Zv (fun pp => [(0, [], .pointer t_), (2, [], pv_ b_), (5, [], pv_ b_1), (6, [], sv_ held2), (29, [], sv_ v29), (30, [], .int .i64 ((v29.len : Nat) : Int)), (31, [], .int .i64 t31), (74, [], .slice pp v74.len v74.cap), (75, [], .int .i64 ((v74.len : Nat) : Int)), (76, [], .int .i64 t76)]) hp_37 ?_
                     obtain ⟨h0, h1, h⟩ := h
                     refine Zj 93 143 74 76 (pblk v74.ptr) (poff v74.ptr) v74.len v74.cap t76 2 78 0 h0 h1 ?_
                     refine Zn [] 1 [(0, [], .pointer t_), (2, [], pv_ b_), (5, [], pv_ b_1), (6, [], sv_ held2), (29, [], sv_ v29), (30, [], .int .i64 ((v29.len : Nat) : Int)), (31, [], .int .i64 t31), (74, [], .slice (some ⟨(pblk v74.ptr), (poff v74.ptr), none⟩) v74.len v74.cap), (75, [], .int .i64 ((v74.len : Nat) : Int)), (76, [], .int .i64 t76), (78, [], .pointer (some ⟨(pblk v74.ptr), (poff v74.ptr) + t76.toNat * 2, none⟩))] ?_
                     obtain ⟨v79, hc, h⟩ := h
                     refine reg_loadN (t := 143) (a := (Operand.tmp 78)) (b := (pblk v74.ptr)) (o := ((poff v74.ptr) + t76.toNat * 2)) (ty := 143) (dst := some 79) [Value.string v79.Key, sv_ v79.Versions] (by kernel_rfl) (by kernel_rfl) (by kernel_rfl) (k := 2) (by kernel_rfl) (by kernel_rfl) hc ?_
                     refine Zn [] 2 [(0, [], .pointer t_), (2, [], pv_ b_), (5, [], pv_ b_1), (6, [], sv_ held2), (29, [], sv_ v29), (30, [], .int .i64 ((v29.len : Nat) : Int)), (31, [], .int .i64 t31), (74, [], .slice (some ⟨(pblk v74.ptr), (poff v74.ptr), none⟩) v74.len v74.cap), (75, [], .int .i64 ((v74.len : Nat) : Int)), (76, [], .int .i64 t76), (79, [], .agg #[.string v79.Key, sv_ v79.Versions])] ?_
                     refine Zw (some 10) (fun bb => pv_ bb) (Obj.cells ([.string ByteArray.empty, .slice none 0 0]).toArray ty_api_Held (0, 0)) (fun b_5 w21 hb hw => ?_)
                     replace h := h b_5 w21 hb hw
                     clear hb hw
                     refine Zn [] 3 [(0, [], .pointer t_), (2, [], pv_ b_), (5, [], pv_ b_1), (6, [], sv_ held2), (10, [], pv_ b_5), (29, [], sv_ v29), (30, [], .int .i64 ((v29.len : Nat) : Int)), (31, [], .int .i64 t31), (74, [], .slice (some ⟨(pblk v74.ptr), (poff v74.ptr), none⟩) v74.len v74.cap), (75, [], .int .i64 ((v74.len : Nat) : Int)), (76, [], .int .i64 t76), (79, [], .agg #[.string v79.Key, sv_ v79.Versions])] ?_
                     obtain ⟨hc, h⟩ := h
                     refine Zo 143 10 79 b_5 0 2 [.string v79.Key, sv_ v79.Versions] hc (fun w22 hw => ?_)
                     replace h := h w22 hw
                     clear hw
                     refine Zn [] 4 [(0, [], .pointer t_), (2, [], pv_ b_), (5, [], pv_ b_1), (6, [], sv_ held2), (10, [], pv_ b_5), (29, [], sv_ v29), (30, [], .int .i64 ((v29.len : Nat) : Int)), (31, [], .int .i64 t31), (74, [], .slice (some ⟨(pblk v74.ptr), (poff v74.ptr), none⟩) v74.len v74.cap), (75, [], .int .i64 ((v74.len : Nat) : Int)), (76, [], .int .i64 t76)] ?_
                     refine Zv (fun pp => [(0, [], .pointer t_), (2, [], pv_ b_), (5, [], pv_ b_1), (6, [], sv_ held2), (10, [], pv_ b_5), (29, [], sv_ v29), (30, [], .int .i64 ((v29.len : Nat) : Int)), (31, [], .int .i64 t31), (74, [], .slice pp v74.len v74.cap), (75, [], .int .i64 ((v74.len : Nat) : Int)), (76, [], .int .i64 t76)]) hp_37.symm ?_
                     refine Ze [(0, .pointer t_), (2, pv_ b_), (5, pv_ b_1), (6, sv_ held2), (10, pv_ b_5), (29, sv_ v29), (30, .int .i64 ((v29.len : Nat) : Int)), (31, .int .i64 t31), (74, sv_ v74), (75, .int .i64 ((v74.len : Nat) : Int)), (76, .int .i64 t76)] ?_
                     change WpE _ _ c61_97 _ _ _
                     refine wpE_mixregion (id := 23) (ops := r61_97) o_call_Task_Answer_97 (by kernel_rfl) (by kernel_rfl) (by kernel_rfl) (by kernel_rfl) (fun w23 hw => ?_)
                     replace h := h w23 hw
                     clear hw
                     refine mreg_run P2 2 [(0, [], Value.pointer t_), (2, [], pv_ b_), (5, [], pv_ b_1), (6, [], sv_ held2), (10, [], pv_ b_5), (29, [], sv_ v29), (30, [], Value.int .i64 ((v29.len : Nat) : Int)), (31, [], Value.int .i64 t31), (74, [], sv_ v74), (75, [], Value.int .i64 ((v74.len : Nat) : Int)), (76, [], Value.int .i64 t76), (80, [], sv_ held2), (81, [], pv_ b_5)] (by kernel_rfl) (by kernel_rfl) ?_
                     obtain ⟨v82, hc, h⟩ := h
                     refine mreg_load1 (i := 2) (by kernel_rfl) (t := 9) (a := (Operand.tmp 81)) (b := b_5) (o := 0) (ty := 9) (dst := some 82) (by kernel_rfl) (by kernel_rfl) (by kernel_rfl) hc ?_
                     refine mreg_run P1 4 [(0, [], Value.pointer t_), (2, [], pv_ b_), (5, [], pv_ b_1), (6, [], sv_ held2), (29, [], sv_ v29), (30, [], Value.int .i64 ((v29.len : Nat) : Int)), (31, [], Value.int .i64 t31), (74, [], sv_ v74), (75, [], Value.int .i64 ((v74.len : Nat) : Int)), (76, [], Value.int .i64 t76), (80, [], sv_ held2), (82, [], Value.string v82), (83, [], Value.pointer (some ⟨b_5, 1, none⟩))] (by kernel_rfl) (by kernel_rfl) ?_
                     obtain ⟨v84, hc, h⟩ := h
                     refine mreg_load1 (i := 4) (by kernel_rfl) (t := 141) (a := (Operand.tmp 83)) (b := b_5) (o := 1) (ty := 141) (dst := some 84) (by kernel_rfl) (by kernel_rfl) (by kernel_rfl) hc ?_
                     refine mreg_run [] 5 [(0, [], Value.pointer t_), (2, [], pv_ b_), (5, [], pv_ b_1), (6, [], sv_ held2), (29, [], sv_ v29), (30, [], Value.int .i64 ((v29.len : Nat) : Int)), (31, [], Value.int .i64 t31), (74, [], sv_ v74), (75, [], Value.int .i64 ((v74.len : Nat) : Int)), (76, [], Value.int .i64 t76), (80, [], sv_ held2), (82, [], Value.string v82), (84, [], sv_ v84)] (by kernel_rfl) (by kernel_rfl) ?_
                     refine mreg_enter (op := (Op.call (Call.mk (Callee.value (Operand.func 88)) #[(Operand.tmp 84)] #[141]))) (ty := 141) (dst := some 85) 5 [4, 3] [(2, fun w' => w'.cell? ⟨b_5, 0, none⟩ = some (Value.string v82))] 88 #[sv_ v84] (by kernel_rfl) (by kernel_rfl) (by kernel_rfl) (by kernel_rfl) (by kernel_rfl) (fun ww => by kernel_rfl) (Calls.mono h ?_)
                     rintro _ w24 ⟨v85, rfl, h⟩
                     obtain ⟨hk0, h⟩ := h
                     refine ⟨_, rfl, ⟨hk0, trivial⟩, ?_⟩
                     refine mreg_run P1 7 [(0, [], Value.pointer t_), (2, [], pv_ b_), (5, [], pv_ b_1), (6, [], sv_ held2), (29, [], sv_ v29), (30, [], Value.int .i64 ((v29.len : Nat) : Int)), (31, [], Value.int .i64 t31), (74, [], sv_ v74), (75, [], Value.int .i64 ((v74.len : Nat) : Int)), (76, [], Value.int .i64 t76), (80, [], sv_ held2), (86, [], Value.agg #[Value.string v82, sv_ v85])] (by kernel_rfl) (by kernel_rfl) ?_
                     refine mreg_new (op := (Op.buildSlice 93 1 #[(0, (Operand.tmp 86))])) (ty := 93) (dst := some 87) 7 [6, 2, 5, 1, 4, 3] [] (fun bb => Value.slice (some ⟨bb, 0, none⟩) 1 1) (Obj.cells ([Value.string v82, sv_ v85]).toArray ty_api_Held (0, 0)) (by kernel_rfl) (by kernel_rfl) (by kernel_rfl) (by kernel_rfl) (by kernel_rfl) (by kernel_rfl) (fun b_6 w25 hb hw => ?_)
                     replace h := h b_6 w25 hb hw
                     clear hb hw
                     refine ⟨trivial, ?_⟩
                     refine mreg_run [] 8 [(0, [], Value.pointer t_), (2, [], pv_ b_), (5, [], pv_ b_1), (6, [], sv_ held2), (29, [], sv_ v29), (30, [], Value.int .i64 ((v29.len : Nat) : Int)), (31, [], Value.int .i64 t31), (74, [], sv_ v74), (75, [], Value.int .i64 ((v74.len : Nat) : Int)), (76, [], Value.int .i64 t76), (80, [], sv_ held2), (87, [], Value.slice (some ⟨b_6, 0, none⟩) 1 1)] (by kernel_rfl) (by kernel_rfl) ?_
                     obtain ⟨src, hs, h⟩ := h
                     refine mreg_append (t := 93) (tx := 93) (e := 143) (a := (Operand.tmp 80)) (xo := (Operand.tmp 87)) (s := held2) (x := (Slc.mk (some ⟨b_6, 0, none⟩) 1 1)) (sz := 2) (by_ := 40) (zs := [Value.string ByteArray.empty, Value.slice none 0 0]) (ty := 93) (dst := some 88) 8 [0, 5, 7, 4, 6, 3, 2, 1] [] src (by kernel_rfl) (by kernel_rfl) (by kernel_rfl) (by kernel_rfl) (by kernel_rfl) (by kernel_rfl) (by kernel_rfl) (by kernel_rfl) (by kernel_rfl) (by kernel_rfl) (by kernel_rfl) (by kernel_rfl) (by kernel_rfl) hs (AppendW.mono h (fun held3 w26 h => ?_))
                     refine ⟨trivial, ?_⟩
                     refine mreg_run P1 10 [(0, [], Value.pointer t_), (2, [], pv_ b_), (5, [], pv_ b_1), (6, [], sv_ held3), (29, [], sv_ v29), (30, [], Value.int .i64 ((v29.len : Nat) : Int)), (31, [], Value.int .i64 t31), (74, [], sv_ v74), (75, [], Value.int .i64 ((v74.len : Nat) : Int)), (76, [], Value.int .i64 t76)] (by kernel_rfl) (by kernel_rfl) ?_
                     refine mreg_end [(0, Value.pointer t_), (2, pv_ b_), (5, pv_ b_1), (6, sv_ held3), (29, sv_ v29), (30, Value.int .i64 ((v29.len : Nat) : Int)), (31, Value.int .i64 t31), (74, sv_ v74), (75, Value.int .i64 ((v74.len : Nat) : Int)), (76, Value.int .i64 t76)] (by kernel_rfl) (by kernel_rfl) (by kernel_rfl) ?_
                     change WpE _ _ c61_99 _ _ _
                     refine Zr r61_99 ?_
                     refine Zf P2 [(0, .pointer t_), (2, pv_ b_), (5, pv_ b_1), (6, sv_ held3), (29, sv_ v29), (30, .int .i64 ((v29.len : Nat) : Int)), (31, .int .i64 t31), (74, sv_ v74), (75, .int .i64 ((v74.len : Nat) : Int)), (76, .int .i64 (IntKind.i64.wrap (t76 + 1)))] ?_
                     have hb_ := again_1_h _ _ _ h
                     exact ⟨_, hb_.2, [(0, Value.pointer t_), (2, pv_ b_), (5, pv_ b_1), (6, sv_ held3), (29, sv_ v29), (30, Value.int .i64 ((v29.len : Nat) : Int)), (31, Value.int .i64 t31), (74, sv_ v74), (75, Value.int .i64 ((v74.len : Nat) : Int)), (76, Value.int .i64 (IntKind.i64.wrap (t76 + 1)))], Sub.mk (by kernel_rfl), held3, (IntKind.i64.wrap (t76 + 1)), rfl, hb_.1, rfl⟩
                   · replace h := h.2 hb
                     refine wpE_exit (id := 4) (by kernel_rfl) ?_
                     exact ⟨[(0, Value.pointer t_), (2, pv_ b_), (5, pv_ b_1), (6, sv_ held2), (29, sv_ v29), (30, Value.int .i64 ((v29.len : Nat) : Int)), (31, Value.int .i64 t31)], Sub.mk (by kernel_rfl), held2, rfl, h⟩
                 · replace h := h.2 hb
                   refine wpE_skip (by kernel_rfl) ?_
                   exact ⟨[(0, Value.pointer t_), (2, pv_ b_), (5, pv_ b_1), (6, sv_ held), (29, sv_ v29), (30, Value.int .i64 ((v29.len : Nat) : Int)), (31, Value.int .i64 t31)], Sub.mk (by kernel_rfl), held, rfl, h⟩
         · rintro _ w9 ⟨held1, rfl, h⟩
           unfold F_call_Task_Answer_k1 at h
           refine Zr r61_102 ?_
           refine Zf P2 [(0, .pointer t_), (2, pv_ b_), (5, pv_ b_1), (6, sv_ held1), (29, sv_ v29), (30, .int .i64 ((v29.len : Nat) : Int)), (31, .int .i64 (IntKind.i64.wrap (t31 + 1)))] ?_
           have hb_ := again__h _ _ _ h
           exact ⟨_, hb_.2, [(0, Value.pointer t_), (2, pv_ b_), (5, pv_ b_1), (6, sv_ held1), (29, sv_ v29), (30, Value.int .i64 ((v29.len : Nat) : Int)), (31, Value.int .i64 (IntKind.i64.wrap (t31 + 1)))], Sub.mk (by kernel_rfl), held1, (IntKind.i64.wrap (t31 + 1)), rfl, hb_.1, rfl⟩
       · replace h := h.2 hb
         refine wpE_exit (id := 1) (by kernel_rfl) ?_
         change WpE _ _ c61_104 _ _ _
         refine Zt r61_105 c61_107 ?_
         refine Zn P1 1 [(2, [], pv_ b_), (5, [], pv_ b_1), (6, [], sv_ held), (91, [], sv_ held)] ?_
         refine Zm 91 #[sv_ held, .func (.func 92) #[] #[]] (some 92) (Calls.mono h ?_)
         rintro _ w27 ⟨rfl, h⟩
         refine ⟨_, rfl, ?_⟩
         refine Ze [(2, pv_ b_), (5, pv_ b_1), (6, sv_ held)] ?_
         change WpE _ _ c61_107 _ _ _
         refine Zt r61_108 c61_110 ?_
         refine Zn [] 0 [(2, [], pv_ b_), (5, [], pv_ b_1), (6, [], sv_ held)] ?_
         obtain ⟨v93, hc, h⟩ := h
         refine reg_loadN (t := 125) (a := (Operand.tmp 5)) (b := b_1) (o := 0) (ty := 125) (dst := some 93) [Value.int .i64 v93.Code, Value.int .i64 v93.Mark, Value.bool v93.OK, sv_ v93.Entries, Value.int .i64 v93.Count] (by kernel_rfl) (by kernel_rfl) (by kernel_rfl) (k := 5) (by kernel_rfl) (by kernel_rfl) hc ?_
         refine Zn P1 2 [(2, [], pv_ b_), (93, [], .agg #[.int .i64 v93.Code, .int .i64 v93.Mark, .bool v93.OK, sv_ v93.Entries, .int .i64 v93.Count]), (94, [], sv_ held)] ?_
         obtain ⟨hc, h⟩ := h
         refine Zo 125 2 93 b_ 0 5 [.int .i64 v93.Code, .int .i64 v93.Mark, .bool v93.OK, sv_ v93.Entries, .int .i64 v93.Count] hc (fun w28 hw => ?_)
         replace h := h w28 hw
         clear hw
         refine Zf P2 [(2, pv_ b_), (3, sv_ held), (4, .int .i64 0)] ?_
         change WpE _ _ c61_110 _ _ _
         refine wpE_ret (by kernel_rfl) ?_
         obtain ⟨res2, hc_res2, h⟩ := h
         repeat (first | refine seqQ_ret ?_ | refine blockQ_ret ?_ | refine loopQ_ret ?_ | refine cutQ_ret ?_)
         exact retT (rs := [(ResultVar.cell 2 125), (ResultVar.tmp 3), (ResultVar.tmp 4)]) (vs := [Value.agg #[Value.int .i64 res2.Code, Value.int .i64 res2.Mark, Value.bool res2.OK, sv_ res2.Entries, Value.int .i64 res2.Count], sv_ held, Value.int .i64 0]) (by kernel_rfl) (⟨b_, 0, [Value.int .i64 res2.Code, Value.int .i64 res2.Mark, Value.bool res2.OK, sv_ res2.Entries, Value.int .i64 res2.Count], by kernel_rfl, hc_res2, (sizeP_of (k := 5) (by kernel_rfl) (by kernel_rfl)), .inl ⟨by kernel_rfl, rfl⟩, ⟨by kernel_rfl, ⟨by kernel_rfl, trivial⟩⟩⟩) (by kernel_rfl) ⟨res2, held, 0, rfl, h⟩
 · rintro e w' ⟨v, rfl, r0, r1, r2, rfl, h⟩; exact ⟨r0, r1, r2, rfl, h⟩

/-! ### (*towpath/call.Task).there (function 63) -/
def c63_0 := cb_ Try.f63
def c63_3 := cr_ c63_0
def c63_4 := cl_ c63_3
def r63_4 := co_ c63_4
def c63_6 := cr_ c63_3

theorem S_call_Task_there {t_ : Option Addr} {w : World} {R : Bool → World → Prop} (h : F_call_Task_there t_ R w) : C_call_Task_there t_ w R := by
 unfold F_call_Task_there at h
 unfold C_call_Task_there
 refine Calls.mono (calls_of_wpE (args := [Value.pointer t_]) (R := fun v w' => ∃ (r0 : Bool), v = Value.bool r0 ∧ R r0 w') Try.func63 (c := c63_0) (by kernel_rfl) 12 (by kernel_rfl) (by kernel_rfl) [(0, Value.pointer t_)] (by kernel_rfl) ?_) ?_
 · refine Zp c63_3 P1 [(0, .pointer t_)] ?_
   refine Zt r63_4 c63_6 ?_
   refine Zn P1 1 [(0, [], .pointer t_), (3, [], .pointer t_)] ?_
   refine reg_val (op := (Op.binOp BinOp.neq 72 (Operand.tmp 3) (Operand.const (Value.pointer none)) 72)) (ty := 4) (dst := some 4) (Value.bool (!t_.isNone)) (by kernel_rfl) (fun ww => run_ptr_neq_R (p := t_) (by kernel_rfl) (by kernel_rfl) (by kernel_rfl) ww) ?_
   refine Zn P2 4 [(5, [], .bool (!t_.isNone)), (6, [(5, true)], .pointer t_)] ?_
   refine reg_split 5 (!t_.isNone) (by kernel_rfl) (fun hb => ?_) (fun hb => ?_)
   · replace h := h.1 hb
     refine Zn [] 4 [(5, [], .bool true), (6, [], .pointer t_)] ?_
     refine Zn [] 4 [(5, [], .bool true), (6, [], .pointer t_)] ?_
     obtain ⟨hp_0, h⟩ := h
     refine Zv (fun pp => [(5, [], .bool true), (6, [], .pointer pp)]) hp_0 ?_
     refine Zn [.sure] 5 [(5, [], .bool true), (6, [], .pointer (some ⟨(pblk t_), (poff t_), none⟩)), (7, [], .pointer (some ⟨(pblk t_), (poff t_), none⟩))] ?_
     refine Zn [.sure] 6 [(5, [], .bool true), (8, [], .pointer (some ⟨(pblk t_), (poff t_), none⟩))] ?_
     obtain ⟨v9, hc, h⟩ := h
     refine Zl 3 8 (pblk t_) (poff t_) 3 9 hc ?_
     refine Zf [.sure, .plain, .plain] [(2, .bool (v9 != 0))] ?_
     change WpE _ _ c63_6 _ _ _
     refine wpE_ret (by kernel_rfl) ?_
     repeat (first | refine seqQ_ret ?_ | refine blockQ_ret ?_ | refine loopQ_ret ?_ | refine cutQ_ret ?_)
     exact retS (rs := [(ResultVar.tmp 2)]) (v := Value.bool (v9 != 0)) (by kernel_rfl) (⟨by kernel_rfl, trivial⟩) ⟨(v9 != 0), rfl, h⟩
   · replace h := h.2 hb
     refine Zn [] 4 [(5, [], .bool false), (6, [], undef)] ?_
     refine Zf [.skip, .skip, .skip, .skip, .plain, .plain] [(2, .bool false)] ?_
     change WpE _ _ c63_6 _ _ _
     refine wpE_ret (by kernel_rfl) ?_
     repeat (first | refine seqQ_ret ?_ | refine blockQ_ret ?_ | refine loopQ_ret ?_ | refine cutQ_ret ?_)
     exact retS (rs := [(ResultVar.tmp 2)]) (v := Value.bool false) (by kernel_rfl) (⟨by kernel_rfl, trivial⟩) ⟨false, rfl, h⟩
 · rintro e w' ⟨v, rfl, r0, rfl, h⟩; exact ⟨r0, rfl, h⟩

/-! ### towpath/call.may (function 64) -/
def c64_0 := cb_ Try.f64
def c64_3 := cr_ c64_0
def c64_4 := cl_ c64_3
def c64_7 := cr_ c64_4
def c64_8 := cl_ c64_7
def c64_9 := cl_ c64_8
def c64_12 := cr_ c64_9
def c64_13 := cl_ c64_12
def c64_14 := cl_ c64_13
def c64_15 := cr_ c64_13
def c64_16 := cr_ c64_12
def c64_17 := cl_ c64_16
def c64_18 := cl_ c64_17
def c64_19 := cl_ c64_18
def r64_19 := co_ c64_19
def c64_21 := cr_ c64_18
def c64_22 := cl_ c64_21
def c64_25 := cr_ c64_22
def c64_26 := cl_ c64_25
def c64_29 := cr_ c64_26
def c64_30 := cr_ c64_25
def c64_31 := cr_ c64_21
def r64_31 := co_ c64_31
def c64_33 := cr_ c64_16
def r64_33 := co_ c64_33
def c64_35 := cr_ c64_3
def c64_38 := cr_ c64_35

theorem S_call_may {l_ : Slc} {than : Int} {w : World} {R : Bool → World → Prop} (h : F_call_may l_ than R w) : C_call_may l_ than w R := by
 unfold F_call_may at h
 unfold C_call_may
 refine Calls.mono (calls_of_wpE (args := [sv_ l_, Value.int .i64 than]) (R := fun v w' => ∃ (r0 : Bool), v = Value.bool r0 ∧ R r0 w') Try.func64 (c := c64_0) (by kernel_rfl) 22 (by kernel_rfl) (by kernel_rfl) [(0, sv_ l_), (1, Value.int .i64 than)] (by kernel_rfl) ?_) ?_
 · refine Zp c64_3 P1 [(0, sv_ l_), (1, .int .i64 than)] ?_
   refine Zs c64_4 c64_35 ?_
   refine Zp c64_7 P3 [(1, .int .i64 than), (7, sv_ l_), (8, .int .i64 ((l_.len : Nat) : Int)), (9, .int .i64 0)] ?_
   refine Zb 0 c64_8 ?_
   obtain ⟨I, μ, h0, hr⟩ := h
   refine wpE_loop (x := c64_9) (by kernel_rfl) (fun m l w => ∃ (than1 : Int) (t9 : Int), l = [(1, Value.int .i64 than1), (7, sv_ l_), (8, Value.int .i64 ((l_.len : Nat) : Int)), (9, Value.int .i64 t9)] ∧ I than1 t9 w ∧ μ than1 t9 w = m) (l' := [(1, Value.int .i64 than), (7, sv_ l_), (8, Value.int .i64 ((l_.len : Nat) : Int)), (9, Value.int .i64 0)]) (Sub.mk (by kernel_rfl)) ⟨than, 0, rfl, h0, rfl⟩ ?_
   rintro _ _ w1 ⟨than1, t9, rfl, hI, rfl⟩
   obtain ⟨again_, again__h, h⟩ : ∃ again_ : Int → Int → World → Prop, (∀ than1' t9' w', again_ than1' t9' w' → I than1' t9' w' ∧ μ than1' t9' w' < μ than1 t9 w1) ∧ F_call_may_L0 l_ R again_ than1 t9 w1 := ⟨_, fun _ _ _ h => h, hr than1 t9 w1 hI⟩
   clear h0 hI
   unfold F_call_may_L0 at h
   refine Zp c64_12 P1 [(1, .int .i64 than1), (7, sv_ l_), (8, .int .i64 ((l_.len : Nat) : Int)), (9, .int .i64 t9), (10, .bool (decide (t9 < ((l_.len : Nat) : Int))))] ?_
   refine Zs c64_13 c64_16 ?_
   refine Zc 10 (decide (t9 < ((l_.len : Nat) : Int))) c64_14 c64_15 (fun hb => ?_) (fun hb => ?_)
   · replace h := h.1 hb
     refine wpE_skip (by kernel_rfl) ?_
     change WpE _ _ c64_16 _ _ _
     refine Zs c64_17 c64_33 ?_
     refine Zb 1 c64_18 ?_
     refine Zt r64_19 c64_21 ?_
     refine Zn [] 0 [(1, [], .int .i64 than1), (7, [], sv_ l_), (8, [], .int .i64 ((l_.len : Nat) : Int)), (9, [], .int .i64 t9)] ?_
     obtain ⟨hp_7, h⟩ := h
     refine Zv (fun pp => [(1, [], .int .i64 than1), (7, [], .slice pp l_.len l_.cap), (8, [], .int .i64 ((l_.len : Nat) : Int)), (9, [], .int .i64 t9)]) hp_7 ?_
     obtain ⟨h0, h1, h⟩ := h
     refine Zi 23 3 7 9 (pblk l_.ptr) (poff l_.ptr) l_.len l_.cap t9 11 0 h0 h1 ?_
     refine Zn [] 1 [(1, [], .int .i64 than1), (7, [], .slice (some ⟨(pblk l_.ptr), (poff l_.ptr), none⟩) l_.len l_.cap), (8, [], .int .i64 ((l_.len : Nat) : Int)), (9, [], .int .i64 t9), (11, [], .pointer (some ⟨(pblk l_.ptr), (poff l_.ptr) + t9.toNat, none⟩))] ?_
     obtain ⟨n_, hc, h⟩ := h
     refine Zl 3 11 (pblk l_.ptr) ((poff l_.ptr) + t9.toNat) 3 12 hc ?_
     refine Zn P1 3 [(1, [], .int .i64 than1), (6, [], .int .i64 n_), (7, [], .slice (some ⟨(pblk l_.ptr), (poff l_.ptr), none⟩) l_.len l_.cap), (8, [], .int .i64 ((l_.len : Nat) : Int)), (9, [], .int .i64 t9)] ?_
     refine Zv (fun pp => [(1, [], .int .i64 than1), (6, [], .int .i64 n_), (7, [], .slice pp l_.len l_.cap), (8, [], .int .i64 ((l_.len : Nat) : Int)), (9, [], .int .i64 t9)]) hp_7.symm ?_
     refine Ze [(1, .int .i64 than1), (6, .int .i64 n_), (7, sv_ l_), (8, .int .i64 ((l_.len : Nat) : Int)), (9, .int .i64 t9)] ?_
     change WpE _ _ c64_21 _ _ _
     refine Zs c64_22 c64_31 ?_
     refine Zp c64_25 [.plain, .plain, .plain, .plain, .plain, .plain, .pick] [(6, .int .i64 n_), (7, sv_ l_), (8, .int .i64 ((l_.len : Nat) : Int)), (9, .int .i64 t9), (19, .bool ((decide (n_ ≤ than1)) || (decide (n_ > 65536))))] ?_
     refine Zc 19 ((decide (n_ ≤ than1)) || (decide (n_ > 65536))) c64_26 c64_30 (fun hb => ?_) (fun hb => ?_)
     · replace h := h.1 hb
       refine Zp c64_29 P1 [(4, .bool false)] ?_
       refine wpE_ret (by kernel_rfl) ?_
       repeat (first | refine seqQ_ret ?_ | refine blockQ_ret ?_ | refine loopQ_ret ?_ | refine cutQ_ret ?_)
       exact retS (rs := [(ResultVar.tmp 4)]) (v := Value.bool false) (by kernel_rfl) (⟨by kernel_rfl, trivial⟩) ⟨false, rfl, h⟩
     · replace h := h.2 hb
       refine wpE_skip (by kernel_rfl) ?_
       change WpE _ _ c64_31 _ _ _
       refine Zr r64_31 ?_
       refine Zf P2 [(1, .int .i64 n_), (7, sv_ l_), (8, .int .i64 ((l_.len : Nat) : Int)), (9, .int .i64 t9)] ?_
       change WpE _ _ c64_33 _ _ _
       refine Zr r64_33 ?_
       refine Zf P2 [(1, .int .i64 n_), (7, sv_ l_), (8, .int .i64 ((l_.len : Nat) : Int)), (9, .int .i64 (IntKind.i64.wrap (t9 + 1)))] ?_
       have hb_ := again__h _ _ _ h
       exact ⟨_, hb_.2, [(1, Value.int .i64 n_), (7, sv_ l_), (8, Value.int .i64 ((l_.len : Nat) : Int)), (9, Value.int .i64 (IntKind.i64.wrap (t9 + 1)))], Sub.mk (by kernel_rfl), n_, (IntKind.i64.wrap (t9 + 1)), rfl, hb_.1, rfl⟩
   · replace h := h.2 hb
     refine wpE_exit (id := 0) (by kernel_rfl) ?_
     change WpE _ _ c64_35 _ _ _
     refine Zp c64_38 P1 [(4, .bool true)] ?_
     refine wpE_ret (by kernel_rfl) ?_
     repeat (first | refine seqQ_ret ?_ | refine blockQ_ret ?_ | refine loopQ_ret ?_ | refine cutQ_ret ?_)
     exact retS (rs := [(ResultVar.tmp 4)]) (v := Value.bool true) (by kernel_rfl) (⟨by kernel_rfl, trivial⟩) ⟨true, rfl, h⟩
 · rintro e w' ⟨v, rfl, r0, rfl, h⟩; exact ⟨r0, rfl, h⟩

/-! ### (*towpath/call.Task).shards (function 65) -/
def c65_0 := cb_ Try.f65
def c65_1 := cl_ c65_0
def r65_1 := co_ c65_1
def c65_3 := cr_ c65_0
def c65_6 := cr_ c65_3

theorem S_call_Task_shards {t_ : Option Addr} {w : World} {R : Value → World → Prop} (h : F_call_Task_shards t_ R w) : C_call_Task_shards t_ w R := by
 unfold F_call_Task_shards at h
 unfold C_call_Task_shards
 refine Calls.mono (calls_of_wpE (args := [Value.pointer t_]) (R := fun v w' => ∃ (r0 : Value), v = r0 ∧ R r0 w') Try.func65 (c := c65_0) (by kernel_rfl) 4 (by kernel_rfl) (by kernel_rfl) [(0, Value.pointer t_)] (by kernel_rfl) ?_) ?_
 · refine Zt r65_1 c65_3 ?_
   refine Zn [] 0 [(0, [], .pointer t_)] ?_
   refine Zw (some 1) (fun bb => pv_ bb) (Obj.cells ([.pointer t_]).toArray ty_ptr_call_Task (0, 0)) (fun b_ w1 hb hw => ?_)
   replace h := h b_ w1 hb hw
   clear hb hw
   refine Zf P1 [(1, pv_ b_)] ?_
   change WpE _ _ c65_3 _ _ _
   refine Zp c65_6 P2 [(2, .func (.func 94) #[] #[pv_ b_])] ?_
   refine wpE_ret (by kernel_rfl) ?_
   repeat (first | refine seqQ_ret ?_ | refine blockQ_ret ?_ | refine loopQ_ret ?_ | refine cutQ_ret ?_)
   exact retS (rs := [(ResultVar.tmp 2)]) (v := Value.func (.func 94) #[] #[pv_ b_]) (by kernel_rfl) (⟨by kernel_rfl, trivial⟩) ⟨(Value.func (.func 94) #[] #[pv_ b_]), rfl, h⟩
 · rintro e w' ⟨v, rfl, r0, rfl, h⟩; exact ⟨_, rfl, h⟩

/-! ### towpath/call.entries (function 90) -/
def c90_0 := cb_ Try.f90
def c90_3 := cr_ c90_0
def c90_4 := cl_ c90_3
def r90_4 := co_ c90_4
def c90_6 := cr_ c90_3
def c90_7 := cl_ c90_6
def r90_7 := co_ c90_7
def c90_9 := cr_ c90_6
def c90_12 := cr_ c90_9

theorem S_call_entries {l_ : Slc} {w : World} {R : Slc → World → Prop} (h : F_call_entries l_ R w) : C_call_entries l_ w R := by
 unfold F_call_entries at h
 unfold C_call_entries
 refine Calls.mono (calls_of_wpE (args := [sv_ l_]) (R := fun v w' => ∃ (r0 : Slc), v = sv_ r0 ∧ R r0 w') Try.func90 (c := c90_0) (by kernel_rfl) 9 (by kernel_rfl) (by kernel_rfl) [(0, sv_ l_)] (by kernel_rfl) ?_) ?_
 · refine Zp c90_3 P1 [(0, sv_ l_)] ?_
   refine Zt r90_4 c90_6 ?_
   refine Zn P1 1 [(4, [], sv_ l_)] ?_
   refine Zm 111 #[sv_ l_] (some 5) (Calls.mono h ?_)
   rintro _ w1 ⟨v5, rfl, h⟩
   refine ⟨_, rfl, ?_⟩
   refine Zf P1 [(3, sv_ v5)] ?_
   change WpE _ _ c90_6 _ _ _
   refine Zt r90_7 c90_9 ?_
   refine Zn P1 1 [(3, [], sv_ v5), (6, [], sv_ v5)] ?_
   refine Zm 112 #[sv_ v5, .func (.func 113) #[] #[]] (some 7) (Calls.mono h ?_)
   rintro _ w2 ⟨rfl, h⟩
   refine ⟨_, rfl, ?_⟩
   refine Ze [(3, sv_ v5)] ?_
   change WpE _ _ c90_9 _ _ _
   refine Zp c90_12 P2 [(2, sv_ v5)] ?_
   refine wpE_ret (by kernel_rfl) ?_
   repeat (first | refine seqQ_ret ?_ | refine blockQ_ret ?_ | refine loopQ_ret ?_ | refine cutQ_ret ?_)
   exact retS (rs := [(ResultVar.tmp 2)]) (v := sv_ v5) (by kernel_rfl) (⟨by kernel_rfl, trivial⟩) ⟨v5, rfl, h⟩
 · rintro e w' ⟨v, rfl, r0, rfl, h⟩; exact ⟨r0, rfl, h⟩

/-! ### (*towpath/call.Task).Answer$1 (function 92) -/
def c92_0 := cb_ Try.f92
def c92_1 := cl_ c92_0
def r92_1 := co_ c92_1
def c92_3 := cr_ c92_0
def c92_4 := cl_ c92_3
def r92_4 := co_ c92_4
def c92_6 := cr_ c92_3

theorem S_call_Task_Answer_1 {a_ : T_api_Held} {b_ : T_api_Held} {w : World} {R : Int → World → Prop} (h : F_call_Task_Answer_1 a_ b_ R w) : C_call_Task_Answer_1 a_ b_ w R := by
 unfold F_call_Task_Answer_1 at h
 unfold C_call_Task_Answer_1
 refine Calls.mono (calls_of_wpE (args := [Value.agg #[Value.string a_.Key, sv_ a_.Versions], Value.agg #[Value.string b_.Key, sv_ b_.Versions]]) (R := fun v w' => ∃ (r0 : Int), v = Value.int .i64 r0 ∧ R r0 w') Try.func92 (c := c92_0) (by kernel_rfl) 10 (by kernel_rfl) (by kernel_rfl) [(0, Value.agg #[Value.string a_.Key, sv_ a_.Versions]), (1, Value.agg #[Value.string b_.Key, sv_ b_.Versions])] (by kernel_rfl) ?_) ?_
 · refine Zt r92_1 c92_3 ?_
   refine Zn [] 0 [(0, [], .agg #[.string a_.Key, sv_ a_.Versions]), (1, [], .agg #[.string b_.Key, sv_ b_.Versions])] ?_
   refine Zw (some 2) (fun bb => pv_ bb) (Obj.cells ([.string a_.Key, sv_ a_.Versions]).toArray ty_api_Held (0, 0)) (fun b_1 w1 hb hw => ?_)
   replace h := h b_1 w1 hb hw
   clear hb hw
   refine Zn [] 1 [(1, [], .agg #[.string b_.Key, sv_ b_.Versions]), (2, [], pv_ b_1)] ?_
   refine Zw (some 3) (fun bb => pv_ bb) (Obj.cells ([.string b_.Key, sv_ b_.Versions]).toArray ty_api_Held (0, 0)) (fun b_2 w2 hb hw => ?_)
   replace h := h b_2 w2 hb hw
   clear hb hw
   refine Zf P1 [(2, pv_ b_1), (3, pv_ b_2)] ?_
   change WpE _ _ c92_3 _ _ _
   refine Zt r92_4 c92_6 ?_
   refine Zn P1 1 [(3, [], pv_ b_2), (5, [], pv_ b_1)] ?_
   obtain ⟨v6, hc, h⟩ := h
   refine Zl 9 5 b_1 0 9 6 hc ?_
   refine Zn P1 3 [(6, [], .string v6), (7, [], pv_ b_2)] ?_
   obtain ⟨v8, hc, h⟩ := h
   refine Zl 9 7 b_2 0 9 8 hc ?_
   refine Zn [] 4 [(6, [], .string v6), (8, [], .string v8)] ?_
   refine Zm 93 #[.string v6, .string v8] (some 9) (Calls.mono h ?_)
   rintro _ w3 ⟨v9, rfl, h⟩
   refine ⟨_, rfl, ?_⟩
   refine Zf P1 [(4, .int .i64 v9)] ?_
   change WpE _ _ c92_6 _ _ _
   refine wpE_ret (by kernel_rfl) ?_
   repeat (first | refine seqQ_ret ?_ | refine blockQ_ret ?_ | refine loopQ_ret ?_ | refine cutQ_ret ?_)
   exact retS (rs := [(ResultVar.tmp 4)]) (v := Value.int .i64 v9) (by kernel_rfl) (⟨by kernel_rfl, trivial⟩) ⟨v9, rfl, h⟩
 · rintro e w' ⟨v, rfl, r0, rfl, h⟩; exact ⟨r0, rfl, h⟩

/-! ### (*towpath/call.Task).shards$1 (function 94) -/
def c94_0 := cb_ Try.f94
def c94_1 := cl_ c94_0
def c94_2 := cl_ c94_1
def r94_2 := co_ c94_2
def c94_4 := cr_ c94_1
def c94_5 := cl_ c94_4
def c94_6 := cl_ c94_5
def r94_6 := co_ c94_6
def c94_8 := cr_ c94_5
def c94_9 := cl_ c94_8
def r94_9 := co_ c94_9
def c94_11 := cr_ c94_8
def c94_12 := cr_ c94_4
def c94_13 := cr_ c94_0
def c94_14 := cl_ c94_13
def r94_14 := co_ c94_14
def c94_16 := cr_ c94_13
def c94_17 := cl_ c94_16
def c94_18 := cl_ c94_17
def c94_21 := cr_ c94_18
def c94_22 := cl_ c94_21
def c94_23 := cl_ c94_22
def c94_24 := cr_ c94_22
def c94_25 := cr_ c94_21
def c94_26 := cl_ c94_25
def c94_27 := cl_ c94_26
def c94_30 := cr_ c94_27
def c94_31 := cl_ c94_30
def r94_31 := co_ c94_31
def c94_33 := cr_ c94_30
def c94_34 := cl_ c94_33
def c94_35 := cr_ c94_33
def c94_36 := cr_ c94_25
def r94_36 := co_ c94_36
def o_call_Task_shards_1_6 : List Nat := [0, 1, 2, 3, 4, 5, 6, 7, 8, 9, 10, 11, 12, 13, 14]

theorem S_call_Task_shards_1 {yield : Value} {t1 : Option Addr} {w : World} {R : World → Prop} (h : F_call_Task_shards_1 yield t1 R w) : C_call_Task_shards_1 yield t1 w R := by
 unfold F_call_Task_shards_1 at h
 unfold C_call_Task_shards_1
 refine Calls.mono (calls_of_wpY (args := [yield, Value.pointer t1]) (R := fun v w' => v = Value.tuple #[] ∧ R w') Try.func94 (c := c94_0) (by kernel_rfl) 41 (by kernel_rfl) (by kernel_rfl) [(0, yield), (1, Value.pointer t1)] (by kernel_rfl) ?_) ?_
 · letI : Rnd := rndY Try.prog Try.f94 (fun v w' => v = Value.tuple #[] ∧ R w')
   refine Zs c94_1 c94_13 ?_
   refine Zt r94_2 c94_4 ?_
   refine Zn [] 0 [(0, [], yield), (1, [], .pointer t1)] ?_
   obtain ⟨hp_12, h⟩ := h
   refine Zv (fun pp => [(0, [], yield), (1, [], .pointer pp)]) hp_12 ?_
   obtain ⟨v6, hc, h⟩ := h
   refine Zl 72 1 (pblk t1) (poff t1) 72 6 hc ?_
   refine Zn [] 1 [(0, [], yield), (1, [], .pointer (some ⟨(pblk t1), (poff t1), none⟩)), (6, [], .pointer v6)] ?_
   obtain ⟨hp_13, h⟩ := h
   refine Zv (fun pp => [(0, [], yield), (1, [], .pointer (some ⟨(pblk t1), (poff t1), none⟩)), (6, [], .pointer pp)]) hp_13 ?_
   refine Zn P1 2 [(0, [], yield), (1, [], .pointer (some ⟨(pblk t1), (poff t1), none⟩)), (6, [], .pointer (some ⟨(pblk v6), (poff v6), none⟩)), (7, [], .pointer (some ⟨(pblk v6), (poff v6), none⟩))] ?_
   refine Zn P2 4 [(0, [], yield), (1, [], .pointer (some ⟨(pblk t1), (poff t1), none⟩)), (9, [], .pointer (some ⟨(pblk v6), (poff v6) + 5, none⟩))] ?_
   obtain ⟨v10, hc, h⟩ := h
   refine Zl 63 9 (pblk v6) ((poff v6) + 5) 63 10 hc ?_
   refine Zn P1 6 [(0, [], yield), (1, [], .pointer (some ⟨(pblk t1), (poff t1), none⟩)), (11, [], .bool (v10 == 1))] ?_
   refine Zv (fun pp => [(0, [], yield), (1, [], .pointer pp), (11, [], .bool (v10 == 1))]) hp_12.symm ?_
   refine Ze [(0, yield), (1, .pointer t1), (11, .bool (v10 == 1))] ?_
   change WpE _ _ c94_4 _ _ _
   refine Zc 11 (v10 == 1) c94_5 c94_12 (fun hb => ?_) (fun hb => ?_)
   · replace h := h.1 hb
     refine Zs c94_6 c94_8 ?_
     refine wpE_mixregionY (id := 1) (ops := r94_6) o_call_Task_shards_1_6 (by kernel_rfl) (by kernel_rfl) (by kernel_rfl) (by kernel_rfl) (by kernel_rfl) (fun w1 hw => ?_)
     replace h := h w1 hw
     clear hw
     refine mreg_run [] 0 [(0, [], yield), (1, [], Value.pointer t1)] (by kernel_rfl) (by kernel_rfl) ?_
     obtain ⟨hp_17, h⟩ := h
     refine mreg_conv [(0, [], yield), (1, [], Value.pointer (some ⟨(pblk t1), (poff t1), none⟩))] (congrArg (fun pp => ([(0, [], yield), (1, [], Value.pointer pp)] : GEnv)) hp_17) ?_
     obtain ⟨v13, hc, h⟩ := h
     refine mreg_load1 (i := 0) (by kernel_rfl) (t := 72) (a := (Operand.tmp 1)) (b := (pblk t1)) (o := (poff t1)) (ty := 72) (dst := some 13) (by kernel_rfl) (by kernel_rfl) (by kernel_rfl) hc ?_
     refine mreg_run [] 1 [(0, [], yield), (1, [], Value.pointer (some ⟨(pblk t1), (poff t1), none⟩)), (13, [], Value.pointer v13)] (by kernel_rfl) (by kernel_rfl) ?_
     obtain ⟨hp_18, h⟩ := h
     refine mreg_conv [(0, [], yield), (1, [], Value.pointer (some ⟨(pblk t1), (poff t1), none⟩)), (13, [], Value.pointer (some ⟨(pblk v13), (poff v13), none⟩))] (congrArg (fun pp => ([(0, [], yield), (1, [], Value.pointer (some ⟨(pblk t1), (poff t1), none⟩)), (13, [], Value.pointer pp)] : GEnv)) hp_18) ?_
     refine mreg_run P1 2 [(0, [], yield), (1, [], Value.pointer (some ⟨(pblk t1), (poff t1), none⟩)), (13, [], Value.pointer (some ⟨(pblk v13), (poff v13), none⟩)), (14, [], Value.pointer (some ⟨(pblk v13), (poff v13), none⟩))] (by kernel_rfl) (by kernel_rfl) ?_
     refine mreg_run P1 3 [(0, [], yield), (1, [], Value.pointer (some ⟨(pblk t1), (poff t1), none⟩)), (15, [], Value.pointer (some ⟨(pblk v13), (poff v13) + 1, none⟩))] (by kernel_rfl) (by kernel_rfl) ?_
     obtain ⟨v16, hc, h⟩ := h
     refine mreg_loadN (i := 3) (by kernel_rfl) (t := 69) (a := (Operand.tmp 15)) (b := (pblk v13)) (o := ((poff v13) + 1)) (ty := 69) (dst := some 16) [Value.int .i64 v16.Lanes, Value.int .i64 v16.Shards, Value.int .i64 v16.Window, Value.int .i64 v16.Queue] (by kernel_rfl) (by kernel_rfl) (by kernel_rfl) (k := 4) (by kernel_rfl) (by kernel_rfl) hc ?_
     refine mreg_run [] 4 [(0, [], yield), (1, [], Value.pointer (some ⟨(pblk t1), (poff t1), none⟩)), (16, [], Value.agg #[Value.int .i64 v16.Lanes, Value.int .i64 v16.Shards, Value.int .i64 v16.Window, Value.int .i64 v16.Queue])] (by kernel_rfl) (by kernel_rfl) ?_
     obtain ⟨v17, hc, h⟩ := h
     refine mreg_load1 (i := 4) (by kernel_rfl) (t := 72) (a := (Operand.tmp 1)) (b := (pblk t1)) (o := (poff t1)) (ty := 72) (dst := some 17) (by kernel_rfl) (by kernel_rfl) (by kernel_rfl) hc ?_
     refine mreg_run [] 5 [(0, [], yield), (16, [], Value.agg #[Value.int .i64 v16.Lanes, Value.int .i64 v16.Shards, Value.int .i64 v16.Window, Value.int .i64 v16.Queue]), (17, [], Value.pointer v17)] (by kernel_rfl) (by kernel_rfl) ?_
     obtain ⟨hp_19, h⟩ := h
     refine mreg_conv [(0, [], yield), (16, [], Value.agg #[Value.int .i64 v16.Lanes, Value.int .i64 v16.Shards, Value.int .i64 v16.Window, Value.int .i64 v16.Queue]), (17, [], Value.pointer (some ⟨(pblk v17), (poff v17), none⟩))] (congrArg (fun pp => ([(0, [], yield), (16, [], Value.agg #[Value.int .i64 v16.Lanes, Value.int .i64 v16.Shards, Value.int .i64 v16.Window, Value.int .i64 v16.Queue]), (17, [], Value.pointer pp)] : GEnv)) hp_19) ?_
     refine mreg_run P1 6 [(0, [], yield), (16, [], Value.agg #[Value.int .i64 v16.Lanes, Value.int .i64 v16.Shards, Value.int .i64 v16.Window, Value.int .i64 v16.Queue]), (17, [], Value.pointer (some ⟨(pblk v17), (poff v17), none⟩)), (18, [], Value.pointer (some ⟨(pblk v17), (poff v17), none⟩))] (by kernel_rfl) (by kernel_rfl) ?_
     refine mreg_run P2 8 [(0, [], yield), (16, [], Value.agg #[Value.int .i64 v16.Lanes, Value.int .i64 v16.Shards, Value.int .i64 v16.Window, Value.int .i64 v16.Queue]), (20, [], Value.pointer (some ⟨(pblk v17), (poff v17) + 6, none⟩))] (by kernel_rfl) (by kernel_rfl) ?_
     obtain ⟨v21, hc, h⟩ := h
     refine mreg_load1 (i := 8) (by kernel_rfl) (t := 9) (a := (Operand.tmp 20)) (b := (pblk v17)) (o := ((poff v17) + 6)) (ty := 9) (dst := some 21) (by kernel_rfl) (by kernel_rfl) (by kernel_rfl) hc ?_
     refine mreg_run [] 9 [(0, [], yield), (16, [], Value.agg #[Value.int .i64 v16.Lanes, Value.int .i64 v16.Shards, Value.int .i64 v16.Window, Value.int .i64 v16.Queue]), (21, [], Value.string v21)] (by kernel_rfl) (by kernel_rfl) ?_
     refine mreg_enter (op := (Op.call (Call.mk (Callee.value (Operand.func 95)) #[(Operand.tmp 16), (Operand.tmp 21)] #[69, 9]))) (ty := 34) (dst := some 22) 9 [3, 8, 2, 7, 1, 6, 0, 5, 4] [] 95 #[Value.agg #[Value.int .i64 v16.Lanes, Value.int .i64 v16.Shards, Value.int .i64 v16.Window, Value.int .i64 v16.Queue], Value.string v21] (by kernel_rfl) (by kernel_rfl) (by kernel_rfl) (by kernel_rfl) (by kernel_rfl) (fun ww => by kernel_rfl) (Calls.mono h ?_)
     rintro _ w2 ⟨k_, v22_1, rfl, h⟩
     refine ⟨_, rfl, trivial, ?_⟩
     refine mreg_run [.plain, .plain, .plain, .plain, .plain] 15 [(0, [], yield), (3, [], Value.int .i64 k_)] (by kernel_rfl) (by kernel_rfl) ?_
     refine mreg_end [(0, yield), (3, Value.int .i64 k_)] (by kernel_rfl) (by kernel_rfl) (by kernel_rfl) ?_
     change WpE _ _ c94_8 _ _ _
     refine Zt r94_9 c94_11 ?_
     refine Zn P2 2 [(25, [], yield), (26, [], .int .i64 k_)] ?_
     refine reg_enterY rfl (fo := (Operand.tmp 25)) (aa := #[(Operand.tmp 26)]) (ts := #[3]) (fv := yield) (ty := 4) (dst := some 27) #[Value.int .i64 k_] (by kernel_rfl) (by kernel_rfl) (by kernel_rfl) (CallsY.mono h ?_)
     rintro _ w3 ⟨v27, rfl, h⟩
     refine ⟨_, rfl, ?_⟩
     refine Ze [] ?_
     change WpE _ _ c94_11 _ _ _
     refine wpE_ret (by kernel_rfl) ?_
     repeat (first | refine seqQ_ret ?_ | refine blockQ_ret ?_ | refine loopQ_ret ?_ | refine cutQ_ret ?_)
     exact retT (rs := []) (vs := []) (by kernel_rfl) (trivial) (by kernel_rfl) ⟨rfl, h⟩
   · replace h := h.2 hb
     refine wpE_skip (by kernel_rfl) ?_
     change WpE _ _ c94_13 _ _ _
     refine Zt r94_14 c94_16 ?_
     refine Zn [] 0 [(0, [], yield), (1, [], .pointer t1)] ?_
     obtain ⟨hp_22, h⟩ := h
     refine Zv (fun pp => [(0, [], yield), (1, [], .pointer pp)]) hp_22 ?_
     obtain ⟨v28, hc, h⟩ := h
     refine Zl 72 1 (pblk t1) (poff t1) 72 28 hc ?_
     refine Zn [] 1 [(0, [], yield), (28, [], .pointer v28)] ?_
     obtain ⟨hp_23, h⟩ := h
     refine Zv (fun pp => [(0, [], yield), (28, [], .pointer pp)]) hp_23 ?_
     refine Zn P1 2 [(0, [], yield), (28, [], .pointer (some ⟨(pblk v28), (poff v28), none⟩)), (29, [], .pointer (some ⟨(pblk v28), (poff v28), none⟩))] ?_
     refine Zn P2 4 [(0, [], yield), (31, [], .pointer (some ⟨(pblk v28), (poff v28) + 2, none⟩))] ?_
     obtain ⟨v32, hc, h⟩ := h
     refine Zl 3 31 (pblk v28) ((poff v28) + 2) 3 32 hc ?_
     refine Zf P1 [(0, yield), (32, .int .i64 v32), (33, .int .i64 0)] ?_
     change WpE _ _ c94_16 _ _ _
     refine Zb 0 c94_17 ?_
     obtain ⟨I, μ, h0, hr⟩ := h
     refine wpE_loop (x := c94_18) (by kernel_rfl) (fun m l w => ∃ (t33 : Int), l = [(0, yield), (32, Value.int .i64 v32), (33, Value.int .i64 t33)] ∧ I t33 w ∧ μ t33 w = m) (l' := [(0, yield), (32, Value.int .i64 v32), (33, Value.int .i64 0)]) (Sub.mk (by kernel_rfl)) ⟨0, rfl, h0, rfl⟩ ?_
     rintro _ _ w4 ⟨t33, rfl, hI, rfl⟩
     obtain ⟨again_, again__h, h⟩ : ∃ again_ : Int → World → Prop, (∀ t33' w', again_ t33' w' → I t33' w' ∧ μ t33' w' < μ t33 w4) ∧ F_call_Task_shards_1_L0 yield R v32 again_ t33 w4 := ⟨_, fun _ _ h => h, hr t33 w4 hI⟩
     clear h0 hI
     unfold F_call_Task_shards_1_L0 at h
     refine Zp c94_21 P1 [(0, yield), (32, .int .i64 v32), (33, .int .i64 t33), (34, .bool (decide (t33 < v32)))] ?_
     refine Zs c94_22 c94_25 ?_
     refine Zc 34 (decide (t33 < v32)) c94_23 c94_24 (fun hb => ?_) (fun hb => ?_)
     · replace h := h.1 hb
       refine wpE_skip (by kernel_rfl) ?_
       change WpE _ _ c94_25 _ _ _
       refine Zs c94_26 c94_36 ?_
       refine Zb 1 c94_27 ?_
       refine Zp c94_30 P2 [(0, yield), (5, .int .i64 t33), (32, .int .i64 v32), (33, .int .i64 t33)] ?_
       refine Zt r94_31 c94_33 ?_
       refine Zn P2 2 [(0, [], yield), (32, [], .int .i64 v32), (33, [], .int .i64 t33), (36, [], yield), (37, [], .int .i64 t33)] ?_
       refine reg_enterY rfl (fo := (Operand.tmp 36)) (aa := #[(Operand.tmp 37)]) (ts := #[3]) (fv := yield) (ty := 4) (dst := some 38) #[Value.int .i64 t33] (by kernel_rfl) (by kernel_rfl) (by kernel_rfl) (CallsY.mono h ?_)
       rintro _ w5 ⟨v38, rfl, h⟩
       refine ⟨_, rfl, ?_⟩
       refine Zf P1 [(0, yield), (32, .int .i64 v32), (33, .int .i64 t33), (39, .bool (!v38))] ?_
       change WpE _ _ c94_33 _ _ _
       refine Zc 39 (!v38) c94_34 c94_35 (fun hb => ?_) (fun hb => ?_)
       · replace h := h.1 hb
         refine wpE_ret (by kernel_rfl) ?_
         repeat (first | refine seqQ_ret ?_ | refine blockQ_ret ?_ | refine loopQ_ret ?_ | refine cutQ_ret ?_)
         exact retT (rs := []) (vs := []) (by kernel_rfl) (trivial) (by kernel_rfl) ⟨rfl, h⟩
       · replace h := h.2 hb
         refine wpE_skip (by kernel_rfl) ?_
         change WpE _ _ c94_36 _ _ _
         refine Zr r94_36 ?_
         refine Zf P2 [(0, yield), (32, .int .i64 v32), (33, .int .i64 (IntKind.i64.wrap (t33 + 1)))] ?_
         have hb_ := again__h _ _ h
         exact ⟨_, hb_.2, [(0, yield), (32, Value.int .i64 v32), (33, Value.int .i64 (IntKind.i64.wrap (t33 + 1)))], Sub.mk (by kernel_rfl), (IntKind.i64.wrap (t33 + 1)), rfl, hb_.1, rfl⟩
     · replace h := h.2 hb
       refine wpE_exit (id := 0) (by kernel_rfl) ?_
       repeat (first | refine seqQ_exit ?_ | refine loopQ_exit ?_ | refine cutQ_exit ?_ | refine blockQ_hit ?_ | refine blockQ_miss (by kernel_rfl) ?_)
       refine retQ_normal ?_
       repeat (first | refine seqQ_ret ?_ | refine blockQ_ret ?_ | refine loopQ_ret ?_ | refine cutQ_ret ?_)
       exact retT (rs := []) (vs := []) (by kernel_rfl) (trivial) (by kernel_rfl) ⟨rfl, h⟩
 · rintro e w' ⟨v, rfl, rfl, h⟩; exact ⟨rfl, h⟩

/-! ### towpath/call.entries$1 (function 113) -/
def c113_0 := cb_ Try.f113
def c113_1 := cl_ c113_0
def r113_1 := co_ c113_1
def c113_3 := cr_ c113_0
def c113_4 := cl_ c113_3
def r113_4 := co_ c113_4
def c113_6 := cr_ c113_3

theorem S_call_entries_1 {a_ : T_api_Entry} {b_ : T_api_Entry} {w : World} {R : Int → World → Prop} (h : F_call_entries_1 a_ b_ R w) : C_call_entries_1 a_ b_ w R := by
 unfold F_call_entries_1 at h
 unfold C_call_entries_1
 refine Calls.mono (calls_of_wpE (args := [Value.agg #[Value.string a_.Key, Value.string a_.Val], Value.agg #[Value.string b_.Key, Value.string b_.Val]]) (R := fun v w' => ∃ (r0 : Int), v = Value.int .i64 r0 ∧ R r0 w') Try.func113 (c := c113_0) (by kernel_rfl) 10 (by kernel_rfl) (by kernel_rfl) [(0, Value.agg #[Value.string a_.Key, Value.string a_.Val]), (1, Value.agg #[Value.string b_.Key, Value.string b_.Val])] (by kernel_rfl) ?_) ?_
 · refine Zt r113_1 c113_3 ?_
   refine Zn [] 0 [(0, [], .agg #[.string a_.Key, .string a_.Val]), (1, [], .agg #[.string b_.Key, .string b_.Val])] ?_
   refine Zw (some 2) (fun bb => pv_ bb) (Obj.cells ([.string a_.Key, .string a_.Val]).toArray ty_api_Entry (0, 0)) (fun b_1 w1 hb hw => ?_)
   replace h := h b_1 w1 hb hw
   clear hb hw
   refine Zn [] 1 [(1, [], .agg #[.string b_.Key, .string b_.Val]), (2, [], pv_ b_1)] ?_
   refine Zw (some 3) (fun bb => pv_ bb) (Obj.cells ([.string b_.Key, .string b_.Val]).toArray ty_api_Entry (0, 0)) (fun b_2 w2 hb hw => ?_)
   replace h := h b_2 w2 hb hw
   clear hb hw
   refine Zf P1 [(2, pv_ b_1), (3, pv_ b_2)] ?_
   change WpE _ _ c113_3 _ _ _
   refine Zt r113_4 c113_6 ?_
   refine Zn P1 1 [(3, [], pv_ b_2), (5, [], pv_ b_1)] ?_
   obtain ⟨v6, hc, h⟩ := h
   refine Zl 9 5 b_1 0 9 6 hc ?_
   refine Zn P1 3 [(6, [], .string v6), (7, [], pv_ b_2)] ?_
   obtain ⟨v8, hc, h⟩ := h
   refine Zl 9 7 b_2 0 9 8 hc ?_
   refine Zn [] 4 [(6, [], .string v6), (8, [], .string v8)] ?_
   refine Zm 93 #[.string v6, .string v8] (some 9) (Calls.mono h ?_)
   rintro _ w3 ⟨v9, rfl, h⟩
   refine ⟨_, rfl, ?_⟩
   refine Zf P1 [(4, .int .i64 v9)] ?_
   change WpE _ _ c113_6 _ _ _
   refine wpE_ret (by kernel_rfl) ?_
   repeat (first | refine seqQ_ret ?_ | refine blockQ_ret ?_ | refine loopQ_ret ?_ | refine cutQ_ret ?_)
   exact retS (rs := [(ResultVar.tmp 4)]) (v := Value.int .i64 v9) (by kernel_rfl) (⟨by kernel_rfl, trivial⟩) ⟨v9, rfl, h⟩
 · rintro e w' ⟨v, rfl, r0, rfl, h⟩; exact ⟨r0, rfl, h⟩
end
end Go.Proofs.Ytpedclhflmhakaa
