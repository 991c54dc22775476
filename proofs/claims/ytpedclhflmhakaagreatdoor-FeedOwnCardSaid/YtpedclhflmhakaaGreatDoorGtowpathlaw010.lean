/- WRITTEN BY PROGRAM (dec.py): for each Go function the clean formula F, the call's contract C, and the proof S that F gives C. -/
import Derived.Test.YtpedclhflmhakaaGreatDoorRows
import Derived.Test.YtpedclhflmhakaaGreatDoorGF
namespace Go.Proofs.YtpedclhflmhakaaGreatDoor
open Go
set_option linter.unusedVariables false
set_option maxRecDepth 100000
set_option maxHeartbeats 4000000
noncomputable section

/-! ### towpath/towpathlaw01.SameTxn (function 11) -/
def c11_0 := cb_ Tryz.f11
def c11_1 := cl_ c11_0
def r11_1 := co_ c11_1
def c11_3 := cr_ c11_0
def c11_4 := cl_ c11_3
def r11_4 := co_ c11_4
def c11_6 := cr_ c11_3

theorem S_towpathlaw01_SameTxn {a_ : T_api_Txn} {b_ : T_api_Txn} {w : World} {R : Bool → World → Prop} (h : F_towpathlaw01_SameTxn a_ b_ R w) : C_towpathlaw01_SameTxn a_ b_ w R := by
 unfold F_towpathlaw01_SameTxn at h
 unfold C_towpathlaw01_SameTxn
 refine Calls.mono (calls_of_wpE (args := [Value.agg #[Value.int .i64 a_.Number, sv_ a_.Writes], Value.agg #[Value.int .i64 b_.Number, sv_ b_.Writes]]) (R := fun v w' => ∃ (r0 : Bool), v = Value.bool r0 ∧ R r0 w') Tryz.func11 (c := c11_0) (by kernel_rfl) 17 (by kernel_rfl) (by kernel_rfl) [(0, Value.agg #[Value.int .i64 a_.Number, sv_ a_.Writes]), (1, Value.agg #[Value.int .i64 b_.Number, sv_ b_.Writes])] (by kernel_rfl) ?_) ?_
 · refine Zt r11_1 c11_3 ?_
   refine Zn [] 0 [(0, [], .agg #[.int .i64 a_.Number, sv_ a_.Writes]), (1, [], .agg #[.int .i64 b_.Number, sv_ b_.Writes])] ?_
   refine Zw (some 2) (fun bb => pv_ bb) (Obj.cells ([.int .i64 a_.Number, sv_ a_.Writes]).toArray ty_api_Txn (0, 0)) (fun b_1 w1 hb hw => ?_)
   replace h := h b_1 w1 hb hw
   clear hb hw
   refine Zn [] 1 [(1, [], .agg #[.int .i64 b_.Number, sv_ b_.Writes]), (2, [], pv_ b_1)] ?_
   refine Zw (some 3) (fun bb => pv_ bb) (Obj.cells ([.int .i64 b_.Number, sv_ b_.Writes]).toArray ty_api_Txn (0, 0)) (fun b_2 w2 hb hw => ?_)
   replace h := h b_2 w2 hb hw
   clear hb hw
   refine Zf P1 [(2, pv_ b_1), (3, pv_ b_2)] ?_
   change WpE _ _ c11_3 _ _ _
   refine Zt r11_4 c11_6 ?_
   refine Zn P1 1 [(2, [], pv_ b_1), (3, [], pv_ b_2), (5, [], pv_ b_1)] ?_
   obtain ⟨v6, hc, h⟩ := h
   refine Zl 3 5 b_1 0 3 6 hc ?_
   refine Zn P1 3 [(2, [], pv_ b_1), (3, [], pv_ b_2), (6, [], .int .i64 v6), (7, [], pv_ b_2)] ?_
   obtain ⟨v8, hc, h⟩ := h
   refine Zl 3 7 b_2 0 3 8 hc ?_
   refine Zn P3 7 [(3, [], pv_ b_2), (10, [], .bool (v6 == v8)), (11, [(10, true)], .pointer (some ⟨b_1, 1, none⟩))] ?_
   refine reg_split 10 (v6 == v8) (by kernel_rfl) (fun hb => ?_) (fun hb => ?_)
   · replace h := h.1 hb
     refine Zn [] 7 [(3, [], pv_ b_2), (10, [], .bool true), (11, [], .pointer (some ⟨b_1, 1, none⟩))] ?_
     refine Zn [] 7 [(3, [], pv_ b_2), (10, [], .bool true), (11, [], .pointer (some ⟨b_1, 1, none⟩))] ?_
     obtain ⟨v12, hc, h⟩ := h
     refine Zl 47 11 b_1 1 47 12 hc ?_
     refine Zn [.sure] 9 [(10, [], .bool true), (12, [], sv_ v12), (13, [], .pointer (some ⟨b_2, 1, none⟩))] ?_
     obtain ⟨v14, hc, h⟩ := h
     refine Zl 47 13 b_2 1 47 14 hc ?_
     refine Zn [] 10 [(10, [], .bool true), (12, [], sv_ v12), (14, [], sv_ v14)] ?_
     refine Zm 34 #[sv_ v12, sv_ v14] (some 15) (Calls.mono h ?_)
     rintro _ w3 ⟨v15, rfl, h⟩
     refine ⟨_, rfl, ?_⟩
     refine Zf P2 [(4, .bool v15)] ?_
     change WpE _ _ c11_6 _ _ _
     refine wpE_ret (by kernel_rfl) ?_
     repeat (first | refine seqQ_ret ?_ | refine blockQ_ret ?_ | refine loopQ_ret ?_ | refine cutQ_ret ?_)
     exact retS (rs := [(ResultVar.tmp 4)]) (v := Value.bool v15) (by kernel_rfl) (⟨by kernel_rfl, trivial⟩) ⟨v15, rfl, h⟩
   · replace h := h.2 hb
     refine Zn [] 7 [(3, [], pv_ b_2), (10, [], .bool false), (11, [], undef)] ?_
     refine Zf [.skip, .skip, .skip, .skip, .plain, .plain] [(4, .bool false)] ?_
     change WpE _ _ c11_6 _ _ _
     refine wpE_ret (by kernel_rfl) ?_
     repeat (first | refine seqQ_ret ?_ | refine blockQ_ret ?_ | refine loopQ_ret ?_ | refine cutQ_ret ?_)
     exact retS (rs := [(ResultVar.tmp 4)]) (v := Value.bool false) (by kernel_rfl) (⟨by kernel_rfl, trivial⟩) ⟨false, rfl, h⟩
 · rintro e w' ⟨v, rfl, r0, rfl, h⟩; exact ⟨r0, rfl, h⟩

/-! ### (*towpath/towpathlaw01.Book).Txn (function 12) -/
def c12_0 := cb_ Tryz.f12
def c12_1 := cl_ c12_0
def r12_1 := co_ c12_1
def c12_3 := cr_ c12_0
def r12_3 := co_ c12_3

theorem S_towpathlaw01_Book_Txn {b_ : Option Addr} {t_ : T_api_Txn} {w : World} {R : World → Prop} (h : F_towpathlaw01_Book_Txn b_ t_ R w) : C_towpathlaw01_Book_Txn b_ t_ w R := by
 unfold F_towpathlaw01_Book_Txn at h
 unfold C_towpathlaw01_Book_Txn
 refine Calls.mono (calls_of_wpE (args := [Value.pointer b_, Value.agg #[Value.int .i64 t_.Number, sv_ t_.Writes]]) (R := fun v w' => v = Value.tuple #[] ∧ R w') Tryz.func12 (c := c12_0) (by kernel_rfl) 8 (by kernel_rfl) (by kernel_rfl) [(0, Value.pointer b_), (1, Value.agg #[Value.int .i64 t_.Number, sv_ t_.Writes])] (by kernel_rfl) ?_) ?_
 · refine Zt r12_1 c12_3 ?_
   refine Zn [] 0 [(0, [], .pointer b_), (1, [], .agg #[.int .i64 t_.Number, sv_ t_.Writes])] ?_
   refine Zw (some 3) (fun bb => pv_ bb) (Obj.cells ([.int .i64 t_.Number, sv_ t_.Writes]).toArray ty_api_Txn (0, 0)) (fun b_1 w1 hb hw => ?_)
   replace h := h b_1 w1 hb hw
   clear hb hw
   refine Ze [(0, .pointer b_), (3, pv_ b_1)] ?_
   change WpE _ _ c12_3 _ _ _
   refine Zr r12_3 ?_
   refine Zn P2 2 [(4, [], .pointer b_), (5, [], .pointer (some ⟨b_1, 1, none⟩))] ?_
   obtain ⟨v6, hc, h⟩ := h
   refine Zl 47 5 b_1 1 47 6 hc ?_
   refine Zn [] 3 [(4, [], .pointer b_), (6, [], sv_ v6)] ?_
   refine Zm 35 #[.pointer b_, sv_ v6] (some 7) (Calls.mono h ?_)
   rintro _ w2 ⟨rfl, h⟩
   refine ⟨_, rfl, ?_⟩
   refine Ze [] ?_
   repeat (first | refine seqQ_exit ?_ | refine loopQ_exit ?_ | refine cutQ_exit ?_ | refine blockQ_hit ?_ | refine blockQ_miss (by kernel_rfl) ?_)
   refine retQ_normal ?_
   repeat (first | refine seqQ_ret ?_ | refine blockQ_ret ?_ | refine loopQ_ret ?_ | refine cutQ_ret ?_)
   exact retT (rs := []) (vs := []) (by kernel_rfl) (trivial) (by kernel_rfl) ⟨rfl, h⟩
 · rintro e w' ⟨v, rfl, rfl, h⟩; exact ⟨rfl, h⟩

/-! ### (*towpath/towpathlaw01.Book).Apart (function 13) -/
def c13_0 := cb_ Tryz.f13
def c13_3 := cr_ c13_0
def c13_4 := cl_ c13_3
def r13_4 := co_ c13_4
def c13_6 := cr_ c13_3
def c13_7 := cl_ c13_6
def r13_7 := co_ c13_7
def c13_9 := cr_ c13_6
def c13_10 := cl_ c13_9
def r13_10 := co_ c13_10
def c13_12 := cr_ c13_9
def c13_13 := cl_ c13_12
def r13_13 := co_ c13_13
def c13_15 := cr_ c13_12
def c13_16 := cl_ c13_15
def r13_16 := co_ c13_16
def c13_18 := cr_ c13_15
def c13_19 := cl_ c13_18
def r13_19 := co_ c13_19
def c13_21 := cr_ c13_18
def c13_22 := cl_ c13_21
def r13_22 := co_ c13_22
def c13_24 := cr_ c13_21
def c13_25 := cl_ c13_24
def r13_25 := co_ c13_25
def c13_27 := cr_ c13_24
def c13_28 := cl_ c13_27
def r13_28 := co_ c13_28
def c13_30 := cr_ c13_27
def c13_31 := cl_ c13_30
def r13_31 := co_ c13_31
def c13_33 := cr_ c13_30
def c13_34 := cl_ c13_33
def r13_34 := co_ c13_34
def c13_36 := cr_ c13_33
def c13_37 := cl_ c13_36
def r13_37 := co_ c13_37
def c13_39 := cr_ c13_36
def c13_40 := cl_ c13_39
def r13_40 := co_ c13_40
def c13_42 := cr_ c13_39
def c13_43 := cl_ c13_42
def r13_43 := co_ c13_43
def c13_45 := cr_ c13_42
def c13_46 := cl_ c13_45
def r13_46 := co_ c13_46
def c13_48 := cr_ c13_45
def c13_49 := cl_ c13_48
def r13_49 := co_ c13_49
def c13_51 := cr_ c13_48
def c13_52 := cl_ c13_51
def r13_52 := co_ c13_52
def c13_54 := cr_ c13_51
def c13_55 := cl_ c13_54
def r13_55 := co_ c13_55
def c13_57 := cr_ c13_54
def c13_58 := cl_ c13_57
def r13_58 := co_ c13_58
def c13_60 := cr_ c13_57
def c13_61 := cl_ c13_60
def r13_61 := co_ c13_61
def c13_63 := cr_ c13_60
def c13_64 := cl_ c13_63
def r13_64 := co_ c13_64
def c13_66 := cr_ c13_63
def c13_67 := cl_ c13_66
def r13_67 := co_ c13_67
def c13_69 := cr_ c13_66
def c13_70 := cl_ c13_69
def r13_70 := co_ c13_70
def c13_72 := cr_ c13_69

theorem S_towpathlaw01_Book_Apart {b_ : Option Addr} {w : World} {R : Bool → World → Prop} (h : F_towpathlaw01_Book_Apart b_ R w) : C_towpathlaw01_Book_Apart b_ w R := by
 unfold F_towpathlaw01_Book_Apart at h
 unfold C_towpathlaw01_Book_Apart
 refine Calls.mono (calls_of_wpE (args := [Value.pointer b_]) (R := fun v w' => ∃ (r0 : Bool), v = Value.bool r0 ∧ R r0 w') Tryz.func13 (c := c13_0) (by kernel_rfl) 89 (by kernel_rfl) (by kernel_rfl) [(0, Value.pointer b_)] (by kernel_rfl) ?_) ?_
 · refine Zp c13_3 P1 [(0, .pointer b_)] ?_
   refine Zt r13_4 c13_6 ?_
   refine Zn P1 1 [(0, [], .pointer b_), (3, [], .pointer b_)] ?_
   refine Zm 36 #[.pointer b_] (some 4) (Calls.mono h ?_)
   rintro _ w1 ⟨rfl, h⟩
   refine ⟨_, rfl, ?_⟩
   refine Ze [(0, .pointer b_)] ?_
   change WpE _ _ c13_6 _ _ _
   refine Zt r13_7 c13_9 ?_
   refine Zn P1 1 [(0, [], .pointer b_), (5, [], .pointer b_)] ?_
   refine Zm 37 #[.pointer b_] (some 6) (Calls.mono h ?_)
   rintro _ w2 ⟨rfl, h⟩
   refine ⟨_, rfl, ?_⟩
   refine Ze [(0, .pointer b_)] ?_
   change WpE _ _ c13_9 _ _ _
   refine Zt r13_10 c13_12 ?_
   refine Zn P1 1 [(0, [], .pointer b_), (7, [], .pointer b_)] ?_
   refine Zm 38 #[.pointer b_] (some 8) (Calls.mono h ?_)
   rintro _ w3 ⟨rfl, h⟩
   refine ⟨_, rfl, ?_⟩
   refine Ze [(0, .pointer b_)] ?_
   change WpE _ _ c13_12 _ _ _
   refine Zt r13_13 c13_15 ?_
   refine Zn P1 1 [(0, [], .pointer b_), (9, [], .pointer b_)] ?_
   refine Zm 39 #[.pointer b_] (some 10) (Calls.mono h ?_)
   rintro _ w4 ⟨rfl, h⟩
   refine ⟨_, rfl, ?_⟩
   refine Ze [(0, .pointer b_)] ?_
   change WpE _ _ c13_15 _ _ _
   refine Zt r13_16 c13_18 ?_
   refine Zn P1 1 [(0, [], .pointer b_), (11, [], .pointer b_)] ?_
   refine Zm 40 #[.pointer b_] (some 12) (Calls.mono h ?_)
   rintro _ w5 ⟨rfl, h⟩
   refine ⟨_, rfl, ?_⟩
   refine Ze [(0, .pointer b_)] ?_
   change WpE _ _ c13_18 _ _ _
   refine Zt r13_19 c13_21 ?_
   refine Zn P1 1 [(0, [], .pointer b_), (13, [], .pointer b_)] ?_
   refine Zm 41 #[.pointer b_] (some 14) (Calls.mono h ?_)
   rintro _ w6 ⟨rfl, h⟩
   refine ⟨_, rfl, ?_⟩
   refine Ze [(0, .pointer b_)] ?_
   change WpE _ _ c13_21 _ _ _
   refine Zt r13_22 c13_24 ?_
   refine Zn P1 1 [(0, [], .pointer b_), (15, [], .pointer b_)] ?_
   refine Zm 42 #[.pointer b_] (some 16) (Calls.mono h ?_)
   rintro _ w7 ⟨rfl, h⟩
   refine ⟨_, rfl, ?_⟩
   refine Ze [(0, .pointer b_)] ?_
   change WpE _ _ c13_24 _ _ _
   refine Zt r13_25 c13_27 ?_
   refine Zn P1 1 [(0, [], .pointer b_), (17, [], .pointer b_)] ?_
   refine Zm 43 #[.pointer b_] (some 18) (Calls.mono h ?_)
   rintro _ w8 ⟨rfl, h⟩
   refine ⟨_, rfl, ?_⟩
   refine Ze [(0, .pointer b_)] ?_
   change WpE _ _ c13_27 _ _ _
   refine Zt r13_28 c13_30 ?_
   refine Zn P1 1 [(0, [], .pointer b_), (19, [], .pointer b_)] ?_
   refine Zm 44 #[.pointer b_] (some 20) (Calls.mono h ?_)
   rintro _ w9 ⟨rfl, h⟩
   refine ⟨_, rfl, ?_⟩
   refine Ze [(0, .pointer b_)] ?_
   change WpE _ _ c13_30 _ _ _
   refine Zt r13_31 c13_33 ?_
   refine Zn P1 1 [(0, [], .pointer b_), (21, [], .pointer b_)] ?_
   refine Zm 45 #[.pointer b_] (some 22) (Calls.mono h ?_)
   rintro _ w10 ⟨rfl, h⟩
   refine ⟨_, rfl, ?_⟩
   refine Ze [(0, .pointer b_)] ?_
   change WpE _ _ c13_33 _ _ _
   refine Zt r13_34 c13_36 ?_
   refine Zn P1 1 [(0, [], .pointer b_), (23, [], .pointer b_)] ?_
   refine Zm 46 #[.pointer b_] (some 24) (Calls.mono h ?_)
   rintro _ w11 ⟨rfl, h⟩
   refine ⟨_, rfl, ?_⟩
   refine Ze [(0, .pointer b_)] ?_
   change WpE _ _ c13_36 _ _ _
   refine Zt r13_37 c13_39 ?_
   refine Zn P1 1 [(0, [], .pointer b_), (25, [], .pointer b_)] ?_
   refine Zm 47 #[.pointer b_] (some 26) (Calls.mono h ?_)
   rintro _ w12 ⟨rfl, h⟩
   refine ⟨_, rfl, ?_⟩
   refine Ze [(0, .pointer b_)] ?_
   change WpE _ _ c13_39 _ _ _
   refine Zt r13_40 c13_42 ?_
   refine Zn P1 1 [(0, [], .pointer b_), (27, [], .pointer b_)] ?_
   refine Zm 48 #[.pointer b_] (some 28) (Calls.mono h ?_)
   rintro _ w13 ⟨rfl, h⟩
   refine ⟨_, rfl, ?_⟩
   refine Ze [(0, .pointer b_)] ?_
   change WpE _ _ c13_42 _ _ _
   refine Zt r13_43 c13_45 ?_
   refine Zn P1 1 [(0, [], .pointer b_), (29, [], .pointer b_)] ?_
   refine Zm 49 #[.pointer b_] (some 30) (Calls.mono h ?_)
   rintro _ w14 ⟨rfl, h⟩
   refine ⟨_, rfl, ?_⟩
   refine Ze [(0, .pointer b_)] ?_
   change WpE _ _ c13_45 _ _ _
   refine Zt r13_46 c13_48 ?_
   refine Zn P1 1 [(0, [], .pointer b_), (31, [], .pointer b_)] ?_
   refine Zm 50 #[.pointer b_] (some 32) (Calls.mono h ?_)
   rintro _ w15 ⟨rfl, h⟩
   refine ⟨_, rfl, ?_⟩
   refine Ze [(0, .pointer b_)] ?_
   change WpE _ _ c13_48 _ _ _
   refine Zt r13_49 c13_51 ?_
   refine Zn P1 1 [(0, [], .pointer b_), (33, [], .pointer b_)] ?_
   refine Zm 51 #[.pointer b_] (some 34) (Calls.mono h ?_)
   rintro _ w16 ⟨rfl, h⟩
   refine ⟨_, rfl, ?_⟩
   refine Ze [(0, .pointer b_)] ?_
   change WpE _ _ c13_51 _ _ _
   refine Zt r13_52 c13_54 ?_
   refine Zn P1 1 [(0, [], .pointer b_), (35, [], .pointer b_)] ?_
   refine Zm 52 #[.pointer b_] (some 36) (Calls.mono h ?_)
   rintro _ w17 ⟨rfl, h⟩
   refine ⟨_, rfl, ?_⟩
   refine Ze [(0, .pointer b_)] ?_
   change WpE _ _ c13_54 _ _ _
   refine Zt r13_55 c13_57 ?_
   refine Zn P1 1 [(0, [], .pointer b_), (37, [], .pointer b_)] ?_
   refine Zm 53 #[.pointer b_] (some 38) (Calls.mono h ?_)
   rintro _ w18 ⟨rfl, h⟩
   refine ⟨_, rfl, ?_⟩
   refine Ze [(0, .pointer b_)] ?_
   change WpE _ _ c13_57 _ _ _
   refine Zt r13_58 c13_60 ?_
   refine Zn P1 1 [(0, [], .pointer b_), (39, [], .pointer b_)] ?_
   refine Zm 54 #[.pointer b_] (some 40) (Calls.mono h ?_)
   rintro _ w19 ⟨rfl, h⟩
   refine ⟨_, rfl, ?_⟩
   refine Ze [(0, .pointer b_)] ?_
   change WpE _ _ c13_60 _ _ _
   refine Zt r13_61 c13_63 ?_
   refine Zn P1 1 [(0, [], .pointer b_), (41, [], .pointer b_)] ?_
   refine Zm 55 #[.pointer b_] (some 42) (Calls.mono h ?_)
   rintro _ w20 ⟨rfl, h⟩
   refine ⟨_, rfl, ?_⟩
   refine Ze [(0, .pointer b_)] ?_
   change WpE _ _ c13_63 _ _ _
   refine Zt r13_64 c13_66 ?_
   refine Zn P1 1 [(0, [], .pointer b_), (43, [], .pointer b_)] ?_
   refine Zm 56 #[.pointer b_] (some 44) (Calls.mono h ?_)
   rintro _ w21 ⟨rfl, h⟩
   refine ⟨_, rfl, ?_⟩
   refine Ze [(0, .pointer b_)] ?_
   change WpE _ _ c13_66 _ _ _
   refine Zt r13_67 c13_69 ?_
   refine Zn P1 1 [(0, [], .pointer b_), (45, [], .pointer b_)] ?_
   refine Zm 57 #[.pointer b_] (some 46) (Calls.mono h ?_)
   rintro _ w22 ⟨rfl, h⟩
   refine ⟨_, rfl, ?_⟩
   refine Ze [(0, .pointer b_)] ?_
   change WpE _ _ c13_69 _ _ _
   refine Zt r13_70 c13_72 ?_
   refine Zn P1 1 [(0, [], .pointer b_), (47, [], .pointer b_)] ?_
   refine Zm 58 #[.pointer b_] (some 48) (Calls.mono h ?_)
   rintro _ w23 ⟨v48, rfl, h⟩
   refine ⟨_, rfl, ?_⟩
   refine Zn P2 4 [(0, [], .pointer b_), (49, [], .bool v48), (50, [(49, true)], .pointer b_)] ?_
   refine reg_split 49 v48 (by kernel_rfl) (fun hb => ?_) (fun hb => ?_)
   · replace h := h.1 hb
     refine Zn [] 4 [(0, [], .pointer b_), (49, [], .bool true), (50, [], .pointer b_)] ?_
     refine Zn [] 4 [(0, [], .pointer b_), (49, [], .bool true), (50, [], .pointer b_)] ?_
     refine Zm 59 #[.pointer b_] (some 51) (Calls.mono h ?_)
     rintro _ w24 ⟨v51, rfl, h⟩
     refine ⟨_, rfl, ?_⟩
     refine Zn P3 8 [(0, [], .pointer b_), (53, [], .bool v51), (54, [(53, true)], .pointer b_)] ?_
     refine reg_split 53 v51 (by kernel_rfl) (fun hb => ?_) (fun hb => ?_)
     · replace h := h.1 hb
       refine Zn [] 8 [(0, [], .pointer b_), (53, [], .bool true), (54, [], .pointer b_)] ?_
       refine Zn [] 8 [(0, [], .pointer b_), (53, [], .bool true), (54, [], .pointer b_)] ?_
       refine Zm 60 #[.pointer b_] (some 55) (Calls.mono h ?_)
       rintro _ w25 ⟨v55, rfl, h⟩
       refine ⟨_, rfl, ?_⟩
       refine Zn P3 12 [(0, [], .pointer b_), (57, [], .bool v55), (58, [(57, true)], .pointer b_)] ?_
       refine reg_split 57 v55 (by kernel_rfl) (fun hb => ?_) (fun hb => ?_)
       · replace h := h.1 hb
         refine Zn [] 12 [(0, [], .pointer b_), (57, [], .bool true), (58, [], .pointer b_)] ?_
         refine Zn [] 12 [(0, [], .pointer b_), (57, [], .bool true), (58, [], .pointer b_)] ?_
         refine Zm 61 #[.pointer b_] (some 59) (Calls.mono h ?_)
         rintro _ w26 ⟨v59, rfl, h⟩
         refine ⟨_, rfl, ?_⟩
         refine Zn P3 16 [(0, [], .pointer b_), (61, [], .bool v59), (62, [(61, true)], .pointer b_)] ?_
         refine reg_split 61 v59 (by kernel_rfl) (fun hb => ?_) (fun hb => ?_)
         · replace h := h.1 hb
           refine Zn [] 16 [(0, [], .pointer b_), (61, [], .bool true), (62, [], .pointer b_)] ?_
           refine Zn [] 16 [(0, [], .pointer b_), (61, [], .bool true), (62, [], .pointer b_)] ?_
           refine Zm 62 #[.pointer b_] (some 63) (Calls.mono h ?_)
           rintro _ w27 ⟨v63, rfl, h⟩
           refine ⟨_, rfl, ?_⟩
           refine Zn P3 20 [(0, [], .pointer b_), (65, [], .bool v63), (66, [(65, true)], .pointer b_)] ?_
           refine reg_split 65 v63 (by kernel_rfl) (fun hb => ?_) (fun hb => ?_)
           · replace h := h.1 hb
             refine Zn [] 20 [(0, [], .pointer b_), (65, [], .bool true), (66, [], .pointer b_)] ?_
             refine Zn [] 20 [(0, [], .pointer b_), (65, [], .bool true), (66, [], .pointer b_)] ?_
             refine Zm 63 #[.pointer b_] (some 67) (Calls.mono h ?_)
             rintro _ w28 ⟨v67, rfl, h⟩
             refine ⟨_, rfl, ?_⟩
             refine Zn P3 24 [(0, [], .pointer b_), (69, [], .bool v67), (70, [(69, true)], .pointer b_)] ?_
             refine reg_split 69 v67 (by kernel_rfl) (fun hb => ?_) (fun hb => ?_)
             · replace h := h.1 hb
               refine Zn [] 24 [(0, [], .pointer b_), (69, [], .bool true), (70, [], .pointer b_)] ?_
               refine Zn [] 24 [(0, [], .pointer b_), (69, [], .bool true), (70, [], .pointer b_)] ?_
               refine Zm 64 #[.pointer b_] (some 71) (Calls.mono h ?_)
               rintro _ w29 ⟨v71, rfl, h⟩
               refine ⟨_, rfl, ?_⟩
               refine Zn P3 28 [(0, [], .pointer b_), (73, [], .bool v71), (74, [(73, true)], .pointer b_)] ?_
               refine reg_split 73 v71 (by kernel_rfl) (fun hb => ?_) (fun hb => ?_)
               · replace h := h.1 hb
                 refine Zn [] 28 [(0, [], .pointer b_), (73, [], .bool true), (74, [], .pointer b_)] ?_
                 refine Zn [] 28 [(0, [], .pointer b_), (73, [], .bool true), (74, [], .pointer b_)] ?_
                 refine Zm 65 #[.pointer b_] (some 75) (Calls.mono h ?_)
                 rintro _ w30 ⟨v75, rfl, h⟩
                 refine ⟨_, rfl, ?_⟩
                 refine Zn P3 32 [(0, [], .pointer b_), (77, [], .bool v75), (78, [(77, true)], .pointer b_)] ?_
                 refine reg_split 77 v75 (by kernel_rfl) (fun hb => ?_) (fun hb => ?_)
                 · replace h := h.1 hb
                   refine Zn [] 32 [(0, [], .pointer b_), (77, [], .bool true), (78, [], .pointer b_)] ?_
                   refine Zn [] 32 [(0, [], .pointer b_), (77, [], .bool true), (78, [], .pointer b_)] ?_
                   refine Zm 66 #[.pointer b_] (some 79) (Calls.mono h ?_)
                   rintro _ w31 ⟨v79, rfl, h⟩
                   refine ⟨_, rfl, ?_⟩
                   refine Zn P3 36 [(0, [], .pointer b_), (81, [], .bool v79), (82, [(81, true)], .pointer b_)] ?_
                   refine reg_split 81 v79 (by kernel_rfl) (fun hb => ?_) (fun hb => ?_)
                   · replace h := h.1 hb
                     refine Zn [] 36 [(0, [], .pointer b_), (81, [], .bool true), (82, [], .pointer b_)] ?_
                     refine Zn [] 36 [(0, [], .pointer b_), (81, [], .bool true), (82, [], .pointer b_)] ?_
                     refine Zm 67 #[.pointer b_] (some 83) (Calls.mono h ?_)
                     rintro _ w32 ⟨v83, rfl, h⟩
                     refine ⟨_, rfl, ?_⟩
                     refine Zn P3 40 [(85, [], .bool v83), (86, [(85, true)], .pointer b_)] ?_
                     refine reg_split 85 v83 (by kernel_rfl) (fun hb => ?_) (fun hb => ?_)
                     · replace h := h.1 hb
                       refine Zn [] 40 [(85, [], .bool true), (86, [], .pointer b_)] ?_
                       refine Zn [] 40 [(85, [], .bool true), (86, [], .pointer b_)] ?_
                       refine Zm 68 #[.pointer b_] (some 87) (Calls.mono h ?_)
                       rintro _ w33 ⟨v87, rfl, h⟩
                       refine ⟨_, rfl, ?_⟩
                       refine Zf P2 [(2, .bool v87)] ?_
                       change WpE _ _ c13_72 _ _ _
                       refine wpE_ret (by kernel_rfl) ?_
                       repeat (first | refine seqQ_ret ?_ | refine blockQ_ret ?_ | refine loopQ_ret ?_ | refine cutQ_ret ?_)
                       exact retS (rs := [(ResultVar.tmp 2)]) (v := Value.bool v87) (by kernel_rfl) (⟨by kernel_rfl, trivial⟩) ⟨v87, rfl, h⟩
                     · replace h := h.2 hb
                       refine Zn [] 40 [(85, [], .bool false), (86, [], undef)] ?_
                       refine Zf [.skip, .plain, .plain] [(2, .bool false)] ?_
                       change WpE _ _ c13_72 _ _ _
                       refine wpE_ret (by kernel_rfl) ?_
                       repeat (first | refine seqQ_ret ?_ | refine blockQ_ret ?_ | refine loopQ_ret ?_ | refine cutQ_ret ?_)
                       exact retS (rs := [(ResultVar.tmp 2)]) (v := Value.bool false) (by kernel_rfl) (⟨by kernel_rfl, trivial⟩) ⟨false, rfl, h⟩
                   · replace h := h.2 hb
                     refine Zn [] 36 [(0, [], .pointer b_), (81, [], .bool false), (82, [], undef)] ?_
                     refine Zf [.skip, .plain, .plain, .skip, .skip, .plain, .plain] [(2, .bool false)] ?_
                     change WpE _ _ c13_72 _ _ _
                     refine wpE_ret (by kernel_rfl) ?_
                     repeat (first | refine seqQ_ret ?_ | refine blockQ_ret ?_ | refine loopQ_ret ?_ | refine cutQ_ret ?_)
                     exact retS (rs := [(ResultVar.tmp 2)]) (v := Value.bool false) (by kernel_rfl) (⟨by kernel_rfl, trivial⟩) ⟨false, rfl, h⟩
                 · replace h := h.2 hb
                   refine Zn [] 32 [(0, [], .pointer b_), (77, [], .bool false), (78, [], undef)] ?_
                   refine Zf [.skip, .plain, .plain, .skip, .skip, .plain, .plain, .skip, .skip, .plain, .plain] [(2, .bool false)] ?_
                   change WpE _ _ c13_72 _ _ _
                   refine wpE_ret (by kernel_rfl) ?_
                   repeat (first | refine seqQ_ret ?_ | refine blockQ_ret ?_ | refine loopQ_ret ?_ | refine cutQ_ret ?_)
                   exact retS (rs := [(ResultVar.tmp 2)]) (v := Value.bool false) (by kernel_rfl) (⟨by kernel_rfl, trivial⟩) ⟨false, rfl, h⟩
               · replace h := h.2 hb
                 refine Zn [] 28 [(0, [], .pointer b_), (73, [], .bool false), (74, [], undef)] ?_
                 refine Zf [.skip, .plain, .plain, .skip, .skip, .plain, .plain, .skip, .skip, .plain, .plain, .skip, .skip, .plain, .plain] [(2, .bool false)] ?_
                 change WpE _ _ c13_72 _ _ _
                 refine wpE_ret (by kernel_rfl) ?_
                 repeat (first | refine seqQ_ret ?_ | refine blockQ_ret ?_ | refine loopQ_ret ?_ | refine cutQ_ret ?_)
                 exact retS (rs := [(ResultVar.tmp 2)]) (v := Value.bool false) (by kernel_rfl) (⟨by kernel_rfl, trivial⟩) ⟨false, rfl, h⟩
             · replace h := h.2 hb
               refine Zn [] 24 [(0, [], .pointer b_), (69, [], .bool false), (70, [], undef)] ?_
               refine Zf [.skip, .plain, .plain, .skip, .skip, .plain, .plain, .skip, .skip, .plain, .plain, .skip, .skip, .plain, .plain, .skip, .skip, .plain, .plain] [(2, .bool false)] ?_
               change WpE _ _ c13_72 _ _ _
               refine wpE_ret (by kernel_rfl) ?_
               repeat (first | refine seqQ_ret ?_ | refine blockQ_ret ?_ | refine loopQ_ret ?_ | refine cutQ_ret ?_)
               exact retS (rs := [(ResultVar.tmp 2)]) (v := Value.bool false) (by kernel_rfl) (⟨by kernel_rfl, trivial⟩) ⟨false, rfl, h⟩
           · replace h := h.2 hb
             refine Zn [] 20 [(0, [], .pointer b_), (65, [], .bool false), (66, [], undef)] ?_
             refine Zf [.skip, .plain, .plain, .skip, .skip, .plain, .plain, .skip, .skip, .plain, .plain, .skip, .skip, .plain, .plain, .skip, .skip, .plain, .plain, .skip, .skip, .plain, .plain] [(2, .bool false)] ?_
             change WpE _ _ c13_72 _ _ _
             refine wpE_ret (by kernel_rfl) ?_
             repeat (first | refine seqQ_ret ?_ | refine blockQ_ret ?_ | refine loopQ_ret ?_ | refine cutQ_ret ?_)
             exact retS (rs := [(ResultVar.tmp 2)]) (v := Value.bool false) (by kernel_rfl) (⟨by kernel_rfl, trivial⟩) ⟨false, rfl, h⟩
         · replace h := h.2 hb
           refine Zn [] 16 [(0, [], .pointer b_), (61, [], .bool false), (62, [], undef)] ?_
           refine Zf [.skip, .plain, .plain, .skip, .skip, .plain, .plain, .skip, .skip, .plain, .plain, .skip, .skip, .plain, .plain, .skip, .skip, .plain, .plain, .skip, .skip, .plain, .plain, .skip, .skip, .plain, .plain] [(2, .bool false)] ?_
           change WpE _ _ c13_72 _ _ _
           refine wpE_ret (by kernel_rfl) ?_
           repeat (first | refine seqQ_ret ?_ | refine blockQ_ret ?_ | refine loopQ_ret ?_ | refine cutQ_ret ?_)
           exact retS (rs := [(ResultVar.tmp 2)]) (v := Value.bool false) (by kernel_rfl) (⟨by kernel_rfl, trivial⟩) ⟨false, rfl, h⟩
       · replace h := h.2 hb
         refine Zn [] 12 [(0, [], .pointer b_), (57, [], .bool false), (58, [], undef)] ?_
         refine Zf [.skip, .plain, .plain, .skip, .skip, .plain, .plain, .skip, .skip, .plain, .plain, .skip, .skip, .plain, .plain, .skip, .skip, .plain, .plain, .skip, .skip, .plain, .plain, .skip, .skip, .plain, .plain, .skip, .skip, .plain, .plain] [(2, .bool false)] ?_
         change WpE _ _ c13_72 _ _ _
         refine wpE_ret (by kernel_rfl) ?_
         repeat (first | refine seqQ_ret ?_ | refine blockQ_ret ?_ | refine loopQ_ret ?_ | refine cutQ_ret ?_)
         exact retS (rs := [(ResultVar.tmp 2)]) (v := Value.bool false) (by kernel_rfl) (⟨by kernel_rfl, trivial⟩) ⟨false, rfl, h⟩
     · replace h := h.2 hb
       refine Zn [] 8 [(0, [], .pointer b_), (53, [], .bool false), (54, [], undef)] ?_
       refine Zf [.skip, .plain, .plain, .skip, .skip, .plain, .plain, .skip, .skip, .plain, .plain, .skip, .skip, .plain, .plain, .skip, .skip, .plain, .plain, .skip, .skip, .plain, .plain, .skip, .skip, .plain, .plain, .skip, .skip, .plain, .plain, .skip, .skip, .plain, .plain] [(2, .bool false)] ?_
       change WpE _ _ c13_72 _ _ _
       refine wpE_ret (by kernel_rfl) ?_
       repeat (first | refine seqQ_ret ?_ | refine blockQ_ret ?_ | refine loopQ_ret ?_ | refine cutQ_ret ?_)
       exact retS (rs := [(ResultVar.tmp 2)]) (v := Value.bool false) (by kernel_rfl) (⟨by kernel_rfl, trivial⟩) ⟨false, rfl, h⟩
   · replace h := h.2 hb
     refine Zn [] 4 [(0, [], .pointer b_), (49, [], .bool false), (50, [], undef)] ?_
     refine Zf [.skip, .plain, .plain, .skip, .skip, .plain, .plain, .skip, .skip, .plain, .plain, .skip, .skip, .plain, .plain, .skip, .skip, .plain, .plain, .skip, .skip, .plain, .plain, .skip, .skip, .plain, .plain, .skip, .skip, .plain, .plain, .skip, .skip, .plain, .plain, .skip, .skip, .plain, .plain] [(2, .bool false)] ?_
     change WpE _ _ c13_72 _ _ _
     refine wpE_ret (by kernel_rfl) ?_
     repeat (first | refine seqQ_ret ?_ | refine blockQ_ret ?_ | refine loopQ_ret ?_ | refine cutQ_ret ?_)
     exact retS (rs := [(ResultVar.tmp 2)]) (v := Value.bool false) (by kernel_rfl) (⟨by kernel_rfl, trivial⟩) ⟨false, rfl, h⟩
 · rintro e w' ⟨v, rfl, r0, rfl, h⟩; exact ⟨r0, rfl, h⟩

/-! ### towpath/towpathlaw01.SameWrites (function 34) -/
def c34_0 := cb_ Tryz.f34
def c34_3 := cr_ c34_0
def c34_4 := cl_ c34_3
def c34_7 := cr_ c34_4
def c34_8 := cl_ c34_7
def c34_11 := cr_ c34_8
def c34_12 := cr_ c34_7
def c34_13 := cr_ c34_3
def c34_14 := cl_ c34_13
def c34_17 := cr_ c34_14
def c34_18 := cl_ c34_17
def c34_19 := cl_ c34_18
def c34_20 := cl_ c34_19
def c34_23 := cr_ c34_20
def c34_24 := cl_ c34_23
def c34_25 := cr_ c34_23
def c34_26 := cr_ c34_19
def c34_27 := cl_ c34_26
def c34_28 := cl_ c34_27
def c34_29 := cl_ c34_28
def r34_29 := co_ c34_29
def c34_31 := cr_ c34_28
def c34_32 := cl_ c34_31
def c34_35 := cr_ c34_32
def c34_36 := cr_ c34_31
def c34_37 := cr_ c34_26
def r34_37 := co_ c34_37
def c34_39 := cr_ c34_13
def c34_42 := cr_ c34_39

theorem S_towpathlaw01_SameWrites {a_ : Slc} {b_ : Slc} {w : World} {R : Bool → World → Prop} (h : F_towpathlaw01_SameWrites a_ b_ R w) : C_towpathlaw01_SameWrites a_ b_ w R := by
 unfold F_towpathlaw01_SameWrites at h
 unfold C_towpathlaw01_SameWrites
 refine Calls.mono (calls_of_wpE (args := [sv_ a_, sv_ b_]) (R := fun v w' => ∃ (r0 : Bool), v = Value.bool r0 ∧ R r0 w') Tryz.func34 (c := c34_0) (by kernel_rfl) 26 (by kernel_rfl) (by kernel_rfl) [(0, sv_ a_), (1, sv_ b_)] (by kernel_rfl) ?_) ?_
 · refine Zp c34_3 P1 [(0, sv_ a_), (1, sv_ b_)] ?_
   refine Zs c34_4 c34_13 ?_
   refine Zp c34_7 (Pl 5) [(0, sv_ a_), (1, sv_ b_), (10, .bool (((a_.len : Nat) : Int) != ((b_.len : Nat) : Int)))] ?_
   refine Zc 10 (((a_.len : Nat) : Int) != ((b_.len : Nat) : Int)) c34_8 c34_12 (fun hb => ?_) (fun hb => ?_)
   · replace h := h.1 hb
     refine Zp c34_11 P1 [(4, .bool false)] ?_
     refine wpE_ret (by kernel_rfl) ?_
     repeat (first | refine seqQ_ret ?_ | refine blockQ_ret ?_ | refine loopQ_ret ?_ | refine cutQ_ret ?_)
     exact retS (rs := [(ResultVar.tmp 4)]) (v := Value.bool false) (by kernel_rfl) (⟨by kernel_rfl, trivial⟩) ⟨false, rfl, h⟩
   · replace h := h.2 hb
     refine wpE_skip (by kernel_rfl) ?_
     change WpE _ _ c34_13 _ _ _
     refine Zs c34_14 c34_39 ?_
     refine Zp c34_17 P1 [(0, sv_ a_), (1, sv_ b_), (5, .int .i64 0)] ?_
     refine Zb 0 c34_18 ?_
     obtain ⟨I, μ, h0, hr⟩ := h
     refine wpE_loop (x := c34_19) (by kernel_rfl) (fun m l w => ∃ (i : Int), l = [(0, sv_ a_), (1, sv_ b_), (5, Value.int .i64 i)] ∧ I i w ∧ μ i w = m) (l' := [(0, sv_ a_), (1, sv_ b_), (5, Value.int .i64 0)]) (Sub.mk (by kernel_rfl)) ⟨0, rfl, h0, rfl⟩ ?_
     rintro _ _ w1 ⟨i, rfl, hI, rfl⟩
     obtain ⟨again_, again__h, h⟩ : ∃ again_ : Int → World → Prop, (∀ i' w', again_ i' w' → I i' w' ∧ μ i' w' < μ i w1) ∧ F_towpathlaw01_SameWrites_L0 a_ b_ R again_ i w1 := ⟨_, fun _ _ h => h, hr i w1 hI⟩
     clear h0 hI
     unfold F_towpathlaw01_SameWrites_L0 at h
     refine Zs c34_20 c34_26 ?_
     refine Zp c34_23 P4 [(0, sv_ a_), (1, sv_ b_), (5, .int .i64 i), (14, .bool (decide (i < ((a_.len : Nat) : Int))))] ?_
     refine Zc 14 (decide (i < ((a_.len : Nat) : Int))) c34_24 c34_25 (fun hb => ?_) (fun hb => ?_)
     · replace h := h.1 hb
       refine wpE_skip (by kernel_rfl) ?_
       change WpE _ _ c34_26 _ _ _
       refine Zs c34_27 c34_37 ?_
       refine Zb 1 c34_28 ?_
       refine Zs c34_29 c34_31 ?_
       refine wpE_drawregion (id := 6) (ops := r34_29) (by kernel_rfl) (by kernel_rfl) (by kernel_rfl) ?_
       refine qreg_run P2 2 [(0, [], sv_ a_), (1, [], sv_ b_), (5, [], Value.int .i64 i), (17, [], sv_ a_), (18, [], Value.int .i64 i)] (by kernel_rfl) (by kernel_rfl) ?_
       obtain ⟨hp_14, h⟩ := h
       refine qreg_conv [(0, [], sv_ a_), (1, [], sv_ b_), (5, [], Value.int .i64 i), (17, [], Value.slice (some ⟨(pblk a_.ptr), (poff a_.ptr), none⟩) a_.len a_.cap), (18, [], Value.int .i64 i)] (congrArg (fun pp => ([(0, [], sv_ a_), (1, [], sv_ b_), (5, [], Value.int .i64 i), (17, [], Value.slice pp a_.len a_.cap), (18, [], Value.int .i64 i)] : GEnv)) hp_14) ?_
       obtain ⟨h0, h1, h⟩ := h
       refine qreg_indexS (t := 47) (e := 80) (x := (Operand.tmp 17)) (ix := (Operand.tmp 18)) (b := (pblk a_.ptr)) (o := (poff a_.ptr)) (l := a_.len) (c := a_.cap) (k := .i64) (j := i) (ty := 0) (dst := some 19) (sz := 3) (by kernel_rfl) (by kernel_rfl) (by kernel_rfl) (by kernel_rfl) (by kernel_rfl) h0 h1 ?_
       refine qreg_run [] 3 [(0, [], sv_ a_), (1, [], sv_ b_), (5, [], Value.int .i64 i), (19, [], Value.pointer (some ⟨(pblk a_.ptr), (poff a_.ptr) + i.toNat * 3, none⟩))] (by kernel_rfl) (by kernel_rfl) ?_
       obtain ⟨v20, hc, h⟩ := h
       refine qreg_loadN (t := 80) (a := (Operand.tmp 19)) (b := (pblk a_.ptr)) (o := ((poff a_.ptr) + i.toNat * 3)) (ty := 80) (dst := some 20) [Value.string v20.Key, Value.string v20.Val, Value.bool v20.Drop] (by kernel_rfl) (by kernel_rfl) (by kernel_rfl) (k := 3) (by kernel_rfl) (by kernel_rfl) hc ?_
       refine qreg_run P2 6 [(0, [], sv_ a_), (1, [], sv_ b_), (5, [], Value.int .i64 i), (20, [], Value.agg #[Value.string v20.Key, Value.string v20.Val, Value.bool v20.Drop]), (21, [], sv_ b_), (22, [], Value.int .i64 i)] (by kernel_rfl) (by kernel_rfl) ?_
       obtain ⟨hp_15, h⟩ := h
       refine qreg_conv [(0, [], sv_ a_), (1, [], sv_ b_), (5, [], Value.int .i64 i), (20, [], Value.agg #[Value.string v20.Key, Value.string v20.Val, Value.bool v20.Drop]), (21, [], Value.slice (some ⟨(pblk b_.ptr), (poff b_.ptr), none⟩) b_.len b_.cap), (22, [], Value.int .i64 i)] (congrArg (fun pp => ([(0, [], sv_ a_), (1, [], sv_ b_), (5, [], Value.int .i64 i), (20, [], Value.agg #[Value.string v20.Key, Value.string v20.Val, Value.bool v20.Drop]), (21, [], Value.slice pp b_.len b_.cap), (22, [], Value.int .i64 i)] : GEnv)) hp_15) ?_
       obtain ⟨h0, h1, h⟩ := h
       refine qreg_indexS (t := 47) (e := 80) (x := (Operand.tmp 21)) (ix := (Operand.tmp 22)) (b := (pblk b_.ptr)) (o := (poff b_.ptr)) (l := b_.len) (c := b_.cap) (k := .i64) (j := i) (ty := 0) (dst := some 23) (sz := 3) (by kernel_rfl) (by kernel_rfl) (by kernel_rfl) (by kernel_rfl) (by kernel_rfl) h0 h1 ?_
       refine qreg_run [] 7 [(0, [], sv_ a_), (1, [], sv_ b_), (5, [], Value.int .i64 i), (20, [], Value.agg #[Value.string v20.Key, Value.string v20.Val, Value.bool v20.Drop]), (23, [], Value.pointer (some ⟨(pblk b_.ptr), (poff b_.ptr) + i.toNat * 3, none⟩))] (by kernel_rfl) (by kernel_rfl) ?_
       obtain ⟨v24, hc, h⟩ := h
       refine qreg_loadN (t := 80) (a := (Operand.tmp 23)) (b := (pblk b_.ptr)) (o := ((poff b_.ptr) + i.toNat * 3)) (ty := 80) (dst := some 24) [Value.string v24.Key, Value.string v24.Val, Value.bool v24.Drop] (by kernel_rfl) (by kernel_rfl) (by kernel_rfl) (k := 3) (by kernel_rfl) (by kernel_rfl) hc ?_
       refine qreg_run [] 8 [(0, [], sv_ a_), (1, [], sv_ b_), (5, [], Value.int .i64 i), (20, [], Value.agg #[Value.string v20.Key, Value.string v20.Val, Value.bool v20.Drop]), (24, [], Value.agg #[Value.string v24.Key, Value.string v24.Val, Value.bool v24.Drop])] (by kernel_rfl) (by kernel_rfl) ?_
       refine qreg_val (op := (Op.binOp BinOp.neq 80 (Operand.tmp 20) (Operand.tmp 24) 80)) (ty := 4) (dst := some 25) (Value.bool (!(((v20.Key == v24.Key) && (v20.Val == v24.Val)) && (v20.Drop == v24.Drop)))) (by kernel_rfl) (fun ww => run_struct_neq (xs := [Value.string v20.Key, Value.string v20.Val, Value.bool v20.Drop]) (ys := [Value.string v24.Key, Value.string v24.Val, Value.bool v24.Drop]) (by kernel_rfl) (by kernel_rfl) (by kernel_rfl) (by kernel_rfl) (by kernel_rfl) ww) ?_
       refine qreg_end [(0, sv_ a_), (1, sv_ b_), (5, Value.int .i64 i), (25, Value.bool (!(((v20.Key == v24.Key) && (v20.Val == v24.Val)) && (v20.Drop == v24.Drop))))] (by kernel_rfl) (by kernel_rfl) (fun w2 hw => ?_)
       replace h := h w2 hw
       clear hw
       change WpE _ _ c34_31 _ _ _
       refine Zc 25 (!(((v20.Key == v24.Key) && (v20.Val == v24.Val)) && (v20.Drop == v24.Drop))) c34_32 c34_36 (fun hb => ?_) (fun hb => ?_)
       · replace h := h.1 hb
         refine Zp c34_35 P1 [(4, .bool false)] ?_
         refine wpE_ret (by kernel_rfl) ?_
         repeat (first | refine seqQ_ret ?_ | refine blockQ_ret ?_ | refine loopQ_ret ?_ | refine cutQ_ret ?_)
         exact retS (rs := [(ResultVar.tmp 4)]) (v := Value.bool false) (by kernel_rfl) (⟨by kernel_rfl, trivial⟩) ⟨false, rfl, h⟩
       · replace h := h.2 hb
         refine wpE_skip (by kernel_rfl) ?_
         change WpE _ _ c34_37 _ _ _
         refine Zr r34_37 ?_
         refine Zf P3 [(0, sv_ a_), (1, sv_ b_), (5, .int .i64 (IntKind.i64.wrap (i + 1)))] ?_
         have hb_ := again__h _ _ h
         exact ⟨_, hb_.2, [(0, sv_ a_), (1, sv_ b_), (5, Value.int .i64 (IntKind.i64.wrap (i + 1)))], Sub.mk (by kernel_rfl), (IntKind.i64.wrap (i + 1)), rfl, hb_.1, rfl⟩
     · replace h := h.2 hb
       refine wpE_exit (id := 0) (by kernel_rfl) ?_
       change WpE _ _ c34_39 _ _ _
       refine Zp c34_42 P1 [(4, .bool true)] ?_
       refine wpE_ret (by kernel_rfl) ?_
       repeat (first | refine seqQ_ret ?_ | refine blockQ_ret ?_ | refine loopQ_ret ?_ | refine cutQ_ret ?_)
       exact retS (rs := [(ResultVar.tmp 4)]) (v := Value.bool true) (by kernel_rfl) (⟨by kernel_rfl, trivial⟩) ⟨true, rfl, h⟩
 · rintro e w' ⟨v, rfl, r0, rfl, h⟩; exact ⟨r0, rfl, h⟩

/-! ### (*towpath/towpathlaw01.Book).Writes (function 35) -/
def c35_0 := cb_ Tryz.f35
def r35_0 := co_ c35_0

theorem S_towpathlaw01_Book_Writes {b_ : Option Addr} {l_ : Slc} {w : World} {R : World → Prop} (h : F_towpathlaw01_Book_Writes b_ l_ R w) : C_towpathlaw01_Book_Writes b_ l_ w R := by
 unfold F_towpathlaw01_Book_Writes at h
 unfold C_towpathlaw01_Book_Writes
 refine Calls.mono (calls_of_wpE (args := [Value.pointer b_, sv_ l_]) (R := fun v w' => v = Value.tuple #[] ∧ R w') Tryz.func35 (c := c35_0) (by kernel_rfl) 7 (by kernel_rfl) (by kernel_rfl) [(0, Value.pointer b_), (1, sv_ l_)] (by kernel_rfl) ?_) ?_
 · refine Zr r35_0 ?_
   refine Zn P2 2 [(4, [], .pointer b_), (5, [], sv_ l_)] ?_
   refine Zm 90 #[.pointer b_, sv_ l_] (some 6) (Calls.mono h ?_)
   rintro _ w1 ⟨rfl, h⟩
   refine ⟨_, rfl, ?_⟩
   refine Ze [] ?_
   repeat (first | refine seqQ_exit ?_ | refine loopQ_exit ?_ | refine cutQ_exit ?_ | refine blockQ_hit ?_ | refine blockQ_miss (by kernel_rfl) ?_)
   refine retQ_normal ?_
   repeat (first | refine seqQ_ret ?_ | refine blockQ_ret ?_ | refine loopQ_ret ?_ | refine cutQ_ret ?_)
   exact retT (rs := []) (vs := []) (by kernel_rfl) (trivial) (by kernel_rfl) ⟨rfl, h⟩
 · rintro e w' ⟨v, rfl, rfl, h⟩; exact ⟨rfl, h⟩

/-! ### (*towpath/towpathlaw01.Book).fillByte (function 36) -/
def c36_0 := cb_ Tryz.f36
def c36_3 := cr_ c36_0
def c36_4 := cl_ c36_3
def c36_5 := cl_ c36_4
def c36_6 := cl_ c36_5
def c36_7 := cl_ c36_6
def r36_7 := co_ c36_7
def c36_9 := cr_ c36_6
def c36_10 := cl_ c36_9
def c36_11 := cr_ c36_9
def c36_12 := cr_ c36_5

theorem S_towpathlaw01_Book_fillByte {b_ : Option Addr} {w : World} {R : World → Prop} (h : F_towpathlaw01_Book_fillByte b_ R w) : C_towpathlaw01_Book_fillByte b_ w R := by
 unfold F_towpathlaw01_Book_fillByte at h
 unfold C_towpathlaw01_Book_fillByte
 refine Calls.mono (calls_of_wpE (args := [Value.pointer b_]) (R := fun v w' => v = Value.tuple #[] ∧ R w') Tryz.func36 (c := c36_0) (by kernel_rfl) 35 (by kernel_rfl) (by kernel_rfl) [(0, Value.pointer b_)] (by kernel_rfl) ?_) ?_
 · refine Zp c36_3 P1 [(0, .pointer b_), (2, .int .i64 0)] ?_
   refine Zb 0 c36_4 ?_
   obtain ⟨I, μ, h0, hr⟩ := h
   refine wpE_loop (x := c36_5) (by kernel_rfl) (fun m l w => ∃ (i : Int), l = [(0, Value.pointer b_), (2, Value.int .i64 i)] ∧ I i w ∧ μ i w = m) (l' := [(0, Value.pointer b_), (2, Value.int .i64 0)]) (Sub.mk (by kernel_rfl)) ⟨0, rfl, h0, rfl⟩ ?_
   rintro _ _ w1 ⟨i, rfl, hI, rfl⟩
   obtain ⟨again_, again__h, h⟩ : ∃ again_ : Int → World → Prop, (∀ i' w', again_ i' w' → I i' w' ∧ μ i' w' < μ i w1) ∧ F_towpathlaw01_Book_fillByte_L0 b_ R again_ i w1 := ⟨_, fun _ _ h => h, hr i w1 hI⟩
   clear h0 hI
   unfold F_towpathlaw01_Book_fillByte_L0 at h
   refine Zs c36_6 c36_12 ?_
   refine Zt r36_7 c36_9 ?_
   refine Zn P2 2 [(0, [], .pointer b_), (2, [], .int .i64 i), (5, [], .int .i64 i), (6, [], .pointer b_)] ?_
   obtain ⟨hp_3, h⟩ := h
   refine Zv (fun pp => [(0, [], .pointer b_), (2, [], .int .i64 i), (5, [], .int .i64 i), (6, [], .pointer pp)]) hp_3 ?_
   refine Zn P1 3 [(0, [], .pointer b_), (2, [], .int .i64 i), (5, [], .int .i64 i), (6, [], .pointer (some ⟨(pblk b_), (poff b_), none⟩)), (7, [], .pointer (some ⟨(pblk b_), (poff b_), none⟩))] ?_
   refine Zn P1 4 [(0, [], .pointer b_), (2, [], .int .i64 i), (5, [], .int .i64 i), (8, [], .pointer (some ⟨(pblk b_), (poff b_) + 1, none⟩))] ?_
   obtain ⟨v9, hc, h⟩ := h
   refine Zl 23 8 (pblk b_) ((poff b_) + 1) 23 9 hc ?_
   refine Zf P2 [(0, .pointer b_), (2, .int .i64 i), (11, .bool (decide (i < ((v9.len : Nat) : Int))))] ?_
   change WpE _ _ c36_9 _ _ _
   refine Zc 11 (decide (i < ((v9.len : Nat) : Int))) c36_10 c36_11 (fun hb => ?_) (fun hb => ?_)
   · replace h := h.1 hb
     exact h.elim
   · replace h := h.2 hb
     refine wpE_exit (id := 0) (by kernel_rfl) ?_
     repeat (first | refine seqQ_exit ?_ | refine loopQ_exit ?_ | refine cutQ_exit ?_ | refine blockQ_hit ?_ | refine blockQ_miss (by kernel_rfl) ?_)
     refine retQ_normal ?_
     repeat (first | refine seqQ_ret ?_ | refine blockQ_ret ?_ | refine loopQ_ret ?_ | refine cutQ_ret ?_)
     exact retT (rs := []) (vs := []) (by kernel_rfl) (trivial) (by kernel_rfl) ⟨rfl, h⟩
 · rintro e w' ⟨v, rfl, rfl, h⟩; exact ⟨rfl, h⟩

/-! ### (*towpath/towpathlaw01.Book).fillInt (function 37) -/
def c37_0 := cb_ Tryz.f37
def c37_3 := cr_ c37_0
def c37_4 := cl_ c37_3
def c37_5 := cl_ c37_4
def c37_6 := cl_ c37_5
def c37_7 := cl_ c37_6
def r37_7 := co_ c37_7
def c37_9 := cr_ c37_6
def c37_10 := cl_ c37_9
def c37_11 := cr_ c37_9
def c37_12 := cr_ c37_5

theorem S_towpathlaw01_Book_fillInt {b_ : Option Addr} {w : World} {R : World → Prop} (h : F_towpathlaw01_Book_fillInt b_ R w) : C_towpathlaw01_Book_fillInt b_ w R := by
 unfold F_towpathlaw01_Book_fillInt at h
 unfold C_towpathlaw01_Book_fillInt
 refine Calls.mono (calls_of_wpE (args := [Value.pointer b_]) (R := fun v w' => v = Value.tuple #[] ∧ R w') Tryz.func37 (c := c37_0) (by kernel_rfl) 35 (by kernel_rfl) (by kernel_rfl) [(0, Value.pointer b_)] (by kernel_rfl) ?_) ?_
 · refine Zp c37_3 P1 [(0, .pointer b_), (2, .int .i64 0)] ?_
   refine Zb 0 c37_4 ?_
   obtain ⟨I, μ, h0, hr⟩ := h
   refine wpE_loop (x := c37_5) (by kernel_rfl) (fun m l w => ∃ (i : Int), l = [(0, Value.pointer b_), (2, Value.int .i64 i)] ∧ I i w ∧ μ i w = m) (l' := [(0, Value.pointer b_), (2, Value.int .i64 0)]) (Sub.mk (by kernel_rfl)) ⟨0, rfl, h0, rfl⟩ ?_
   rintro _ _ w1 ⟨i, rfl, hI, rfl⟩
   obtain ⟨again_, again__h, h⟩ : ∃ again_ : Int → World → Prop, (∀ i' w', again_ i' w' → I i' w' ∧ μ i' w' < μ i w1) ∧ F_towpathlaw01_Book_fillInt_L0 b_ R again_ i w1 := ⟨_, fun _ _ h => h, hr i w1 hI⟩
   clear h0 hI
   unfold F_towpathlaw01_Book_fillInt_L0 at h
   refine Zs c37_6 c37_12 ?_
   refine Zt r37_7 c37_9 ?_
   refine Zn P2 2 [(0, [], .pointer b_), (2, [], .int .i64 i), (5, [], .int .i64 i), (6, [], .pointer b_)] ?_
   obtain ⟨hp_3, h⟩ := h
   refine Zv (fun pp => [(0, [], .pointer b_), (2, [], .int .i64 i), (5, [], .int .i64 i), (6, [], .pointer pp)]) hp_3 ?_
   refine Zn P1 3 [(0, [], .pointer b_), (2, [], .int .i64 i), (5, [], .int .i64 i), (6, [], .pointer (some ⟨(pblk b_), (poff b_), none⟩)), (7, [], .pointer (some ⟨(pblk b_), (poff b_), none⟩))] ?_
   refine Zn P1 4 [(0, [], .pointer b_), (2, [], .int .i64 i), (5, [], .int .i64 i), (8, [], .pointer (some ⟨(pblk b_), (poff b_) + 2, none⟩))] ?_
   obtain ⟨v9, hc, h⟩ := h
   refine Zl 24 8 (pblk b_) ((poff b_) + 2) 24 9 hc ?_
   refine Zf P2 [(0, .pointer b_), (2, .int .i64 i), (11, .bool (decide (i < ((v9.len : Nat) : Int))))] ?_
   change WpE _ _ c37_9 _ _ _
   refine Zc 11 (decide (i < ((v9.len : Nat) : Int))) c37_10 c37_11 (fun hb => ?_) (fun hb => ?_)
   · replace h := h.1 hb
     exact h.elim
   · replace h := h.2 hb
     refine wpE_exit (id := 0) (by kernel_rfl) ?_
     repeat (first | refine seqQ_exit ?_ | refine loopQ_exit ?_ | refine cutQ_exit ?_ | refine blockQ_hit ?_ | refine blockQ_miss (by kernel_rfl) ?_)
     refine retQ_normal ?_
     repeat (first | refine seqQ_ret ?_ | refine blockQ_ret ?_ | refine loopQ_ret ?_ | refine cutQ_ret ?_)
     exact retT (rs := []) (vs := []) (by kernel_rfl) (trivial) (by kernel_rfl) ⟨rfl, h⟩
 · rintro e w' ⟨v, rfl, rfl, h⟩; exact ⟨rfl, h⟩

/-! ### (*towpath/towpathlaw01.Book).fillText (function 38) -/
def c38_0 := cb_ Tryz.f38
def c38_3 := cr_ c38_0
def c38_4 := cl_ c38_3
def c38_5 := cl_ c38_4
def c38_6 := cl_ c38_5
def c38_7 := cl_ c38_6
def r38_7 := co_ c38_7
def c38_9 := cr_ c38_6
def c38_10 := cl_ c38_9
def c38_11 := cr_ c38_9
def c38_12 := cr_ c38_5

theorem S_towpathlaw01_Book_fillText {b_ : Option Addr} {w : World} {R : World → Prop} (h : F_towpathlaw01_Book_fillText b_ R w) : C_towpathlaw01_Book_fillText b_ w R := by
 unfold F_towpathlaw01_Book_fillText at h
 unfold C_towpathlaw01_Book_fillText
 refine Calls.mono (calls_of_wpE (args := [Value.pointer b_]) (R := fun v w' => v = Value.tuple #[] ∧ R w') Tryz.func38 (c := c38_0) (by kernel_rfl) 35 (by kernel_rfl) (by kernel_rfl) [(0, Value.pointer b_)] (by kernel_rfl) ?_) ?_
 · refine Zp c38_3 P1 [(0, .pointer b_), (2, .int .i64 0)] ?_
   refine Zb 0 c38_4 ?_
   obtain ⟨I, μ, h0, hr⟩ := h
   refine wpE_loop (x := c38_5) (by kernel_rfl) (fun m l w => ∃ (i : Int), l = [(0, Value.pointer b_), (2, Value.int .i64 i)] ∧ I i w ∧ μ i w = m) (l' := [(0, Value.pointer b_), (2, Value.int .i64 0)]) (Sub.mk (by kernel_rfl)) ⟨0, rfl, h0, rfl⟩ ?_
   rintro _ _ w1 ⟨i, rfl, hI, rfl⟩
   obtain ⟨again_, again__h, h⟩ : ∃ again_ : Int → World → Prop, (∀ i' w', again_ i' w' → I i' w' ∧ μ i' w' < μ i w1) ∧ F_towpathlaw01_Book_fillText_L0 b_ R again_ i w1 := ⟨_, fun _ _ h => h, hr i w1 hI⟩
   clear h0 hI
   unfold F_towpathlaw01_Book_fillText_L0 at h
   refine Zs c38_6 c38_12 ?_
   refine Zt r38_7 c38_9 ?_
   refine Zn P2 2 [(0, [], .pointer b_), (2, [], .int .i64 i), (5, [], .int .i64 i), (6, [], .pointer b_)] ?_
   obtain ⟨hp_3, h⟩ := h
   refine Zv (fun pp => [(0, [], .pointer b_), (2, [], .int .i64 i), (5, [], .int .i64 i), (6, [], .pointer pp)]) hp_3 ?_
   refine Zn P1 3 [(0, [], .pointer b_), (2, [], .int .i64 i), (5, [], .int .i64 i), (6, [], .pointer (some ⟨(pblk b_), (poff b_), none⟩)), (7, [], .pointer (some ⟨(pblk b_), (poff b_), none⟩))] ?_
   refine Zn P1 4 [(0, [], .pointer b_), (2, [], .int .i64 i), (5, [], .int .i64 i), (8, [], .pointer (some ⟨(pblk b_), (poff b_) + 3, none⟩))] ?_
   obtain ⟨v9, hc, h⟩ := h
   refine Zl 25 8 (pblk b_) ((poff b_) + 3) 25 9 hc ?_
   refine Zf P2 [(0, .pointer b_), (2, .int .i64 i), (11, .bool (decide (i < ((v9.len : Nat) : Int))))] ?_
   change WpE _ _ c38_9 _ _ _
   refine Zc 11 (decide (i < ((v9.len : Nat) : Int))) c38_10 c38_11 (fun hb => ?_) (fun hb => ?_)
   · replace h := h.1 hb
     exact h.elim
   · replace h := h.2 hb
     refine wpE_exit (id := 0) (by kernel_rfl) ?_
     repeat (first | refine seqQ_exit ?_ | refine loopQ_exit ?_ | refine cutQ_exit ?_ | refine blockQ_hit ?_ | refine blockQ_miss (by kernel_rfl) ?_)
     refine retQ_normal ?_
     repeat (first | refine seqQ_ret ?_ | refine blockQ_ret ?_ | refine loopQ_ret ?_ | refine cutQ_ret ?_)
     exact retT (rs := []) (vs := []) (by kernel_rfl) (trivial) (by kernel_rfl) ⟨rfl, h⟩
 · rintro e w' ⟨v, rfl, rfl, h⟩; exact ⟨rfl, h⟩

/-! ### (*towpath/towpathlaw01.Book).fillWrite (function 39) -/
def c39_0 := cb_ Tryz.f39
def c39_3 := cr_ c39_0
def c39_4 := cl_ c39_3
def c39_5 := cl_ c39_4
def c39_6 := cl_ c39_5
def c39_7 := cl_ c39_6
def r39_7 := co_ c39_7
def c39_9 := cr_ c39_6
def c39_10 := cl_ c39_9
def c39_11 := cr_ c39_9
def c39_12 := cr_ c39_5
def c39_13 := cl_ c39_12
def c39_14 := cl_ c39_13
def c39_15 := cl_ c39_14
def r39_15 := co_ c39_15
def c39_17 := cr_ c39_14
def c39_20 := cr_ c39_17
def c39_21 := cl_ c39_20
def c39_22 := cl_ c39_21
def c39_23 := cl_ c39_22
def c39_24 := cl_ c39_23
def r39_24 := co_ c39_24
def c39_26 := cr_ c39_23
def c39_27 := cl_ c39_26
def c39_28 := cr_ c39_26
def c39_29 := cr_ c39_22
def c39_30 := cl_ c39_29
def c39_31 := cl_ c39_30
def r39_31 := co_ c39_31
def c39_33 := cr_ c39_29
def r39_33 := co_ c39_33
def c39_35 := cr_ c39_12
def r39_35 := co_ c39_35
def o_towpathlaw01_Book_fillWrite_31 : List Nat := [0, 1, 2, 3, 4, 5, 6, 7]

theorem S_towpathlaw01_Book_fillWrite {b_ : Option Addr} {w : World} {R : World → Prop} (h : F_towpathlaw01_Book_fillWrite b_ R w) : C_towpathlaw01_Book_fillWrite b_ w R := by
 unfold F_towpathlaw01_Book_fillWrite at h
 unfold C_towpathlaw01_Book_fillWrite
 refine Calls.mono (calls_of_wpE (args := [Value.pointer b_]) (R := fun v w' => v = Value.tuple #[] ∧ R w') Tryz.func39 (c := c39_0) (by kernel_rfl) 35 (by kernel_rfl) (by kernel_rfl) [(0, Value.pointer b_)] (by kernel_rfl) ?_) ?_
 · refine Zp c39_3 P1 [(0, .pointer b_), (2, .int .i64 0)] ?_
   refine Zb 0 c39_4 ?_
   obtain ⟨I, μ, h0, hr⟩ := h
   refine wpE_loop (x := c39_5) (by kernel_rfl) (fun m l w => ∃ (i : Int), l = [(0, Value.pointer b_), (2, Value.int .i64 i)] ∧ I i w ∧ μ i w = m) (l' := [(0, Value.pointer b_), (2, Value.int .i64 0)]) (Sub.mk (by kernel_rfl)) ⟨0, rfl, h0, rfl⟩ ?_
   rintro _ _ w1 ⟨i, rfl, hI, rfl⟩
   obtain ⟨again_, again__h, h⟩ : ∃ again_ : Int → World → Prop, (∀ i' w', again_ i' w' → I i' w' ∧ μ i' w' < μ i w1) ∧ F_towpathlaw01_Book_fillWrite_L0 b_ R again_ i w1 := ⟨_, fun _ _ h => h, hr i w1 hI⟩
   clear h0 hI
   unfold F_towpathlaw01_Book_fillWrite_L0 at h
   refine Zs c39_6 c39_12 ?_
   refine Zt r39_7 c39_9 ?_
   refine Zn P2 2 [(0, [], .pointer b_), (2, [], .int .i64 i), (5, [], .int .i64 i), (6, [], .pointer b_)] ?_
   obtain ⟨hp_3, h⟩ := h
   refine Zv (fun pp => [(0, [], .pointer b_), (2, [], .int .i64 i), (5, [], .int .i64 i), (6, [], .pointer pp)]) hp_3 ?_
   refine Zn P1 3 [(0, [], .pointer b_), (2, [], .int .i64 i), (5, [], .int .i64 i), (6, [], .pointer (some ⟨(pblk b_), (poff b_), none⟩)), (7, [], .pointer (some ⟨(pblk b_), (poff b_), none⟩))] ?_
   refine Zn P1 4 [(0, [], .pointer b_), (2, [], .int .i64 i), (5, [], .int .i64 i), (8, [], .pointer (some ⟨(pblk b_), (poff b_) + 4, none⟩))] ?_
   obtain ⟨v9, hc, h⟩ := h
   refine Zl 26 8 (pblk b_) ((poff b_) + 4) 26 9 hc ?_
   refine Zf P2 [(0, .pointer b_), (2, .int .i64 i), (11, .bool (decide (i < ((v9.len : Nat) : Int))))] ?_
   change WpE _ _ c39_9 _ _ _
   refine Zc 11 (decide (i < ((v9.len : Nat) : Int))) c39_10 c39_11 (fun hb => ?_) (fun hb => ?_)
   · replace h := h.1 hb
     refine wpE_skip (by kernel_rfl) ?_
     change WpE _ _ c39_12 _ _ _
     refine Zs c39_13 c39_35 ?_
     refine Zb 1 c39_14 ?_
     refine Zt r39_15 c39_17 ?_
     refine Zn P1 1 [(0, [], .pointer b_), (2, [], .int .i64 i), (14, [], .pointer b_)] ?_
     obtain ⟨hp_12, h⟩ := h
     refine Zv (fun pp => [(0, [], .pointer b_), (2, [], .int .i64 i), (14, [], .pointer pp)]) hp_12 ?_
     refine Zn P1 2 [(0, [], .pointer b_), (2, [], .int .i64 i), (14, [], .pointer (some ⟨(pblk b_), (poff b_), none⟩)), (15, [], .pointer (some ⟨(pblk b_), (poff b_), none⟩))] ?_
     refine Zn P1 3 [(0, [], .pointer b_), (2, [], .int .i64 i), (16, [], .pointer (some ⟨(pblk b_), (poff b_) + 4, none⟩))] ?_
     obtain ⟨v17, hc, h⟩ := h
     refine Zl 26 16 (pblk b_) ((poff b_) + 4) 26 17 hc ?_
     refine Zn P1 5 [(0, [], .pointer b_), (2, [], .int .i64 i), (17, [], sv_ v17), (18, [], .int .i64 i)] ?_
     obtain ⟨hp_13, h⟩ := h
     refine Zv (fun pp => [(0, [], .pointer b_), (2, [], .int .i64 i), (17, [], .slice pp v17.len v17.cap), (18, [], .int .i64 i)]) hp_13 ?_
     obtain ⟨h0, h1, h⟩ := h
     refine Zj 26 156 17 18 (pblk v17.ptr) (poff v17.ptr) v17.len v17.cap i 3 19 0 h0 h1 ?_
     refine Zn [] 6 [(0, [], .pointer b_), (2, [], .int .i64 i), (19, [], .pointer (some ⟨(pblk v17.ptr), (poff v17.ptr) + i.toNat * 3, none⟩))] ?_
     obtain ⟨v20, hc, h⟩ := h
     refine reg_loadN (t := 156) (a := (Operand.tmp 19)) (b := (pblk v17.ptr)) (o := ((poff v17.ptr) + i.toNat * 3)) (ty := 156) (dst := some 20) [sv_ v20.l, sv_ v20.long, Value.int .i64 v20.n] (by kernel_rfl) (by kernel_rfl) (by kernel_rfl) (k := 3) (by kernel_rfl) (by kernel_rfl) hc ?_
     refine Zn [] 7 [(0, [], .pointer b_), (2, [], .int .i64 i), (20, [], .agg #[sv_ v20.l, sv_ v20.long, .int .i64 v20.n])] ?_
     refine Zw (some 3) (fun bb => pv_ bb) (Obj.cells ([.slice none 0 0, .slice none 0 0, .int .i64 0]).toArray ty_towpathlaw01_heldWrite (0, 0)) (fun b_1 w2 hb hw => ?_)
     replace h := h b_1 w2 hb hw
     clear hb hw
     refine Zn [] 8 [(0, [], .pointer b_), (2, [], .int .i64 i), (3, [], pv_ b_1), (20, [], .agg #[sv_ v20.l, sv_ v20.long, .int .i64 v20.n])] ?_
     obtain ⟨hc, h⟩ := h
     refine Zo 156 3 20 b_1 0 3 [sv_ v20.l, sv_ v20.long, .int .i64 v20.n] hc (fun w3 hw => ?_)
     replace h := h w3 hw
     clear hw
     refine Ze [(0, .pointer b_), (2, .int .i64 i), (3, pv_ b_1)] ?_
     change WpE _ _ c39_17 _ _ _
     refine Zp c39_20 P1 [(0, .pointer b_), (2, .int .i64 i), (3, pv_ b_1), (4, .int .i64 0)] ?_
     refine Zb 2 c39_21 ?_
     obtain ⟨I, μ, h0, hr⟩ := h
     refine wpE_loop (x := c39_22) (by kernel_rfl) (fun m l w => ∃ (k_ : Int), l = [(0, Value.pointer b_), (2, Value.int .i64 i), (3, pv_ b_1), (4, Value.int .i64 k_)] ∧ I k_ w ∧ μ k_ w = m) (l' := [(0, Value.pointer b_), (2, Value.int .i64 i), (3, pv_ b_1), (4, Value.int .i64 0)]) (Sub.mk (by kernel_rfl)) ⟨0, rfl, h0, rfl⟩ ?_
     rintro _ _ w4 ⟨k_, rfl, hI, rfl⟩
     obtain ⟨again_1, again_1_h, h⟩ : ∃ again_1 : Int → World → Prop, (∀ k_' w', again_1 k_' w' → I k_' w' ∧ μ k_' w' < μ k_ w4) ∧ F_towpathlaw01_Book_fillWrite_L1 i again_ b_1 again_1 k_ w4 := ⟨_, fun _ _ h => h, hr k_ w4 hI⟩
     clear h0 hI
     unfold F_towpathlaw01_Book_fillWrite_L1 at h
     refine Zs c39_23 c39_29 ?_
     refine Zt r39_24 c39_26 ?_
     refine Zn P2 2 [(0, [], .pointer b_), (2, [], .int .i64 i), (3, [], pv_ b_1), (4, [], .int .i64 k_), (21, [], .int .i64 k_), (22, [], pv_ b_1)] ?_
     obtain ⟨v23, hc, h⟩ := h
     refine Zl 47 22 b_1 0 47 23 hc ?_
     refine Zf P2 [(0, .pointer b_), (2, .int .i64 i), (3, pv_ b_1), (4, .int .i64 k_), (25, .bool (decide (k_ < ((v23.len : Nat) : Int))))] ?_
     change WpE _ _ c39_26 _ _ _
     refine Zc 25 (decide (k_ < ((v23.len : Nat) : Int))) c39_27 c39_28 (fun hb => ?_) (fun hb => ?_)
     · replace h := h.1 hb
       refine wpE_skip (by kernel_rfl) ?_
       change WpE _ _ c39_29 _ _ _
       refine Zs c39_30 c39_33 ?_
       refine Zb 3 c39_31 ?_
       refine wpE_mixregion (id := 7) (ops := r39_31) o_towpathlaw01_Book_fillWrite_31 (by kernel_rfl) (by kernel_rfl) (by kernel_rfl) (by kernel_rfl) (fun w5 hw => ?_)
       replace h := h w5 hw
       clear hw
       refine mreg_run P1 1 [(0, [], Value.pointer b_), (2, [], Value.int .i64 i), (3, [], pv_ b_1), (4, [], Value.int .i64 k_), (28, [], pv_ b_1)] (by kernel_rfl) (by kernel_rfl) ?_
       obtain ⟨v29, hc, h⟩ := h
       refine mreg_load1 (i := 1) (by kernel_rfl) (t := 47) (a := (Operand.tmp 28)) (b := b_1) (o := 0) (ty := 47) (dst := some 29) (by kernel_rfl) (by kernel_rfl) (by kernel_rfl) hc ?_
       refine mreg_run P2 4 [(0, [], Value.pointer b_), (2, [], Value.int .i64 i), (3, [], pv_ b_1), (4, [], Value.int .i64 k_), (29, [], sv_ v29), (30, [], Value.int .i64 k_), (31, [], Value.pointer (some ⟨b_1, 2, none⟩))] (by kernel_rfl) (by kernel_rfl) ?_
       obtain ⟨v32, hc, h⟩ := h
       refine mreg_load1 (i := 4) (by kernel_rfl) (t := 3) (a := (Operand.tmp 31)) (b := b_1) (o := 2) (ty := 3) (dst := some 32) (by kernel_rfl) (by kernel_rfl) (by kernel_rfl) hc ?_
       refine mreg_run [] 5 [(0, [], Value.pointer b_), (2, [], Value.int .i64 i), (3, [], pv_ b_1), (4, [], Value.int .i64 k_), (29, [], sv_ v29), (30, [], Value.int .i64 k_), (32, [], Value.int .i64 v32)] (by kernel_rfl) (by kernel_rfl) ?_
       refine mreg_enter (op := (Op.call (Call.mk (Callee.value (Operand.func 94)) #[(Operand.tmp 32)] #[3]))) (ty := 80) (dst := some 33) 5 [4, 3] [(1, fun w' => w'.cell? ⟨b_1, 0, none⟩ = some (sv_ v29))] 94 #[Value.int .i64 v32] (by kernel_rfl) (by kernel_rfl) (by kernel_rfl) (by kernel_rfl) (by kernel_rfl) (fun ww => by kernel_rfl) (Calls.mono h ?_)
       rintro _ w6 ⟨v33, rfl, h⟩
       obtain ⟨hk0, h⟩ := h
       refine ⟨_, rfl, ⟨hk0, trivial⟩, ?_⟩
       refine mreg_run [] 6 [(0, [], Value.pointer b_), (2, [], Value.int .i64 i), (3, [], pv_ b_1), (4, [], Value.int .i64 k_), (29, [], sv_ v29), (30, [], Value.int .i64 k_), (33, [], Value.agg #[Value.string v33.Key, Value.string v33.Val, Value.bool v33.Drop])] (by kernel_rfl) (by kernel_rfl) ?_
       obtain ⟨hp_15, h⟩ := h
       refine mreg_conv [(0, [], Value.pointer b_), (2, [], Value.int .i64 i), (3, [], pv_ b_1), (4, [], Value.int .i64 k_), (29, [], Value.slice (some ⟨(pblk v29.ptr), (poff v29.ptr), none⟩) v29.len v29.cap), (30, [], Value.int .i64 k_), (33, [], Value.agg #[Value.string v33.Key, Value.string v33.Val, Value.bool v33.Drop])] (congrArg (fun pp => ([(0, [], Value.pointer b_), (2, [], Value.int .i64 i), (3, [], pv_ b_1), (4, [], Value.int .i64 k_), (29, [], Value.slice pp v29.len v29.cap), (30, [], Value.int .i64 k_), (33, [], Value.agg #[Value.string v33.Key, Value.string v33.Val, Value.bool v33.Drop])] : GEnv)) hp_15) ?_
       obtain ⟨h0, h1, h⟩ := h
       refine mreg_indexS (i := 6) (by kernel_rfl) (t := 47) (e := 80) (x := (Operand.tmp 29)) (ix := (Operand.tmp 30)) (b := (pblk v29.ptr)) (o := (poff v29.ptr)) (l := v29.len) (c := v29.cap) (k := .i64) (j := k_) (ty := 0) (dst := some 34) (sz := 3) (by kernel_rfl) (by kernel_rfl) (by kernel_rfl) (by kernel_rfl) (by kernel_rfl) h0 h1 ?_
       refine mreg_run [] 7 [(0, [], Value.pointer b_), (2, [], Value.int .i64 i), (3, [], pv_ b_1), (4, [], Value.int .i64 k_), (33, [], Value.agg #[Value.string v33.Key, Value.string v33.Val, Value.bool v33.Drop]), (34, [], Value.pointer (some ⟨(pblk v29.ptr), (poff v29.ptr) + k_.toNat * 3, none⟩))] (by kernel_rfl) (by kernel_rfl) ?_
       obtain ⟨hc, h⟩ := h
       refine mreg_store (t := 80) (a := (Operand.tmp 34)) (x := (Operand.tmp 33)) (b := (pblk v29.ptr)) (o := ((poff v29.ptr) + k_.toNat * 3)) (k := 3) (ty := 0) (dst := none) 7 [0, 1, 2, 3, 4, 5, 6] [] [Value.string v33.Key, Value.string v33.Val, Value.bool v33.Drop] (by kernel_rfl) (by kernel_rfl) (by kernel_rfl) (by kernel_rfl) (by kernel_rfl) (by kernel_rfl) (by kernel_rfl) (by kernel_rfl) (by kernel_rfl) (by kernel_rfl) hc (fun w7 hw => ?_)
       replace h := h w7 hw
       clear hw
       refine ⟨trivial, ?_⟩
       refine mreg_end [(0, Value.pointer b_), (2, Value.int .i64 i), (3, pv_ b_1), (4, Value.int .i64 k_)] (by kernel_rfl) (by kernel_rfl) (by kernel_rfl) ?_
       change WpE _ _ c39_33 _ _ _
       refine Zr r39_33 ?_
       refine Zf P3 [(0, .pointer b_), (2, .int .i64 i), (3, pv_ b_1), (4, .int .i64 (IntKind.i64.wrap (k_ + 1)))] ?_
       have hb_ := again_1_h _ _ h
       exact ⟨_, hb_.2, [(0, Value.pointer b_), (2, Value.int .i64 i), (3, pv_ b_1), (4, Value.int .i64 (IntKind.i64.wrap (k_ + 1)))], Sub.mk (by kernel_rfl), (IntKind.i64.wrap (k_ + 1)), rfl, hb_.1, rfl⟩
     · replace h := h.2 hb
       refine wpE_exit (id := 2) (by kernel_rfl) ?_
       change WpE _ _ c39_35 _ _ _
       refine Zr r39_35 ?_
       refine Zf P3 [(0, .pointer b_), (2, .int .i64 (IntKind.i64.wrap (i + 1)))] ?_
       have hb_ := again__h _ _ h
       exact ⟨_, hb_.2, [(0, Value.pointer b_), (2, Value.int .i64 (IntKind.i64.wrap (i + 1)))], Sub.mk (by kernel_rfl), (IntKind.i64.wrap (i + 1)), rfl, hb_.1, rfl⟩
   · replace h := h.2 hb
     refine wpE_exit (id := 0) (by kernel_rfl) ?_
     repeat (first | refine seqQ_exit ?_ | refine loopQ_exit ?_ | refine cutQ_exit ?_ | refine blockQ_hit ?_ | refine blockQ_miss (by kernel_rfl) ?_)
     refine retQ_normal ?_
     repeat (first | refine seqQ_ret ?_ | refine blockQ_ret ?_ | refine loopQ_ret ?_ | refine cutQ_ret ?_)
     exact retT (rs := []) (vs := []) (by kernel_rfl) (trivial) (by kernel_rfl) ⟨rfl, h⟩
 · rintro e w' ⟨v, rfl, rfl, h⟩; exact ⟨rfl, h⟩

/-! ### (*towpath/towpathlaw01.Book).fillEntry (function 40) -/
def c40_0 := cb_ Tryz.f40
def c40_3 := cr_ c40_0
def c40_4 := cl_ c40_3
def c40_5 := cl_ c40_4
def c40_6 := cl_ c40_5
def c40_7 := cl_ c40_6
def r40_7 := co_ c40_7
def c40_9 := cr_ c40_6
def c40_10 := cl_ c40_9
def c40_11 := cr_ c40_9
def c40_12 := cr_ c40_5

theorem S_towpathlaw01_Book_fillEntry {b_ : Option Addr} {w : World} {R : World → Prop} (h : F_towpathlaw01_Book_fillEntry b_ R w) : C_towpathlaw01_Book_fillEntry b_ w R := by
 unfold F_towpathlaw01_Book_fillEntry at h
 unfold C_towpathlaw01_Book_fillEntry
 refine Calls.mono (calls_of_wpE (args := [Value.pointer b_]) (R := fun v w' => v = Value.tuple #[] ∧ R w') Tryz.func40 (c := c40_0) (by kernel_rfl) 35 (by kernel_rfl) (by kernel_rfl) [(0, Value.pointer b_)] (by kernel_rfl) ?_) ?_
 · refine Zp c40_3 P1 [(0, .pointer b_), (2, .int .i64 0)] ?_
   refine Zb 0 c40_4 ?_
   obtain ⟨I, μ, h0, hr⟩ := h
   refine wpE_loop (x := c40_5) (by kernel_rfl) (fun m l w => ∃ (i : Int), l = [(0, Value.pointer b_), (2, Value.int .i64 i)] ∧ I i w ∧ μ i w = m) (l' := [(0, Value.pointer b_), (2, Value.int .i64 0)]) (Sub.mk (by kernel_rfl)) ⟨0, rfl, h0, rfl⟩ ?_
   rintro _ _ w1 ⟨i, rfl, hI, rfl⟩
   obtain ⟨again_, again__h, h⟩ : ∃ again_ : Int → World → Prop, (∀ i' w', again_ i' w' → I i' w' ∧ μ i' w' < μ i w1) ∧ F_towpathlaw01_Book_fillEntry_L0 b_ R again_ i w1 := ⟨_, fun _ _ h => h, hr i w1 hI⟩
   clear h0 hI
   unfold F_towpathlaw01_Book_fillEntry_L0 at h
   refine Zs c40_6 c40_12 ?_
   refine Zt r40_7 c40_9 ?_
   refine Zn P2 2 [(0, [], .pointer b_), (2, [], .int .i64 i), (5, [], .int .i64 i), (6, [], .pointer b_)] ?_
   obtain ⟨hp_3, h⟩ := h
   refine Zv (fun pp => [(0, [], .pointer b_), (2, [], .int .i64 i), (5, [], .int .i64 i), (6, [], .pointer pp)]) hp_3 ?_
   refine Zn P1 3 [(0, [], .pointer b_), (2, [], .int .i64 i), (5, [], .int .i64 i), (6, [], .pointer (some ⟨(pblk b_), (poff b_), none⟩)), (7, [], .pointer (some ⟨(pblk b_), (poff b_), none⟩))] ?_
   refine Zn P1 4 [(0, [], .pointer b_), (2, [], .int .i64 i), (5, [], .int .i64 i), (8, [], .pointer (some ⟨(pblk b_), (poff b_) + 5, none⟩))] ?_
   obtain ⟨v9, hc, h⟩ := h
   refine Zl 27 8 (pblk b_) ((poff b_) + 5) 27 9 hc ?_
   refine Zf P2 [(0, .pointer b_), (2, .int .i64 i), (11, .bool (decide (i < ((v9.len : Nat) : Int))))] ?_
   change WpE _ _ c40_9 _ _ _
   refine Zc 11 (decide (i < ((v9.len : Nat) : Int))) c40_10 c40_11 (fun hb => ?_) (fun hb => ?_)
   · replace h := h.1 hb
     exact h.elim
   · replace h := h.2 hb
     refine wpE_exit (id := 0) (by kernel_rfl) ?_
     repeat (first | refine seqQ_exit ?_ | refine loopQ_exit ?_ | refine cutQ_exit ?_ | refine blockQ_hit ?_ | refine blockQ_miss (by kernel_rfl) ?_)
     refine retQ_normal ?_
     repeat (first | refine seqQ_ret ?_ | refine blockQ_ret ?_ | refine loopQ_ret ?_ | refine cutQ_ret ?_)
     exact retT (rs := []) (vs := []) (by kernel_rfl) (trivial) (by kernel_rfl) ⟨rfl, h⟩
 · rintro e w' ⟨v, rfl, rfl, h⟩; exact ⟨rfl, h⟩

/-! ### (*towpath/towpathlaw01.Book).fillVersion (function 41) -/
def c41_0 := cb_ Tryz.f41
def c41_3 := cr_ c41_0
def c41_4 := cl_ c41_3
def c41_5 := cl_ c41_4
def c41_6 := cl_ c41_5
def c41_7 := cl_ c41_6
def r41_7 := co_ c41_7
def c41_9 := cr_ c41_6
def c41_10 := cl_ c41_9
def c41_11 := cr_ c41_9
def c41_12 := cr_ c41_5

theorem S_towpathlaw01_Book_fillVersion {b_ : Option Addr} {w : World} {R : World → Prop} (h : F_towpathlaw01_Book_fillVersion b_ R w) : C_towpathlaw01_Book_fillVersion b_ w R := by
 unfold F_towpathlaw01_Book_fillVersion at h
 unfold C_towpathlaw01_Book_fillVersion
 refine Calls.mono (calls_of_wpE (args := [Value.pointer b_]) (R := fun v w' => v = Value.tuple #[] ∧ R w') Tryz.func41 (c := c41_0) (by kernel_rfl) 35 (by kernel_rfl) (by kernel_rfl) [(0, Value.pointer b_)] (by kernel_rfl) ?_) ?_
 · refine Zp c41_3 P1 [(0, .pointer b_), (2, .int .i64 0)] ?_
   refine Zb 0 c41_4 ?_
   obtain ⟨I, μ, h0, hr⟩ := h
   refine wpE_loop (x := c41_5) (by kernel_rfl) (fun m l w => ∃ (i : Int), l = [(0, Value.pointer b_), (2, Value.int .i64 i)] ∧ I i w ∧ μ i w = m) (l' := [(0, Value.pointer b_), (2, Value.int .i64 0)]) (Sub.mk (by kernel_rfl)) ⟨0, rfl, h0, rfl⟩ ?_
   rintro _ _ w1 ⟨i, rfl, hI, rfl⟩
   obtain ⟨again_, again__h, h⟩ : ∃ again_ : Int → World → Prop, (∀ i' w', again_ i' w' → I i' w' ∧ μ i' w' < μ i w1) ∧ F_towpathlaw01_Book_fillVersion_L0 b_ R again_ i w1 := ⟨_, fun _ _ h => h, hr i w1 hI⟩
   clear h0 hI
   unfold F_towpathlaw01_Book_fillVersion_L0 at h
   refine Zs c41_6 c41_12 ?_
   refine Zt r41_7 c41_9 ?_
   refine Zn P2 2 [(0, [], .pointer b_), (2, [], .int .i64 i), (5, [], .int .i64 i), (6, [], .pointer b_)] ?_
   obtain ⟨hp_3, h⟩ := h
   refine Zv (fun pp => [(0, [], .pointer b_), (2, [], .int .i64 i), (5, [], .int .i64 i), (6, [], .pointer pp)]) hp_3 ?_
   refine Zn P1 3 [(0, [], .pointer b_), (2, [], .int .i64 i), (5, [], .int .i64 i), (6, [], .pointer (some ⟨(pblk b_), (poff b_), none⟩)), (7, [], .pointer (some ⟨(pblk b_), (poff b_), none⟩))] ?_
   refine Zn P1 4 [(0, [], .pointer b_), (2, [], .int .i64 i), (5, [], .int .i64 i), (8, [], .pointer (some ⟨(pblk b_), (poff b_) + 6, none⟩))] ?_
   obtain ⟨v9, hc, h⟩ := h
   refine Zl 28 8 (pblk b_) ((poff b_) + 6) 28 9 hc ?_
   refine Zf P2 [(0, .pointer b_), (2, .int .i64 i), (11, .bool (decide (i < ((v9.len : Nat) : Int))))] ?_
   change WpE _ _ c41_9 _ _ _
   refine Zc 11 (decide (i < ((v9.len : Nat) : Int))) c41_10 c41_11 (fun hb => ?_) (fun hb => ?_)
   · replace h := h.1 hb
     exact h.elim
   · replace h := h.2 hb
     refine wpE_exit (id := 0) (by kernel_rfl) ?_
     repeat (first | refine seqQ_exit ?_ | refine loopQ_exit ?_ | refine cutQ_exit ?_ | refine blockQ_hit ?_ | refine blockQ_miss (by kernel_rfl) ?_)
     refine retQ_normal ?_
     repeat (first | refine seqQ_ret ?_ | refine blockQ_ret ?_ | refine loopQ_ret ?_ | refine cutQ_ret ?_)
     exact retT (rs := []) (vs := []) (by kernel_rfl) (trivial) (by kernel_rfl) ⟨rfl, h⟩
 · rintro e w' ⟨v, rfl, rfl, h⟩; exact ⟨rfl, h⟩

/-! ### (*towpath/towpathlaw01.Book).fillTxn (function 42) -/
def c42_0 := cb_ Tryz.f42
def c42_3 := cr_ c42_0
def c42_4 := cl_ c42_3
def c42_5 := cl_ c42_4
def c42_6 := cl_ c42_5
def c42_7 := cl_ c42_6
def r42_7 := co_ c42_7
def c42_9 := cr_ c42_6
def c42_10 := cl_ c42_9
def c42_11 := cr_ c42_9
def c42_12 := cr_ c42_5

theorem S_towpathlaw01_Book_fillTxn {b_ : Option Addr} {w : World} {R : World → Prop} (h : F_towpathlaw01_Book_fillTxn b_ R w) : C_towpathlaw01_Book_fillTxn b_ w R := by
 unfold F_towpathlaw01_Book_fillTxn at h
 unfold C_towpathlaw01_Book_fillTxn
 refine Calls.mono (calls_of_wpE (args := [Value.pointer b_]) (R := fun v w' => v = Value.tuple #[] ∧ R w') Tryz.func42 (c := c42_0) (by kernel_rfl) 35 (by kernel_rfl) (by kernel_rfl) [(0, Value.pointer b_)] (by kernel_rfl) ?_) ?_
 · refine Zp c42_3 P1 [(0, .pointer b_), (2, .int .i64 0)] ?_
   refine Zb 0 c42_4 ?_
   obtain ⟨I, μ, h0, hr⟩ := h
   refine wpE_loop (x := c42_5) (by kernel_rfl) (fun m l w => ∃ (i : Int), l = [(0, Value.pointer b_), (2, Value.int .i64 i)] ∧ I i w ∧ μ i w = m) (l' := [(0, Value.pointer b_), (2, Value.int .i64 0)]) (Sub.mk (by kernel_rfl)) ⟨0, rfl, h0, rfl⟩ ?_
   rintro _ _ w1 ⟨i, rfl, hI, rfl⟩
   obtain ⟨again_, again__h, h⟩ : ∃ again_ : Int → World → Prop, (∀ i' w', again_ i' w' → I i' w' ∧ μ i' w' < μ i w1) ∧ F_towpathlaw01_Book_fillTxn_L0 b_ R again_ i w1 := ⟨_, fun _ _ h => h, hr i w1 hI⟩
   clear h0 hI
   unfold F_towpathlaw01_Book_fillTxn_L0 at h
   refine Zs c42_6 c42_12 ?_
   refine Zt r42_7 c42_9 ?_
   refine Zn P2 2 [(0, [], .pointer b_), (2, [], .int .i64 i), (5, [], .int .i64 i), (6, [], .pointer b_)] ?_
   obtain ⟨hp_3, h⟩ := h
   refine Zv (fun pp => [(0, [], .pointer b_), (2, [], .int .i64 i), (5, [], .int .i64 i), (6, [], .pointer pp)]) hp_3 ?_
   refine Zn P1 3 [(0, [], .pointer b_), (2, [], .int .i64 i), (5, [], .int .i64 i), (6, [], .pointer (some ⟨(pblk b_), (poff b_), none⟩)), (7, [], .pointer (some ⟨(pblk b_), (poff b_), none⟩))] ?_
   refine Zn P1 4 [(0, [], .pointer b_), (2, [], .int .i64 i), (5, [], .int .i64 i), (8, [], .pointer (some ⟨(pblk b_), (poff b_) + 7, none⟩))] ?_
   obtain ⟨v9, hc, h⟩ := h
   refine Zl 29 8 (pblk b_) ((poff b_) + 7) 29 9 hc ?_
   refine Zf P2 [(0, .pointer b_), (2, .int .i64 i), (11, .bool (decide (i < ((v9.len : Nat) : Int))))] ?_
   change WpE _ _ c42_9 _ _ _
   refine Zc 11 (decide (i < ((v9.len : Nat) : Int))) c42_10 c42_11 (fun hb => ?_) (fun hb => ?_)
   · replace h := h.1 hb
     exact h.elim
   · replace h := h.2 hb
     refine wpE_exit (id := 0) (by kernel_rfl) ?_
     repeat (first | refine seqQ_exit ?_ | refine loopQ_exit ?_ | refine cutQ_exit ?_ | refine blockQ_hit ?_ | refine blockQ_miss (by kernel_rfl) ?_)
     refine retQ_normal ?_
     repeat (first | refine seqQ_ret ?_ | refine blockQ_ret ?_ | refine loopQ_ret ?_ | refine cutQ_ret ?_)
     exact retT (rs := []) (vs := []) (by kernel_rfl) (trivial) (by kernel_rfl) ⟨rfl, h⟩
 · rintro e w' ⟨v, rfl, rfl, h⟩; exact ⟨rfl, h⟩
end
end Go.Proofs.YtpedclhflmhakaaGreatDoor
