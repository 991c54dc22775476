/- WRITTEN BY PROGRAM (dec.py): for each Go function the clean formula F, the call's contract C, and the proof S that F gives C. -/
import Derived.Test.YtpedclhflmhakaaGreatDoorRows
import Derived.Test.YtpedclhflmhakaaGreatDoorGF
namespace Go.Proofs.YtpedclhflmhakaaGreatDoor
open Go
set_option linter.unusedVariables false
set_option maxRecDepth 100000
set_option maxHeartbeats 4000000
noncomputable section

/-! ### towpath/record.Check (function 125) -/
def c125_0 := cb_ Tryz.f125
def c125_1 := cl_ c125_0
def r125_1 := co_ c125_1
def c125_3 := cr_ c125_0
def c125_6 := cr_ c125_3
def c125_7 := cl_ c125_6
def c125_8 := cl_ c125_7
def r125_8 := co_ c125_8
def c125_10 := cr_ c125_7
def c125_11 := cl_ c125_10
def c125_14 := cr_ c125_11
def c125_15 := cr_ c125_10
def c125_16 := cr_ c125_6
def c125_19 := cr_ c125_16

theorem S_record_Check {t_ : T_api_Txn} {w : World} {R : Int → World → Prop} (h : F_record_Check t_ R w) : C_record_Check t_ w R := by
 unfold F_record_Check at h
 unfold C_record_Check
 refine Calls.mono (calls_of_wpE (args := [Value.agg #[Value.int .i64 t_.Number, sv_ t_.Writes]]) (R := fun v w' => ∃ (r0 : Int), v = Value.int .i64 r0 ∧ R r0 w') Tryz.func125 (c := c125_0) (by kernel_rfl) 24 (by kernel_rfl) (by kernel_rfl) [(0, Value.agg #[Value.int .i64 t_.Number, sv_ t_.Writes])] (by kernel_rfl) ?_) ?_
 · refine Zt r125_1 c125_3 ?_
   refine Zn [] 0 [(0, [], .agg #[.int .i64 t_.Number, sv_ t_.Writes])] ?_
   refine Zw (some 1) (fun bb => pv_ bb) (Obj.cells ([.int .i64 t_.Number, sv_ t_.Writes]).toArray ty_api_Txn (0, 0)) (fun b_ w1 hb hw => ?_)
   replace h := h b_ w1 hb hw
   clear hb hw
   refine Zf P1 [(1, pv_ b_)] ?_
   change WpE _ _ c125_3 _ _ _
   refine Zp c125_6 P1 [(1, pv_ b_), (3, .func (.func 134) #[] #[])] ?_
   refine Zs c125_7 c125_16 ?_
   refine wpE_seq_cut (x := c125_8) (y := c125_10) (by kernel_rfl) (fun l w => ∃ (t23 : Bool), l = [(23, Value.bool t23)] ∧ F_record_Check_k0 R t23 w) ?_ ?_
   · refine Zr r125_8 ?_
     refine Zn P1 1 [(1, [], pv_ b_), (3, [], .func (.func 134) #[] #[]), (4, [], pv_ b_)] ?_
     obtain ⟨v5, hc, h⟩ := h
     refine Zl 3 4 b_ 0 3 5 hc ?_
     refine Zn P3 5 [(1, [], pv_ b_), (3, [], .func (.func 134) #[] #[]), (7, [], .bool (decide (v5 < 1))), (8, [(7, false)], pv_ b_)] ?_
     refine reg_split 7 (decide (v5 < 1)) (by kernel_rfl) (fun hb => ?_) (fun hb => ?_)
     · replace h := h.1 hb
       refine Zn [] 5 [(1, [], pv_ b_), (3, [], .func (.func 134) #[] #[]), (7, [], .bool true), (8, [], undef)] ?_
       refine Zf [.skip, .skip, .plain, .plain, .skip, .skip, .skip, .skip, .plain, .plain, .skip, .skip, .skip, .skip, .plain] [(23, .bool true)] ?_
       exact ⟨[(23, Value.bool true)], Sub.mk (by kernel_rfl), true, rfl, h⟩
     · replace h := h.2 hb
       refine Zn [] 5 [(1, [], pv_ b_), (3, [], .func (.func 134) #[] #[]), (7, [], .bool false), (8, [], pv_ b_)] ?_
       refine Zn [] 5 [(1, [], pv_ b_), (3, [], .func (.func 134) #[] #[]), (7, [], .bool false), (8, [], pv_ b_)] ?_
       obtain ⟨v9, hc, h⟩ := h
       refine Zl 3 8 b_ 0 3 9 hc ?_
       refine Zn [.sure, .plain, .plain, .plain] 10 [(1, [], pv_ b_), (3, [], .func (.func 134) #[] #[]), (12, [], .bool (decide (v9 > 65536))), (13, [(12, false)], .pointer (some ⟨b_, 1, none⟩))] ?_
       refine reg_split 12 (decide (v9 > 65536)) (by kernel_rfl) (fun hb => ?_) (fun hb => ?_)
       · replace h := h.1 hb
         refine Zn [] 10 [(1, [], pv_ b_), (3, [], .func (.func 134) #[] #[]), (12, [], .bool true), (13, [], undef)] ?_
         refine Zf [.skip, .skip, .skip, .plain, .plain, .skip, .skip, .skip, .skip, .plain] [(23, .bool true)] ?_
         exact ⟨[(23, Value.bool true)], Sub.mk (by kernel_rfl), true, rfl, h⟩
       · replace h := h.2 hb
         refine Zn [] 10 [(1, [], pv_ b_), (3, [], .func (.func 134) #[] #[]), (12, [], .bool false), (13, [], .pointer (some ⟨b_, 1, none⟩))] ?_
         refine Zn [] 10 [(1, [], pv_ b_), (3, [], .func (.func 134) #[] #[]), (12, [], .bool false), (13, [], .pointer (some ⟨b_, 1, none⟩))] ?_
         obtain ⟨v14, hc, h⟩ := h
         refine Zl 47 13 b_ 1 47 14 hc ?_
         refine Zn [.sure, .sure, .plain, .plain, .plain] 16 [(3, [], .func (.func 134) #[] #[]), (18, [], .bool (decide (((v14.len : Nat) : Int) > 32))), (19, [(18, false)], .pointer (some ⟨b_, 1, none⟩))] ?_
         refine reg_split 18 (decide (((v14.len : Nat) : Int) > 32)) (by kernel_rfl) (fun hb => ?_) (fun hb => ?_)
         · replace h := h.1 hb
           refine Zn [] 16 [(3, [], .func (.func 134) #[] #[]), (18, [], .bool true), (19, [], undef)] ?_
           refine Zf [.skip, .skip, .skip, .plain] [(23, .bool true)] ?_
           exact ⟨[(23, Value.bool true)], Sub.mk (by kernel_rfl), true, rfl, h⟩
         · replace h := h.2 hb
           refine Zn [] 16 [(3, [], .func (.func 134) #[] #[]), (18, [], .bool false), (19, [], .pointer (some ⟨b_, 1, none⟩))] ?_
           refine Zn [] 16 [(3, [], .func (.func 134) #[] #[]), (18, [], .bool false), (19, [], .pointer (some ⟨b_, 1, none⟩))] ?_
           obtain ⟨v20, hc, h⟩ := h
           refine Zl 47 19 b_ 1 47 20 hc ?_
           refine Zn [.sure] 18 [(18, [], .bool false), (20, [], sv_ v20), (21, [], .func (.func 134) #[] #[])] ?_
           refine Zm 135 #[sv_ v20, .func (.func 134) #[] #[]] (some 22) (Calls.mono h ?_)
           rintro _ w3 ⟨v22, rfl, h⟩
           refine ⟨_, rfl, ?_⟩
           refine Zf P1 [(23, .bool v22)] ?_
           exact ⟨[(23, Value.bool v22)], Sub.mk (by kernel_rfl), v22, rfl, h⟩
   · rintro _ w2 ⟨t23, rfl, h⟩
     unfold F_record_Check_k0 at h
     refine Zc 23 t23 c125_11 c125_15 (fun hb => ?_) (fun hb => ?_)
     · replace h := h.1 hb
       refine Zp c125_14 P1 [(2, .int .i64 1)] ?_
       refine wpE_ret (by kernel_rfl) ?_
       repeat (first | refine seqQ_ret ?_ | refine blockQ_ret ?_ | refine loopQ_ret ?_ | refine cutQ_ret ?_)
       exact retS (rs := [(ResultVar.tmp 2)]) (v := Value.int .i64 1) (by kernel_rfl) (⟨by kernel_rfl, trivial⟩) ⟨1, rfl, h⟩
     · replace h := h.2 hb
       refine wpE_skip (by kernel_rfl) ?_
       change WpE _ _ c125_16 _ _ _
       refine Zp c125_19 P1 [(2, .int .i64 0)] ?_
       refine wpE_ret (by kernel_rfl) ?_
       repeat (first | refine seqQ_ret ?_ | refine blockQ_ret ?_ | refine loopQ_ret ?_ | refine cutQ_ret ?_)
       exact retS (rs := [(ResultVar.tmp 2)]) (v := Value.int .i64 0) (by kernel_rfl) (⟨by kernel_rfl, trivial⟩) ⟨0, rfl, h⟩
 · rintro e w' ⟨v, rfl, r0, rfl, h⟩; exact ⟨r0, rfl, h⟩

/-! ### towpath/record.Check$1 (function 134) -/
def c134_0 := cb_ Tryz.f134
def c134_1 := cl_ c134_0
def r134_1 := co_ c134_1
def c134_3 := cr_ c134_0
def c134_4 := cl_ c134_3
def r134_4 := co_ c134_4
def c134_6 := cr_ c134_3

theorem S_record_Check_1 {w_ : T_api_Write} {w : World} {R : Bool → World → Prop} (h : F_record_Check_1 w_ R w) : C_record_Check_1 w_ w R := by
 unfold F_record_Check_1 at h
 unfold C_record_Check_1
 refine Calls.mono (calls_of_wpE (args := [Value.agg #[Value.string w_.Key, Value.string w_.Val, Value.bool w_.Drop]]) (R := fun v w' => ∃ (r0 : Bool), v = Value.bool r0 ∧ R r0 w') Tryz.func134 (c := c134_0) (by kernel_rfl) 27 (by kernel_rfl) (by kernel_rfl) [(0, Value.agg #[Value.string w_.Key, Value.string w_.Val, Value.bool w_.Drop])] (by kernel_rfl) ?_) ?_
 · refine Zt r134_1 c134_3 ?_
   refine Zn [] 0 [(0, [], .agg #[.string w_.Key, .string w_.Val, .bool w_.Drop])] ?_
   refine Zw (some 1) (fun bb => pv_ bb) (Obj.cells ([.string w_.Key, .string w_.Val, .bool w_.Drop]).toArray ty_api_Write (0, 0)) (fun b_ w1 hb hw => ?_)
   replace h := h b_ w1 hb hw
   clear hb hw
   refine Zf P1 [(1, pv_ b_)] ?_
   change WpE _ _ c134_3 _ _ _
   refine Zt r134_4 c134_6 ?_
   refine Zn P1 1 [(1, [], pv_ b_), (3, [], pv_ b_)] ?_
   obtain ⟨v4, hc, h⟩ := h
   refine Zl 9 3 b_ 0 9 4 hc ?_
   refine Zn P3 5 [(1, [], pv_ b_), (6, [], .bool (v4.toList == ByteArray.empty.toList)), (7, [(6, false)], pv_ b_)] ?_
   refine reg_split 6 (v4.toList == ByteArray.empty.toList) (by kernel_rfl) (fun hb => ?_) (fun hb => ?_)
   · replace h := h.1 hb
     refine Zn [] 5 [(1, [], pv_ b_), (6, [], .bool true), (7, [], undef)] ?_
     refine Zf [.skip, .skip, .skip, .plain, .plain, .skip, .skip, .skip, .skip, .plain, .plain, .skip, .skip, .skip, .skip, .skip, .skip, .skip, .plain, .plain] [(2, .bool true)] ?_
     change WpE _ _ c134_6 _ _ _
     refine wpE_ret (by kernel_rfl) ?_
     repeat (first | refine seqQ_ret ?_ | refine blockQ_ret ?_ | refine loopQ_ret ?_ | refine cutQ_ret ?_)
     exact retS (rs := [(ResultVar.tmp 2)]) (v := Value.bool true) (by kernel_rfl) (⟨by kernel_rfl, trivial⟩) ⟨true, rfl, h⟩
   · replace h := h.2 hb
     refine Zn [] 5 [(1, [], pv_ b_), (6, [], .bool false), (7, [], pv_ b_)] ?_
     refine Zn [] 5 [(1, [], pv_ b_), (6, [], .bool false), (7, [], pv_ b_)] ?_
     obtain ⟨v8, hc, h⟩ := h
     refine Zl 9 7 b_ 0 9 8 hc ?_
     refine Zn [.sure, .sure, .plain, .plain, .plain] 11 [(1, [], pv_ b_), (12, [], .bool (decide (((v8.size : Nat) : Int) > 64))), (13, [(12, false)], .pointer (some ⟨b_, 1, none⟩))] ?_
     refine reg_split 12 (decide (((v8.size : Nat) : Int) > 64)) (by kernel_rfl) (fun hb => ?_) (fun hb => ?_)
     · replace h := h.1 hb
       refine Zn [] 11 [(1, [], pv_ b_), (12, [], .bool true), (13, [], undef)] ?_
       refine Zf [.skip, .skip, .skip, .plain, .plain, .skip, .skip, .skip, .skip, .skip, .skip, .skip, .plain, .plain] [(2, .bool true)] ?_
       change WpE _ _ c134_6 _ _ _
       refine wpE_ret (by kernel_rfl) ?_
       repeat (first | refine seqQ_ret ?_ | refine blockQ_ret ?_ | refine loopQ_ret ?_ | refine cutQ_ret ?_)
       exact retS (rs := [(ResultVar.tmp 2)]) (v := Value.bool true) (by kernel_rfl) (⟨by kernel_rfl, trivial⟩) ⟨true, rfl, h⟩
     · replace h := h.2 hb
       refine Zn [] 11 [(1, [], pv_ b_), (12, [], .bool false), (13, [], .pointer (some ⟨b_, 1, none⟩))] ?_
       refine Zn [] 11 [(1, [], pv_ b_), (12, [], .bool false), (13, [], .pointer (some ⟨b_, 1, none⟩))] ?_
       obtain ⟨v14, hc, h⟩ := h
       refine Zl 9 13 b_ 1 9 14 hc ?_
       refine Zn [.sure, .sure, .plain, .plain, .plain] 17 [(1, [], pv_ b_), (18, [], .bool (decide (((v14.size : Nat) : Int) > 1024))), (19, [(18, false)], .pointer (some ⟨b_, 2, none⟩))] ?_
       refine reg_split 18 (decide (((v14.size : Nat) : Int) > 1024)) (by kernel_rfl) (fun hb => ?_) (fun hb => ?_)
       · replace h := h.1 hb
         refine Zn [] 17 [(1, [], pv_ b_), (18, [], .bool true), (19, [], undef)] ?_
         refine Zf [.skip, .skip, .skip, .skip, .skip, .skip, .plain, .plain] [(2, .bool true)] ?_
         change WpE _ _ c134_6 _ _ _
         refine wpE_ret (by kernel_rfl) ?_
         repeat (first | refine seqQ_ret ?_ | refine blockQ_ret ?_ | refine loopQ_ret ?_ | refine cutQ_ret ?_)
         exact retS (rs := [(ResultVar.tmp 2)]) (v := Value.bool true) (by kernel_rfl) (⟨by kernel_rfl, trivial⟩) ⟨true, rfl, h⟩
       · replace h := h.2 hb
         refine Zn [] 17 [(1, [], pv_ b_), (18, [], .bool false), (19, [], .pointer (some ⟨b_, 2, none⟩))] ?_
         refine Zn [] 17 [(1, [], pv_ b_), (18, [], .bool false), (19, [], .pointer (some ⟨b_, 2, none⟩))] ?_
         obtain ⟨v20, hc, h⟩ := h
         refine Zl 4 19 b_ 2 4 20 hc ?_
         refine Zn [.sure, .plain] 20 [(18, [], .bool false), (21, [], .bool v20), (22, [(21, true)], .pointer (some ⟨b_, 1, none⟩))] ?_
         refine reg_split 21 v20 (by kernel_rfl) (fun hb => ?_) (fun hb => ?_)
         · replace h := h.1 hb
           refine Zn [] 20 [(18, [], .bool false), (21, [], .bool true), (22, [], .pointer (some ⟨b_, 1, none⟩))] ?_
           refine Zn [] 20 [(18, [], .bool false), (21, [], .bool true), (22, [], .pointer (some ⟨b_, 1, none⟩))] ?_
           obtain ⟨v23, hc, h⟩ := h
           refine Zl 9 22 b_ 1 9 23 hc ?_
           refine Zf [.sure, .sure, .plain, .plain] [(2, .bool (!(v23.toList == ByteArray.empty.toList)))] ?_
           change WpE _ _ c134_6 _ _ _
           refine wpE_ret (by kernel_rfl) ?_
           repeat (first | refine seqQ_ret ?_ | refine blockQ_ret ?_ | refine loopQ_ret ?_ | refine cutQ_ret ?_)
           exact retS (rs := [(ResultVar.tmp 2)]) (v := Value.bool (!(v23.toList == ByteArray.empty.toList))) (by kernel_rfl) (⟨by kernel_rfl, trivial⟩) ⟨(!(v23.toList == ByteArray.empty.toList)), rfl, h⟩
         · replace h := h.2 hb
           refine Zn [] 20 [(18, [], .bool false), (21, [], .bool false), (22, [], undef)] ?_
           refine Zf [.skip, .skip, .sure, .plain, .plain] [(2, .bool false)] ?_
           change WpE _ _ c134_6 _ _ _
           refine wpE_ret (by kernel_rfl) ?_
           repeat (first | refine seqQ_ret ?_ | refine blockQ_ret ?_ | refine loopQ_ret ?_ | refine cutQ_ret ?_)
           exact retS (rs := [(ResultVar.tmp 2)]) (v := Value.bool false) (by kernel_rfl) (⟨by kernel_rfl, trivial⟩) ⟨false, rfl, h⟩
 · rintro e w' ⟨v, rfl, r0, rfl, h⟩; exact ⟨r0, rfl, h⟩
end
end Go.Proofs.YtpedclhflmhakaaGreatDoor
