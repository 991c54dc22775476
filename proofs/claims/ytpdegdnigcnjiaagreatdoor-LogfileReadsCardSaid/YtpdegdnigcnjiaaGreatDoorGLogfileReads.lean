/- WRITTEN BY PROGRAM (dec.py): for each Go function the clean formula F, the call's contract C, and the proof S that F gives C. -/
import Derived.Test.YtpdegdnigcnjiaaGreatDoorRows
import Derived.Test.YtpdegdnigcnjiaaGreatDoorGF
namespace Go.Proofs.YtpdegdnigcnjiaaGreatDoor
open Go
set_option linter.unusedVariables false
set_option maxRecDepth 100000
set_option maxHeartbeats 4000000
noncomputable section

/-! ### towpath/towpathlaw06.LogfileReads (function 6) -/
def c6_0 := cb_ Tryz.f6
def c6_3 := cr_ c6_0
def c6_4 := cl_ c6_3
def c6_5 := cl_ c6_4
def r6_5 := co_ c6_5
def c6_7 := cr_ c6_4
def c6_8 := cl_ c6_7
def c6_11 := cr_ c6_8
def c6_12 := cr_ c6_7
def c6_13 := cr_ c6_3
def c6_14 := cl_ c6_13
def r6_14 := co_ c6_14
def c6_16 := cr_ c6_13
def c6_17 := cl_ c6_16
def r6_17 := co_ c6_17
def c6_19 := cr_ c6_16
def c6_20 := cl_ c6_19
def r6_20 := co_ c6_20
def c6_22 := cr_ c6_19
def c6_23 := cl_ c6_22
def c6_24 := cl_ c6_23
def r6_24 := co_ c6_24
def c6_26 := cr_ c6_23
def c6_27 := cl_ c6_26
def c6_30 := cr_ c6_27
def c6_31 := cr_ c6_26
def c6_32 := cr_ c6_22
def c6_33 := cl_ c6_32
def r6_33 := co_ c6_33
def c6_35 := cr_ c6_32
def c6_36 := cl_ c6_35
def r6_36 := co_ c6_36
def c6_38 := cr_ c6_35
def c6_39 := cl_ c6_38
def r6_39 := co_ c6_39
def c6_41 := cr_ c6_38
def c6_42 := cl_ c6_41
def r6_42 := co_ c6_42
def c6_44 := cr_ c6_41

theorem S_towpathlaw06_LogfileReads {b_ : Slc} {w : World} {R : Bool → World → Prop} (h : F_towpathlaw06_LogfileReads b_ R w) : C_towpathlaw06_LogfileReads b_ w R := by
 unfold F_towpathlaw06_LogfileReads at h
 unfold C_towpathlaw06_LogfileReads
 refine Calls.mono (calls_of_wpE (args := [sv_ b_]) (R := fun v w' => ∃ (r0 : Bool), v = Value.bool r0 ∧ R r0 w') Tryz.func6 (c := c6_0) (by kernel_rfl) 55 (by kernel_rfl) (by kernel_rfl) [(0, sv_ b_)] (by kernel_rfl) ?_) ?_
 · refine Zp c6_3 P1 [(0, sv_ b_)] ?_
   refine Zs c6_4 c6_13 ?_
   refine Zt r6_5 c6_7 ?_
   refine Zn P2 2 [(0, [], sv_ b_), (12, [], .int .i64 ((b_.len : Nat) : Int))] ?_
   refine Zw (some 13) (fun bb => .slice (some ⟨bb, 0, none⟩) 1 1) (Obj.cells ([.int .i64 ((b_.len : Nat) : Int)]).toArray ty_int (0, 0)) (fun b_1 w1 hb hw => ?_)
   replace h := h b_1 w1 hb hw
   clear hb hw
   refine Zn [] 3 [(0, [], sv_ b_), (13, [], .slice (some ⟨b_1, 0, none⟩) 1 1)] ?_
   refine Zm 7 #[.slice (some ⟨b_1, 0, none⟩) 1 1] (some 14) (Calls.mono h ?_)
   rintro _ w2 ⟨v14, rfl, h⟩
   refine ⟨_, rfl, ?_⟩
   refine Ze [(0, sv_ b_), (14, .bool v14)] ?_
   change WpE _ _ c6_7 _ _ _
   refine Zc 14 v14 c6_8 c6_12 (fun hb => ?_) (fun hb => ?_)
   · replace h := h.1 hb
     refine Zp c6_11 P1 [(2, .bool true)] ?_
     refine wpE_ret (by kernel_rfl) ?_
     repeat (first | refine seqQ_ret ?_ | refine blockQ_ret ?_ | refine loopQ_ret ?_ | refine cutQ_ret ?_)
     exact retS (rs := [(ResultVar.tmp 2)]) (v := Value.bool true) (by kernel_rfl) (⟨by kernel_rfl, trivial⟩) ⟨true, rfl, h⟩
   · replace h := h.2 hb
     refine wpE_skip (by kernel_rfl) ?_
     change WpE _ _ c6_13 _ _ _
     refine Zt r6_14 c6_16 ?_
     refine Zn P1 1 [(0, [], sv_ b_), (15, [], sv_ b_)] ?_
     refine Zm 38 #[sv_ b_] (some 16) (Calls.mono h ?_)
     rintro _ w3 ⟨v16, rfl, h⟩
     refine ⟨_, rfl, ?_⟩
     refine Zf P1 [(0, sv_ b_), (3, sv_ v16)] ?_
     change WpE _ _ c6_16 _ _ _
     refine Zt r6_17 c6_19 ?_
     refine Zn P1 1 [(0, [], sv_ b_), (3, [], sv_ v16), (18, [], sv_ v16)] ?_
     refine Zm 39 #[sv_ v16] (some 19) (Calls.mono h ?_)
     rintro _ w4 ⟨l_, good, e, rfl, h⟩
     refine ⟨_, rfl, ?_⟩
     refine Zf (Pl 7) [(0, sv_ b_), (3, sv_ v16), (4, sv_ l_), (5, .int .i64 good), (6, .int .i64 e)] ?_
     change WpE _ _ c6_19 _ _ _
     refine Zt r6_20 c6_22 ?_
     refine Zn P1 1 [(0, [], sv_ b_), (3, [], sv_ v16), (4, [], sv_ l_), (5, [], .int .i64 good), (6, [], .int .i64 e), (24, [], sv_ b_)] ?_
     refine Zm 40 #[sv_ b_] (some 25) (Calls.mono h ?_)
     rintro _ w5 ⟨want, must, f, rfl, h⟩
     refine ⟨_, rfl, ?_⟩
     refine Zf (Pl 7) [(0, sv_ b_), (3, sv_ v16), (4, sv_ l_), (5, .int .i64 good), (6, .int .i64 e), (7, sv_ want), (8, .int .i64 must), (9, .int .i64 f)] ?_
     change WpE _ _ c6_22 _ _ _
     refine Zs c6_23 c6_32 ?_
     refine wpE_seq_cut (x := c6_24) (y := c6_26) (by kernel_rfl) (fun l w => ∃ (t48 : Bool), l = [(3, sv_ v16), (4, sv_ l_), (48, Value.bool t48)] ∧ F_towpathlaw06_LogfileReads_k0 R v16 l_ t48 w) ?_ ?_
     · refine Zr r6_24 ?_
       refine Zn [.plain, .plain, .plain, .plain, .plain, .plain, .plain, .pick, .plain, .plain, .plain] 11 [(0, [], sv_ b_), (3, [], sv_ v16), (4, [], sv_ l_), (37, [], .bool ((e != f) || (good != must))), (38, [(37, false)], sv_ l_), (39, [(37, false)], sv_ want)] ?_
       refine reg_split 37 ((e != f) || (good != must)) (by kernel_rfl) (fun hb => ?_) (fun hb => ?_)
       · replace h := h.1 hb
         refine Zn [] 11 [(0, [], sv_ b_), (3, [], sv_ v16), (4, [], sv_ l_), (37, [], .bool true), (38, [], undef), (39, [], undef)] ?_
         refine Zf [.skip, .skip, .plain, .plain, .skip, .skip, .skip, .skip, .plain] [(3, sv_ v16), (4, sv_ l_), (48, .bool true)] ?_
         exact ⟨[(3, sv_ v16), (4, sv_ l_), (48, Value.bool true)], Sub.mk (by kernel_rfl), true, rfl, h⟩
       · replace h := h.2 hb
         refine Zn [] 11 [(0, [], sv_ b_), (3, [], sv_ v16), (4, [], sv_ l_), (37, [], .bool false), (38, [], sv_ l_), (39, [], sv_ want)] ?_
         refine Zn [] 11 [(0, [], sv_ b_), (3, [], sv_ v16), (4, [], sv_ l_), (37, [], .bool false), (38, [], sv_ l_), (39, [], sv_ want)] ?_
         refine Zm 41 #[sv_ l_, sv_ want] (some 40) (Calls.mono h ?_)
         rintro _ w12 ⟨v40, rfl, h⟩
         refine ⟨_, rfl, ?_⟩
         refine Zn [.sure, .plain, .plain, .plain, .plain] 17 [(3, [], sv_ v16), (4, [], sv_ l_), (43, [], .bool (!v40)), (44, [(43, false)], sv_ v16), (45, [(43, false)], sv_ b_)] ?_
         refine reg_split 43 (!v40) (by kernel_rfl) (fun hb => ?_) (fun hb => ?_)
         · replace h := h.1 hb
           refine Zn [] 17 [(3, [], sv_ v16), (4, [], sv_ l_), (43, [], .bool true), (44, [], undef), (45, [], undef)] ?_
           refine Zf [.skip, .skip, .plain] [(3, sv_ v16), (4, sv_ l_), (48, .bool true)] ?_
           exact ⟨[(3, sv_ v16), (4, sv_ l_), (48, Value.bool true)], Sub.mk (by kernel_rfl), true, rfl, h⟩
         · replace h := h.2 hb
           refine Zn [] 17 [(3, [], sv_ v16), (4, [], sv_ l_), (43, [], .bool false), (44, [], sv_ v16), (45, [], sv_ b_)] ?_
           refine Zn [] 17 [(3, [], sv_ v16), (4, [], sv_ l_), (43, [], .bool false), (44, [], sv_ v16), (45, [], sv_ b_)] ?_
           refine Zm 42 #[sv_ v16, sv_ b_] (some 46) (Calls.mono h ?_)
           rintro _ w13 ⟨v46, rfl, h⟩
           refine ⟨_, rfl, ?_⟩
           refine Zf [.sure, .plain] [(3, sv_ v16), (4, sv_ l_), (48, .bool (!v46))] ?_
           exact ⟨[(3, sv_ v16), (4, sv_ l_), (48, Value.bool (!v46))], Sub.mk (by kernel_rfl), (!v46), rfl, h⟩
     · rintro _ w6 ⟨t48, rfl, h⟩
       unfold F_towpathlaw06_LogfileReads_k0 at h
       refine Zc 48 t48 c6_27 c6_31 (fun hb => ?_) (fun hb => ?_)
       · replace h := h.1 hb
         refine Zp c6_30 P1 [(2, .bool false)] ?_
         refine wpE_ret (by kernel_rfl) ?_
         repeat (first | refine seqQ_ret ?_ | refine blockQ_ret ?_ | refine loopQ_ret ?_ | refine cutQ_ret ?_)
         exact retS (rs := [(ResultVar.tmp 2)]) (v := Value.bool false) (by kernel_rfl) (⟨by kernel_rfl, trivial⟩) ⟨false, rfl, h⟩
       · replace h := h.2 hb
         refine wpE_skip (by kernel_rfl) ?_
         change WpE _ _ c6_32 _ _ _
         refine Zt r6_33 c6_35 ?_
         refine Zn P1 1 [(3, [], sv_ v16), (4, [], sv_ l_), (49, [], .agg #[.int .i64 0, .slice none 0 0, .slice none 0 0, .slice none 0 0, .slice none 0 0, .slice none 0 0, .slice none 0 0, .slice none 0 0, .slice none 0 0, .slice none 0 0, .slice none 0 0, .slice none 0 0])] ?_
         refine Zw (some 10) (fun bb => pv_ bb) (Obj.cells ([.int .i64 0, .slice none 0 0, .slice none 0 0, .slice none 0 0, .slice none 0 0, .slice none 0 0, .slice none 0 0, .slice none 0 0, .slice none 0 0, .slice none 0 0, .slice none 0 0, .slice none 0 0]).toArray ty_towpathlaw01_Book (0, 0)) (fun b_2 w7 hb hw => ?_)
         replace h := h b_2 w7 hb hw
         clear hb hw
         refine Zn [] 2 [(3, [], sv_ v16), (4, [], sv_ l_), (10, [], pv_ b_2), (49, [], .agg #[.int .i64 0, .slice none 0 0, .slice none 0 0, .slice none 0 0, .slice none 0 0, .slice none 0 0, .slice none 0 0, .slice none 0 0, .slice none 0 0, .slice none 0 0, .slice none 0 0, .slice none 0 0])] ?_
         obtain ⟨hc, h⟩ := h
         refine Zo 47 10 49 b_2 0 12 [.int .i64 0, .slice none 0 0, .slice none 0 0, .slice none 0 0, .slice none 0 0, .slice none 0 0, .slice none 0 0, .slice none 0 0, .slice none 0 0, .slice none 0 0, .slice none 0 0, .slice none 0 0] hc (fun w8 hw => ?_)
         replace h := h w8 hw
         clear hw
         refine Ze [(3, sv_ v16), (4, sv_ l_), (10, pv_ b_2)] ?_
         change WpE _ _ c6_35 _ _ _
         refine Zt r6_36 c6_38 ?_
         refine Zn P1 1 [(4, [], sv_ l_), (10, [], pv_ b_2), (50, [], sv_ v16)] ?_
         refine Zm 37 #[pv_ b_2, sv_ v16] (some 51) (Calls.mono h ?_)
         rintro _ w9 ⟨rfl, h⟩
         refine ⟨_, rfl, ?_⟩
         refine Ze [(4, sv_ l_), (10, pv_ b_2)] ?_
         change WpE _ _ c6_38 _ _ _
         refine Zt r6_39 c6_41 ?_
         refine Zn P1 1 [(10, [], pv_ b_2), (52, [], sv_ l_)] ?_
         refine Zm 13 #[pv_ b_2, sv_ l_] (some 53) (Calls.mono h ?_)
         rintro _ w10 ⟨rfl, h⟩
         refine ⟨_, rfl, ?_⟩
         refine Ze [(10, pv_ b_2)] ?_
         change WpE _ _ c6_41 _ _ _
         refine Zt r6_42 c6_44 ?_
         refine Zn [] 0 [(10, [], pv_ b_2)] ?_
         refine Zm 14 #[pv_ b_2] (some 54) (Calls.mono h ?_)
         rintro _ w11 ⟨v54, rfl, h⟩
         refine ⟨_, rfl, ?_⟩
         refine Zf P1 [(2, .bool v54)] ?_
         change WpE _ _ c6_44 _ _ _
         refine wpE_ret (by kernel_rfl) ?_
         repeat (first | refine seqQ_ret ?_ | refine blockQ_ret ?_ | refine loopQ_ret ?_ | refine cutQ_ret ?_)
         exact retS (rs := [(ResultVar.tmp 2)]) (v := Value.bool v54) (by kernel_rfl) (⟨by kernel_rfl, trivial⟩) ⟨v54, rfl, h⟩
 · rintro e w' ⟨v, rfl, r0, rfl, h⟩; exact ⟨r0, rfl, h⟩
end
end Go.Proofs.YtpdegdnigcnjiaaGreatDoor
