/- WRITTEN BY PROGRAM (dec.py): for each Go function the clean formula F, the call's contract C, and the proof S that F gives C. -/
import Derived.Test.YtpdegdnigcnjiaaGreatDoorRows
import Derived.Test.YtpdegdnigcnjiaaGreatDoorGF
namespace Go.Proofs.YtpdegdnigcnjiaaGreatDoor
open Go
set_option linter.unusedVariables false
set_option maxRecDepth 100000
set_option maxHeartbeats 4000000
noncomputable section

/-! ### (towpath/towpathref02.Reader).End (function 183) -/
def c183_0 := cb_ Tryz.f183
def c183_1 := cl_ c183_0
def r183_1 := co_ c183_1
def c183_3 := cr_ c183_0
def c183_4 := cl_ c183_3
def c183_5 := cl_ c183_4
def r183_5 := co_ c183_5
def c183_7 := cr_ c183_4
def c183_8 := cl_ c183_7
def c183_11 := cr_ c183_8
def c183_12 := cr_ c183_7
def c183_13 := cr_ c183_3
def c183_14 := cl_ c183_13
def c183_15 := cl_ c183_14
def r183_15 := co_ c183_15
def c183_17 := cr_ c183_14
def c183_18 := cl_ c183_17
def c183_19 := cl_ c183_18
def r183_19 := co_ c183_19
def c183_21 := cr_ c183_18
def c183_22 := cr_ c183_17
def c183_23 := cr_ c183_13
def c183_24 := cl_ c183_23
def c183_25 := cl_ c183_24
def r183_25 := co_ c183_25
def c183_27 := cr_ c183_24
def c183_28 := cl_ c183_27
def c183_31 := cr_ c183_28
def c183_32 := cr_ c183_27
def c183_33 := cr_ c183_23
def c183_36 := cr_ c183_33

theorem S_towpathref02_Reader_End {r : T_towpathref02_Reader} {w : World} {R : Int → World → Prop} (h : F_towpathref02_Reader_End r R w) : C_towpathref02_Reader_End r w R := by
 unfold F_towpathref02_Reader_End at h
 unfold C_towpathref02_Reader_End
 refine Calls.mono (calls_of_wpE (args := [Value.agg #[Value.bool r.Gone, sv_ r.B, Value.int .i64 r.At, Value.int .i64 r.Code]]) (R := fun v w' => ∃ (r0 : Int), v = Value.int .i64 r0 ∧ R r0 w') Tryz.func183 (c := c183_0) (by kernel_rfl) 16 (by kernel_rfl) (by kernel_rfl) [(0, Value.agg #[Value.bool r.Gone, sv_ r.B, Value.int .i64 r.At, Value.int .i64 r.Code])] (by kernel_rfl) ?_) ?_
 · refine Zt r183_1 c183_3 ?_
   refine Zn [] 0 [(0, [], .agg #[.bool r.Gone, sv_ r.B, .int .i64 r.At, .int .i64 r.Code])] ?_
   refine Zw (some 1) (fun bb => pv_ bb) (Obj.cells ([.bool r.Gone, sv_ r.B, .int .i64 r.At, .int .i64 r.Code]).toArray ty_towpathref02_Reader (0, 0)) (fun b_ w1 hb hw => ?_)
   replace h := h b_ w1 hb hw
   clear hb hw
   refine Zf P1 [(1, pv_ b_)] ?_
   change WpE _ _ c183_3 _ _ _
   refine Zs c183_4 c183_13 ?_
   refine Zt r183_5 c183_7 ?_
   refine Zn P1 1 [(1, [], pv_ b_), (3, [], pv_ b_)] ?_
   obtain ⟨v4, hc, h⟩ := h
   refine Zl 4 3 b_ 0 4 4 hc ?_
   refine Ze [(1, pv_ b_), (4, .bool v4)] ?_
   change WpE _ _ c183_7 _ _ _
   refine Zc 4 v4 c183_8 c183_12 (fun hb => ?_) (fun hb => ?_)
   · replace h := h.1 hb
     refine Zp c183_11 P1 [(2, .int .i64 2)] ?_
     refine wpE_ret (by kernel_rfl) ?_
     repeat (first | refine seqQ_ret ?_ | refine blockQ_ret ?_ | refine loopQ_ret ?_ | refine cutQ_ret ?_)
     exact retS (rs := [(ResultVar.tmp 2)]) (v := Value.int .i64 2) (by kernel_rfl) (⟨by kernel_rfl, trivial⟩) ⟨2, rfl, h⟩
   · replace h := h.2 hb
     refine wpE_skip (by kernel_rfl) ?_
     change WpE _ _ c183_13 _ _ _
     refine Zs c183_14 c183_23 ?_
     refine Zt r183_15 c183_17 ?_
     refine Zn P1 1 [(1, [], pv_ b_), (5, [], .pointer (some ⟨b_, 3, none⟩))] ?_
     obtain ⟨v6, hc, h⟩ := h
     refine Zl 28 5 b_ 3 28 6 hc ?_
     refine Zf P1 [(1, pv_ b_), (7, .bool (v6 != 0))] ?_
     change WpE _ _ c183_17 _ _ _
     refine Zc 7 (v6 != 0) c183_18 c183_22 (fun hb => ?_) (fun hb => ?_)
     · replace h := h.1 hb
       refine Zt r183_19 c183_21 ?_
       refine Zn P1 1 [(8, [], .pointer (some ⟨b_, 3, none⟩))] ?_
       obtain ⟨v9, hc, h⟩ := h
       refine Zl 28 8 b_ 3 28 9 hc ?_
       refine Zf P1 [(2, .int .i64 v9)] ?_
       change WpE _ _ c183_21 _ _ _
       refine wpE_ret (by kernel_rfl) ?_
       repeat (first | refine seqQ_ret ?_ | refine blockQ_ret ?_ | refine loopQ_ret ?_ | refine cutQ_ret ?_)
       exact retS (rs := [(ResultVar.tmp 2)]) (v := Value.int .i64 v9) (by kernel_rfl) (⟨by kernel_rfl, trivial⟩) ⟨v9, rfl, h⟩
     · replace h := h.2 hb
       refine wpE_skip (by kernel_rfl) ?_
       change WpE _ _ c183_23 _ _ _
       refine Zs c183_24 c183_33 ?_
       refine Zt r183_25 c183_27 ?_
       refine Zn P1 1 [(1, [], pv_ b_), (10, [], .pointer (some ⟨b_, 2, none⟩))] ?_
       obtain ⟨v11, hc, h⟩ := h
       refine Zl 3 10 b_ 2 3 11 hc ?_
       refine Zn P1 3 [(11, [], .int .i64 v11), (12, [], .pointer (some ⟨b_, 1, none⟩))] ?_
       obtain ⟨v13, hc, h⟩ := h
       refine Zl 79 12 b_ 1 79 13 hc ?_
       refine Zf P2 [(15, .bool (decide (v11 < ((v13.len : Nat) : Int))))] ?_
       change WpE _ _ c183_27 _ _ _
       refine Zc 15 (decide (v11 < ((v13.len : Nat) : Int))) c183_28 c183_32 (fun hb => ?_) (fun hb => ?_)
       · replace h := h.1 hb
         refine Zp c183_31 P1 [(2, .int .i64 4)] ?_
         refine wpE_ret (by kernel_rfl) ?_
         repeat (first | refine seqQ_ret ?_ | refine blockQ_ret ?_ | refine loopQ_ret ?_ | refine cutQ_ret ?_)
         exact retS (rs := [(ResultVar.tmp 2)]) (v := Value.int .i64 4) (by kernel_rfl) (⟨by kernel_rfl, trivial⟩) ⟨4, rfl, h⟩
       · replace h := h.2 hb
         refine wpE_skip (by kernel_rfl) ?_
         change WpE _ _ c183_33 _ _ _
         refine Zp c183_36 P1 [(2, .int .i64 0)] ?_
         refine wpE_ret (by kernel_rfl) ?_
         repeat (first | refine seqQ_ret ?_ | refine blockQ_ret ?_ | refine loopQ_ret ?_ | refine cutQ_ret ?_)
         exact retS (rs := [(ResultVar.tmp 2)]) (v := Value.int .i64 0) (by kernel_rfl) (⟨by kernel_rfl, trivial⟩) ⟨0, rfl, h⟩
 · rintro e w' ⟨v, rfl, r0, rfl, h⟩; exact ⟨r0, rfl, h⟩
end
end Go.Proofs.YtpdegdnigcnjiaaGreatDoor
