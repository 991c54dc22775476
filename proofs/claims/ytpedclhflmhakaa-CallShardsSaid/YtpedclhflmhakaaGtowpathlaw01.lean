/- WRITTEN BY PROGRAM (dec.py): for each Go function the clean formula F, the call's contract C, and the proof S that F gives C. -/
import Derived.Test.YtpedclhflmhakaaRows
import Derived.Test.YtpedclhflmhakaaGF
namespace Go.Proofs.Ytpedclhflmhakaa
open Go
set_option linter.unusedVariables false
set_option maxRecDepth 100000
set_option maxHeartbeats 4000000
noncomputable section

/-! ### towpath/towpathlaw01.SameReq (function 34) -/
def c34_0 := cb_ Try.f34
def c34_1 := cl_ c34_0
def r34_1 := co_ c34_1
def c34_3 := cr_ c34_0
def c34_4 := cl_ c34_3
def r34_4 := co_ c34_4
def c34_6 := cr_ c34_3

theorem S_towpathlaw01_SameReq {a_ : T_api_Req} {b_ : T_api_Req} {w : World} {R : Bool → World → Prop} (h : F_towpathlaw01_SameReq a_ b_ R w) : C_towpathlaw01_SameReq a_ b_ w R := by
 unfold F_towpathlaw01_SameReq at h
 unfold C_towpathlaw01_SameReq
 refine Calls.mono (calls_of_wpE (args := [Value.agg #[Value.int .u8 a_.Kind, Value.int .i64 a_.From, Value.int .i64 a_.Number, Value.string a_.Write.Key, Value.string a_.Write.Val, Value.bool a_.Write.Drop, Value.string a_.Key, Value.string a_.End, sv_ a_.Beyond], Value.agg #[Value.int .u8 b_.Kind, Value.int .i64 b_.From, Value.int .i64 b_.Number, Value.string b_.Write.Key, Value.string b_.Write.Val, Value.bool b_.Write.Drop, Value.string b_.Key, Value.string b_.End, sv_ b_.Beyond]]) (R := fun v w' => ∃ (r0 : Bool), v = Value.bool r0 ∧ R r0 w') Try.func34 (c := c34_0) (by kernel_rfl) 52 (by kernel_rfl) (by kernel_rfl) [(0, Value.agg #[Value.int .u8 a_.Kind, Value.int .i64 a_.From, Value.int .i64 a_.Number, Value.string a_.Write.Key, Value.string a_.Write.Val, Value.bool a_.Write.Drop, Value.string a_.Key, Value.string a_.End, sv_ a_.Beyond]), (1, Value.agg #[Value.int .u8 b_.Kind, Value.int .i64 b_.From, Value.int .i64 b_.Number, Value.string b_.Write.Key, Value.string b_.Write.Val, Value.bool b_.Write.Drop, Value.string b_.Key, Value.string b_.End, sv_ b_.Beyond])] (by kernel_rfl) ?_) ?_
 · refine Zt r34_1 c34_3 ?_
   refine Zn [] 0 [(0, [], .agg #[.int .u8 a_.Kind, .int .i64 a_.From, .int .i64 a_.Number, .string a_.Write.Key, .string a_.Write.Val, .bool a_.Write.Drop, .string a_.Key, .string a_.End, sv_ a_.Beyond]), (1, [], .agg #[.int .u8 b_.Kind, .int .i64 b_.From, .int .i64 b_.Number, .string b_.Write.Key, .string b_.Write.Val, .bool b_.Write.Drop, .string b_.Key, .string b_.End, sv_ b_.Beyond])] ?_
   refine Zw (some 2) (fun bb => pv_ bb) (Obj.cells ([.int .u8 a_.Kind, .int .i64 a_.From, .int .i64 a_.Number, .string a_.Write.Key, .string a_.Write.Val, .bool a_.Write.Drop, .string a_.Key, .string a_.End, sv_ a_.Beyond]).toArray ty_api_Req (0, 0)) (fun b_1 w1 hb hw => ?_)
   replace h := h b_1 w1 hb hw
   clear hb hw
   refine Zn [] 1 [(1, [], .agg #[.int .u8 b_.Kind, .int .i64 b_.From, .int .i64 b_.Number, .string b_.Write.Key, .string b_.Write.Val, .bool b_.Write.Drop, .string b_.Key, .string b_.End, sv_ b_.Beyond]), (2, [], pv_ b_1)] ?_
   refine Zw (some 3) (fun bb => pv_ bb) (Obj.cells ([.int .u8 b_.Kind, .int .i64 b_.From, .int .i64 b_.Number, .string b_.Write.Key, .string b_.Write.Val, .bool b_.Write.Drop, .string b_.Key, .string b_.End, sv_ b_.Beyond]).toArray ty_api_Req (0, 0)) (fun b_2 w2 hb hw => ?_)
   replace h := h b_2 w2 hb hw
   clear hb hw
   refine Zf P1 [(2, pv_ b_1), (3, pv_ b_2)] ?_
   change WpE _ _ c34_3 _ _ _
   refine Zt r34_4 c34_6 ?_
   refine Zn P1 1 [(2, [], pv_ b_1), (3, [], pv_ b_2), (5, [], pv_ b_1)] ?_
   obtain ⟨v6, hc, h⟩ := h
   refine Zl 76 5 b_1 0 76 6 hc ?_
   refine Zn P1 3 [(2, [], pv_ b_1), (3, [], pv_ b_2), (6, [], .int .u8 v6), (7, [], pv_ b_2)] ?_
   obtain ⟨v8, hc, h⟩ := h
   refine Zl 76 7 b_2 0 76 8 hc ?_
   refine Zn P3 7 [(2, [], pv_ b_1), (3, [], pv_ b_2), (10, [], .bool (v6 == v8)), (11, [(10, true)], .pointer (some ⟨b_1, 1, none⟩))] ?_
   refine reg_split 10 (v6 == v8) (by kernel_rfl) (fun hb => ?_) (fun hb => ?_)
   · replace h := h.1 hb
     refine Zn [] 7 [(2, [], pv_ b_1), (3, [], pv_ b_2), (10, [], .bool true), (11, [], .pointer (some ⟨b_1, 1, none⟩))] ?_
     refine Zn [] 7 [(2, [], pv_ b_1), (3, [], pv_ b_2), (10, [], .bool true), (11, [], .pointer (some ⟨b_1, 1, none⟩))] ?_
     obtain ⟨v12, hc, h⟩ := h
     refine Zl 3 11 b_1 1 3 12 hc ?_
     refine Zn [.sure] 9 [(2, [], pv_ b_1), (3, [], pv_ b_2), (10, [], .bool true), (12, [], .int .i64 v12), (13, [], .pointer (some ⟨b_2, 1, none⟩))] ?_
     obtain ⟨v14, hc, h⟩ := h
     refine Zl 3 13 b_2 1 3 14 hc ?_
     refine Zn [.sure, .plain, .plain, .plain] 14 [(2, [], pv_ b_1), (3, [], pv_ b_2), (17, [], .bool (v12 == v14)), (18, [(17, true)], .pointer (some ⟨b_1, 2, none⟩))] ?_
     refine reg_split 17 (v12 == v14) (by kernel_rfl) (fun hb => ?_) (fun hb => ?_)
     · replace h := h.1 hb
       refine Zn [] 14 [(2, [], pv_ b_1), (3, [], pv_ b_2), (17, [], .bool true), (18, [], .pointer (some ⟨b_1, 2, none⟩))] ?_
       refine Zn [] 14 [(2, [], pv_ b_1), (3, [], pv_ b_2), (17, [], .bool true), (18, [], .pointer (some ⟨b_1, 2, none⟩))] ?_
       obtain ⟨v19, hc, h⟩ := h
       refine Zl 3 18 b_1 2 3 19 hc ?_
       refine Zn [.sure] 16 [(2, [], pv_ b_1), (3, [], pv_ b_2), (17, [], .bool true), (19, [], .int .i64 v19), (20, [], .pointer (some ⟨b_2, 2, none⟩))] ?_
       obtain ⟨v21, hc, h⟩ := h
       refine Zl 3 20 b_2 2 3 21 hc ?_
       refine Zn [.sure, .plain, .plain, .plain] 21 [(2, [], pv_ b_1), (3, [], pv_ b_2), (24, [], .bool (v19 == v21)), (25, [(24, true)], .pointer (some ⟨b_1, 3, none⟩))] ?_
       refine reg_split 24 (v19 == v21) (by kernel_rfl) (fun hb => ?_) (fun hb => ?_)
       · replace h := h.1 hb
         refine Zn [] 21 [(2, [], pv_ b_1), (3, [], pv_ b_2), (24, [], .bool true), (25, [], .pointer (some ⟨b_1, 3, none⟩))] ?_
         refine Zn [] 21 [(2, [], pv_ b_1), (3, [], pv_ b_2), (24, [], .bool true), (25, [], .pointer (some ⟨b_1, 3, none⟩))] ?_
         obtain ⟨v26, hc, h⟩ := h
         refine reg_loadN (t := 78) (a := (Operand.tmp 25)) (b := b_1) (o := 3) (ty := 78) (dst := some 26) [Value.string v26.Key, Value.string v26.Val, Value.bool v26.Drop] (by kernel_rfl) (by kernel_rfl) (by kernel_rfl) (k := 3) (by kernel_rfl) (by kernel_rfl) hc ?_
         refine Zn [.sure] 23 [(2, [], pv_ b_1), (3, [], pv_ b_2), (24, [], .bool true), (26, [], .agg #[.string v26.Key, .string v26.Val, .bool v26.Drop]), (27, [], .pointer (some ⟨b_2, 3, none⟩))] ?_
         obtain ⟨v28, hc, h⟩ := h
         refine reg_loadN (t := 78) (a := (Operand.tmp 27)) (b := b_2) (o := 3) (ty := 78) (dst := some 28) [Value.string v28.Key, Value.string v28.Val, Value.bool v28.Drop] (by kernel_rfl) (by kernel_rfl) (by kernel_rfl) (k := 3) (by kernel_rfl) (by kernel_rfl) hc ?_
         refine Zn [] 24 [(2, [], pv_ b_1), (3, [], pv_ b_2), (24, [], .bool true), (26, [], .agg #[.string v26.Key, .string v26.Val, .bool v26.Drop]), (28, [], .agg #[.string v28.Key, .string v28.Val, .bool v28.Drop])] ?_
         refine reg_val (op := (Op.binOp BinOp.eql 78 (Operand.tmp 26) (Operand.tmp 28) 78)) (ty := 4) (dst := some 29) (Value.bool (((v26.Key == v28.Key) && (v26.Val == v28.Val)) && (v26.Drop == v28.Drop))) (by kernel_rfl) (fun ww => run_struct_eql (xs := [Value.string v26.Key, Value.string v26.Val, Value.bool v26.Drop]) (ys := [Value.string v28.Key, Value.string v28.Val, Value.bool v28.Drop]) (by kernel_rfl) (by kernel_rfl) (by kernel_rfl) (by kernel_rfl) (by kernel_rfl) ww) ?_
         refine Zn P3 28 [(2, [], pv_ b_1), (3, [], pv_ b_2), (31, [], .bool (((v26.Key == v28.Key) && (v26.Val == v28.Val)) && (v26.Drop == v28.Drop))), (32, [(31, true)], .pointer (some ⟨b_1, 6, none⟩))] ?_
         refine reg_split 31 (((v26.Key == v28.Key) && (v26.Val == v28.Val)) && (v26.Drop == v28.Drop)) (by kernel_rfl) (fun hb => ?_) (fun hb => ?_)
         · replace h := h.1 hb
           refine Zn [] 28 [(2, [], pv_ b_1), (3, [], pv_ b_2), (31, [], .bool true), (32, [], .pointer (some ⟨b_1, 6, none⟩))] ?_
           refine Zn [] 28 [(2, [], pv_ b_1), (3, [], pv_ b_2), (31, [], .bool true), (32, [], .pointer (some ⟨b_1, 6, none⟩))] ?_
           obtain ⟨v33, hc, h⟩ := h
           refine Zl 9 32 b_1 6 9 33 hc ?_
           refine Zn [.sure] 30 [(2, [], pv_ b_1), (3, [], pv_ b_2), (31, [], .bool true), (33, [], .string v33), (34, [], .pointer (some ⟨b_2, 6, none⟩))] ?_
           obtain ⟨v35, hc, h⟩ := h
           refine Zl 9 34 b_2 6 9 35 hc ?_
           refine Zn [.sure, .plain, .plain, .plain] 35 [(2, [], pv_ b_1), (3, [], pv_ b_2), (38, [], .bool (v33.toList == v35.toList)), (39, [(38, true)], .pointer (some ⟨b_1, 7, none⟩))] ?_
           refine reg_split 38 (v33.toList == v35.toList) (by kernel_rfl) (fun hb => ?_) (fun hb => ?_)
           · replace h := h.1 hb
             refine Zn [] 35 [(2, [], pv_ b_1), (3, [], pv_ b_2), (38, [], .bool true), (39, [], .pointer (some ⟨b_1, 7, none⟩))] ?_
             refine Zn [] 35 [(2, [], pv_ b_1), (3, [], pv_ b_2), (38, [], .bool true), (39, [], .pointer (some ⟨b_1, 7, none⟩))] ?_
             obtain ⟨v40, hc, h⟩ := h
             refine Zl 9 39 b_1 7 9 40 hc ?_
             refine Zn [.sure] 37 [(2, [], pv_ b_1), (3, [], pv_ b_2), (38, [], .bool true), (40, [], .string v40), (41, [], .pointer (some ⟨b_2, 7, none⟩))] ?_
             obtain ⟨v42, hc, h⟩ := h
             refine Zl 9 41 b_2 7 9 42 hc ?_
             refine Zn [.sure, .plain, .plain, .plain] 42 [(3, [], pv_ b_2), (45, [], .bool (v40.toList == v42.toList)), (46, [(45, true)], .pointer (some ⟨b_1, 8, none⟩))] ?_
             refine reg_split 45 (v40.toList == v42.toList) (by kernel_rfl) (fun hb => ?_) (fun hb => ?_)
             · replace h := h.1 hb
               refine Zn [] 42 [(3, [], pv_ b_2), (45, [], .bool true), (46, [], .pointer (some ⟨b_1, 8, none⟩))] ?_
               refine Zn [] 42 [(3, [], pv_ b_2), (45, [], .bool true), (46, [], .pointer (some ⟨b_1, 8, none⟩))] ?_
               obtain ⟨v47, hc, h⟩ := h
               refine Zl 23 46 b_1 8 23 47 hc ?_
               refine Zn [.sure] 44 [(45, [], .bool true), (47, [], sv_ v47), (48, [], .pointer (some ⟨b_2, 8, none⟩))] ?_
               obtain ⟨v49, hc, h⟩ := h
               refine Zl 23 48 b_2 8 23 49 hc ?_
               refine Zn [] 45 [(45, [], .bool true), (47, [], sv_ v47), (49, [], sv_ v49)] ?_
               refine Zm 66 #[sv_ v47, sv_ v49] (some 50) (Calls.mono h ?_)
               rintro _ w3 ⟨v50, rfl, h⟩
               refine ⟨_, rfl, ?_⟩
               refine Zf P2 [(4, .bool v50)] ?_
               change WpE _ _ c34_6 _ _ _
               refine wpE_ret (by kernel_rfl) ?_
               repeat (first | refine seqQ_ret ?_ | refine blockQ_ret ?_ | refine loopQ_ret ?_ | refine cutQ_ret ?_)
               exact retS (rs := [(ResultVar.tmp 4)]) (v := Value.bool v50) (by kernel_rfl) (⟨by kernel_rfl, trivial⟩) ⟨v50, rfl, h⟩
             · replace h := h.2 hb
               refine Zn [] 42 [(3, [], pv_ b_2), (45, [], .bool false), (46, [], undef)] ?_
               refine Zf [.skip, .skip, .skip, .skip, .plain, .plain] [(4, .bool false)] ?_
               change WpE _ _ c34_6 _ _ _
               refine wpE_ret (by kernel_rfl) ?_
               repeat (first | refine seqQ_ret ?_ | refine blockQ_ret ?_ | refine loopQ_ret ?_ | refine cutQ_ret ?_)
               exact retS (rs := [(ResultVar.tmp 4)]) (v := Value.bool false) (by kernel_rfl) (⟨by kernel_rfl, trivial⟩) ⟨false, rfl, h⟩
           · replace h := h.2 hb
             refine Zn [] 35 [(2, [], pv_ b_1), (3, [], pv_ b_2), (38, [], .bool false), (39, [], undef)] ?_
             refine Zf [.skip, .skip, .skip, .skip, .plain, .plain, .skip, .skip, .skip, .skip, .skip, .plain, .plain] [(4, .bool false)] ?_
             change WpE _ _ c34_6 _ _ _
             refine wpE_ret (by kernel_rfl) ?_
             repeat (first | refine seqQ_ret ?_ | refine blockQ_ret ?_ | refine loopQ_ret ?_ | refine cutQ_ret ?_)
             exact retS (rs := [(ResultVar.tmp 4)]) (v := Value.bool false) (by kernel_rfl) (⟨by kernel_rfl, trivial⟩) ⟨false, rfl, h⟩
         · replace h := h.2 hb
           refine Zn [] 28 [(2, [], pv_ b_1), (3, [], pv_ b_2), (31, [], .bool false), (32, [], undef)] ?_
           refine Zf [.skip, .skip, .skip, .skip, .plain, .plain, .skip, .skip, .skip, .skip, .skip, .plain, .plain, .skip, .skip, .skip, .skip, .skip, .plain, .plain] [(4, .bool false)] ?_
           change WpE _ _ c34_6 _ _ _
           refine wpE_ret (by kernel_rfl) ?_
           repeat (first | refine seqQ_ret ?_ | refine blockQ_ret ?_ | refine loopQ_ret ?_ | refine cutQ_ret ?_)
           exact retS (rs := [(ResultVar.tmp 4)]) (v := Value.bool false) (by kernel_rfl) (⟨by kernel_rfl, trivial⟩) ⟨false, rfl, h⟩
       · replace h := h.2 hb
         refine Zn [] 21 [(2, [], pv_ b_1), (3, [], pv_ b_2), (24, [], .bool false), (25, [], undef)] ?_
         refine Zf [.skip, .skip, .skip, .skip, .plain, .plain, .skip, .skip, .skip, .skip, .skip, .plain, .plain, .skip, .skip, .skip, .skip, .skip, .plain, .plain, .skip, .skip, .skip, .skip, .skip, .plain, .plain] [(4, .bool false)] ?_
         change WpE _ _ c34_6 _ _ _
         refine wpE_ret (by kernel_rfl) ?_
         repeat (first | refine seqQ_ret ?_ | refine blockQ_ret ?_ | refine loopQ_ret ?_ | refine cutQ_ret ?_)
         exact retS (rs := [(ResultVar.tmp 4)]) (v := Value.bool false) (by kernel_rfl) (⟨by kernel_rfl, trivial⟩) ⟨false, rfl, h⟩
     · replace h := h.2 hb
       refine Zn [] 14 [(2, [], pv_ b_1), (3, [], pv_ b_2), (17, [], .bool false), (18, [], undef)] ?_
       refine Zf [.skip, .skip, .skip, .skip, .plain, .plain, .skip, .skip, .skip, .skip, .skip, .plain, .plain, .skip, .skip, .skip, .skip, .skip, .plain, .plain, .skip, .skip, .skip, .skip, .skip, .plain, .plain, .skip, .skip, .skip, .skip, .skip, .plain, .plain] [(4, .bool false)] ?_
       change WpE _ _ c34_6 _ _ _
       refine wpE_ret (by kernel_rfl) ?_
       repeat (first | refine seqQ_ret ?_ | refine blockQ_ret ?_ | refine loopQ_ret ?_ | refine cutQ_ret ?_)
       exact retS (rs := [(ResultVar.tmp 4)]) (v := Value.bool false) (by kernel_rfl) (⟨by kernel_rfl, trivial⟩) ⟨false, rfl, h⟩
   · replace h := h.2 hb
     refine Zn [] 7 [(2, [], pv_ b_1), (3, [], pv_ b_2), (10, [], .bool false), (11, [], undef)] ?_
     refine Zf [.skip, .skip, .skip, .skip, .plain, .plain, .skip, .skip, .skip, .skip, .skip, .plain, .plain, .skip, .skip, .skip, .skip, .skip, .plain, .plain, .skip, .skip, .skip, .skip, .skip, .plain, .plain, .skip, .skip, .skip, .skip, .skip, .plain, .plain, .skip, .skip, .skip, .skip, .skip, .plain, .plain] [(4, .bool false)] ?_
     change WpE _ _ c34_6 _ _ _
     refine wpE_ret (by kernel_rfl) ?_
     repeat (first | refine seqQ_ret ?_ | refine blockQ_ret ?_ | refine loopQ_ret ?_ | refine cutQ_ret ?_)
     exact retS (rs := [(ResultVar.tmp 4)]) (v := Value.bool false) (by kernel_rfl) (⟨by kernel_rfl, trivial⟩) ⟨false, rfl, h⟩
 · rintro e w' ⟨v, rfl, r0, rfl, h⟩; exact ⟨r0, rfl, h⟩

/-! ### towpath/towpathlaw01.SameInts (function 66) -/
def c66_0 := cb_ Try.f66
def c66_3 := cr_ c66_0
def c66_4 := cl_ c66_3
def c66_7 := cr_ c66_4
def c66_8 := cl_ c66_7
def c66_11 := cr_ c66_8
def c66_12 := cr_ c66_7
def c66_13 := cr_ c66_3
def c66_14 := cl_ c66_13
def c66_17 := cr_ c66_14
def c66_18 := cl_ c66_17
def c66_19 := cl_ c66_18
def c66_20 := cl_ c66_19
def c66_23 := cr_ c66_20
def c66_24 := cl_ c66_23
def c66_25 := cr_ c66_23
def c66_26 := cr_ c66_19
def c66_27 := cl_ c66_26
def c66_28 := cl_ c66_27
def c66_29 := cl_ c66_28
def r66_29 := co_ c66_29
def c66_31 := cr_ c66_28
def c66_32 := cl_ c66_31
def c66_35 := cr_ c66_32
def c66_36 := cr_ c66_31
def c66_37 := cr_ c66_26
def r66_37 := co_ c66_37
def c66_39 := cr_ c66_13
def c66_42 := cr_ c66_39

theorem S_towpathlaw01_SameInts {a_ : Slc} {b_ : Slc} {w : World} {R : Bool → World → Prop} (h : F_towpathlaw01_SameInts a_ b_ R w) : C_towpathlaw01_SameInts a_ b_ w R := by
 unfold F_towpathlaw01_SameInts at h
 unfold C_towpathlaw01_SameInts
 refine Calls.mono (calls_of_wpE (args := [sv_ a_, sv_ b_]) (R := fun v w' => ∃ (r0 : Bool), v = Value.bool r0 ∧ R r0 w') Try.func66 (c := c66_0) (by kernel_rfl) 26 (by kernel_rfl) (by kernel_rfl) [(0, sv_ a_), (1, sv_ b_)] (by kernel_rfl) ?_) ?_
 · refine Zp c66_3 P1 [(0, sv_ a_), (1, sv_ b_)] ?_
   refine Zs c66_4 c66_13 ?_
   refine Zp c66_7 (Pl 5) [(0, sv_ a_), (1, sv_ b_), (10, .bool (((a_.len : Nat) : Int) != ((b_.len : Nat) : Int)))] ?_
   refine Zc 10 (((a_.len : Nat) : Int) != ((b_.len : Nat) : Int)) c66_8 c66_12 (fun hb => ?_) (fun hb => ?_)
   · replace h := h.1 hb
     refine Zp c66_11 P1 [(4, .bool false)] ?_
     refine wpE_ret (by kernel_rfl) ?_
     repeat (first | refine seqQ_ret ?_ | refine blockQ_ret ?_ | refine loopQ_ret ?_ | refine cutQ_ret ?_)
     exact retS (rs := [(ResultVar.tmp 4)]) (v := Value.bool false) (by kernel_rfl) (⟨by kernel_rfl, trivial⟩) ⟨false, rfl, h⟩
   · replace h := h.2 hb
     refine wpE_skip (by kernel_rfl) ?_
     change WpE _ _ c66_13 _ _ _
     refine Zs c66_14 c66_39 ?_
     refine Zp c66_17 P1 [(0, sv_ a_), (1, sv_ b_), (5, .int .i64 0)] ?_
     refine Zb 0 c66_18 ?_
     obtain ⟨I, μ, h0, hr⟩ := h
     refine wpE_loop (x := c66_19) (by kernel_rfl) (fun m l w => ∃ (i : Int), l = [(0, sv_ a_), (1, sv_ b_), (5, Value.int .i64 i)] ∧ I i w ∧ μ i w = m) (l' := [(0, sv_ a_), (1, sv_ b_), (5, Value.int .i64 0)]) (Sub.mk (by kernel_rfl)) ⟨0, rfl, h0, rfl⟩ ?_
     rintro _ _ w1 ⟨i, rfl, hI, rfl⟩
     obtain ⟨again_, again__h, h⟩ : ∃ again_ : Int → World → Prop, (∀ i' w', again_ i' w' → I i' w' ∧ μ i' w' < μ i w1) ∧ F_towpathlaw01_SameInts_L0 a_ b_ R again_ i w1 := ⟨_, fun _ _ h => h, hr i w1 hI⟩
     clear h0 hI
     unfold F_towpathlaw01_SameInts_L0 at h
     refine Zs c66_20 c66_26 ?_
     refine Zp c66_23 P4 [(0, sv_ a_), (1, sv_ b_), (5, .int .i64 i), (14, .bool (decide (i < ((a_.len : Nat) : Int))))] ?_
     refine Zc 14 (decide (i < ((a_.len : Nat) : Int))) c66_24 c66_25 (fun hb => ?_) (fun hb => ?_)
     · replace h := h.1 hb
       refine wpE_skip (by kernel_rfl) ?_
       change WpE _ _ c66_26 _ _ _
       refine Zs c66_27 c66_37 ?_
       refine Zb 1 c66_28 ?_
       refine Zs c66_29 c66_31 ?_
       refine wpE_drawregion (id := 6) (ops := r66_29) (by kernel_rfl) (by kernel_rfl) (by kernel_rfl) ?_
       refine qreg_run P2 2 [(0, [], sv_ a_), (1, [], sv_ b_), (5, [], Value.int .i64 i), (17, [], sv_ a_), (18, [], Value.int .i64 i)] (by kernel_rfl) (by kernel_rfl) ?_
       obtain ⟨hp_14, h⟩ := h
       refine qreg_conv [(0, [], sv_ a_), (1, [], sv_ b_), (5, [], Value.int .i64 i), (17, [], Value.slice (some ⟨(pblk a_.ptr), (poff a_.ptr), none⟩) a_.len a_.cap), (18, [], Value.int .i64 i)] (congrArg (fun pp => ([(0, [], sv_ a_), (1, [], sv_ b_), (5, [], Value.int .i64 i), (17, [], Value.slice pp a_.len a_.cap), (18, [], Value.int .i64 i)] : GEnv)) hp_14) ?_
       obtain ⟨h0, h1, h⟩ := h
       refine qreg_indexS1 (t := 23) (e := 3) (x := (Operand.tmp 17)) (ix := (Operand.tmp 18)) (b := (pblk a_.ptr)) (o := (poff a_.ptr)) (l := a_.len) (c := a_.cap) (k := .i64) (j := i) (ty := 0) (dst := some 19) (by kernel_rfl) (by kernel_rfl) (by kernel_rfl) (by kernel_rfl) (by kernel_rfl) h0 h1 ?_
       refine qreg_run [] 3 [(0, [], sv_ a_), (1, [], sv_ b_), (5, [], Value.int .i64 i), (19, [], Value.pointer (some ⟨(pblk a_.ptr), (poff a_.ptr) + i.toNat, none⟩))] (by kernel_rfl) (by kernel_rfl) ?_
       obtain ⟨v20, hc, h⟩ := h
       refine qreg_load1 (t := 3) (a := (Operand.tmp 19)) (b := (pblk a_.ptr)) (o := ((poff a_.ptr) + i.toNat)) (ty := 3) (dst := some 20) (by kernel_rfl) (by kernel_rfl) (by kernel_rfl) hc ?_
       refine qreg_run P2 6 [(0, [], sv_ a_), (1, [], sv_ b_), (5, [], Value.int .i64 i), (20, [], Value.int .i64 v20), (21, [], sv_ b_), (22, [], Value.int .i64 i)] (by kernel_rfl) (by kernel_rfl) ?_
       obtain ⟨hp_15, h⟩ := h
       refine qreg_conv [(0, [], sv_ a_), (1, [], sv_ b_), (5, [], Value.int .i64 i), (20, [], Value.int .i64 v20), (21, [], Value.slice (some ⟨(pblk b_.ptr), (poff b_.ptr), none⟩) b_.len b_.cap), (22, [], Value.int .i64 i)] (congrArg (fun pp => ([(0, [], sv_ a_), (1, [], sv_ b_), (5, [], Value.int .i64 i), (20, [], Value.int .i64 v20), (21, [], Value.slice pp b_.len b_.cap), (22, [], Value.int .i64 i)] : GEnv)) hp_15) ?_
       obtain ⟨h0, h1, h⟩ := h
       refine qreg_indexS1 (t := 23) (e := 3) (x := (Operand.tmp 21)) (ix := (Operand.tmp 22)) (b := (pblk b_.ptr)) (o := (poff b_.ptr)) (l := b_.len) (c := b_.cap) (k := .i64) (j := i) (ty := 0) (dst := some 23) (by kernel_rfl) (by kernel_rfl) (by kernel_rfl) (by kernel_rfl) (by kernel_rfl) h0 h1 ?_
       refine qreg_run [] 7 [(0, [], sv_ a_), (1, [], sv_ b_), (5, [], Value.int .i64 i), (20, [], Value.int .i64 v20), (23, [], Value.pointer (some ⟨(pblk b_.ptr), (poff b_.ptr) + i.toNat, none⟩))] (by kernel_rfl) (by kernel_rfl) ?_
       obtain ⟨v24, hc, h⟩ := h
       refine qreg_load1 (t := 3) (a := (Operand.tmp 23)) (b := (pblk b_.ptr)) (o := ((poff b_.ptr) + i.toNat)) (ty := 3) (dst := some 24) (by kernel_rfl) (by kernel_rfl) (by kernel_rfl) hc ?_
       refine qreg_run P1 9 [(0, [], sv_ a_), (1, [], sv_ b_), (5, [], Value.int .i64 i), (25, [], Value.bool (v20 != v24))] (by kernel_rfl) (by kernel_rfl) ?_
       refine qreg_end [(0, sv_ a_), (1, sv_ b_), (5, Value.int .i64 i), (25, Value.bool (v20 != v24))] (by kernel_rfl) (by kernel_rfl) (fun w2 hw => ?_)
       replace h := h w2 hw
       clear hw
       change WpE _ _ c66_31 _ _ _
       refine Zc 25 (v20 != v24) c66_32 c66_36 (fun hb => ?_) (fun hb => ?_)
       · replace h := h.1 hb
         refine Zp c66_35 P1 [(4, .bool false)] ?_
         refine wpE_ret (by kernel_rfl) ?_
         repeat (first | refine seqQ_ret ?_ | refine blockQ_ret ?_ | refine loopQ_ret ?_ | refine cutQ_ret ?_)
         exact retS (rs := [(ResultVar.tmp 4)]) (v := Value.bool false) (by kernel_rfl) (⟨by kernel_rfl, trivial⟩) ⟨false, rfl, h⟩
       · replace h := h.2 hb
         refine wpE_skip (by kernel_rfl) ?_
         change WpE _ _ c66_37 _ _ _
         refine Zr r66_37 ?_
         refine Zf P3 [(0, sv_ a_), (1, sv_ b_), (5, .int .i64 (IntKind.i64.wrap (i + 1)))] ?_
         have hb_ := again__h _ _ h
         exact ⟨_, hb_.2, [(0, sv_ a_), (1, sv_ b_), (5, Value.int .i64 (IntKind.i64.wrap (i + 1)))], Sub.mk (by kernel_rfl), (IntKind.i64.wrap (i + 1)), rfl, hb_.1, rfl⟩
     · replace h := h.2 hb
       refine wpE_exit (id := 0) (by kernel_rfl) ?_
       change WpE _ _ c66_39 _ _ _
       refine Zp c66_42 P1 [(4, .bool true)] ?_
       refine wpE_ret (by kernel_rfl) ?_
       repeat (first | refine seqQ_ret ?_ | refine blockQ_ret ?_ | refine loopQ_ret ?_ | refine cutQ_ret ?_)
       exact retS (rs := [(ResultVar.tmp 4)]) (v := Value.bool true) (by kernel_rfl) (⟨by kernel_rfl, trivial⟩) ⟨true, rfl, h⟩
 · rintro e w' ⟨v, rfl, r0, rfl, h⟩; exact ⟨r0, rfl, h⟩
end
end Go.Proofs.Ytpedclhflmhakaa
