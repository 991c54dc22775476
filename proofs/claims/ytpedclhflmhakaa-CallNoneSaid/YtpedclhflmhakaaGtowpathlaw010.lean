/- WRITTEN BY PROGRAM (dec.py): for each Go function the clean formula F, the call's contract C, and the proof S that F gives C. -/
import Derived.Test.YtpedclhflmhakaaRows
import Derived.Test.YtpedclhflmhakaaGF
namespace Go.Proofs.Ytpedclhflmhakaa
open Go
set_option linter.unusedVariables false
set_option maxRecDepth 100000
set_option maxHeartbeats 4000000
noncomputable section

/-! ### towpath/towpathlaw01.SameReq (function 34) -/
def c34_0 := cb_ Try.f34
def c34_1 := cl_ c34_0
def r34_1 := co_ c34_1
def c34_3 := cr_ c34_0
def c34_4 := cl_ c34_3
def r34_4 := co_ c34_4
def c34_6 := cr_ c34_3

theorem S_towpathlaw01_SameReq {a_ : T_api_Req} {b_ : T_api_Req} {w : World} {R : Bool → World → Prop} (h : F_towpathlaw01_SameReq a_ b_ R w) : C_towpathlaw01_SameReq a_ b_ w R := by
 unfold F_towpathlaw01_SameReq at h
 unfold C_towpathlaw01_SameReq
 refine Calls.mono (calls_of_wpE (args := [Value.agg #[Value.int .u8 a_.Kind, Value.int .i64 a_.From, Value.int .i64 a_.Number, Value.string a_.Write.Key, Value.string a_.Write.Val, Value.bool a_.Write.Drop, Value.string a_.Key, Value.string a_.End, sv_ a_.Beyond], Value.agg #[Value.int .u8 b_.Kind, Value.int .i64 b_.From, Value.int .i64 b_.Number, Value.string b_.Write.Key, Value.string b_.Write.Val, Value.bool b_.Write.Drop, Value.string b_.Key, Value.string b_.End, sv_ b_.Beyond]]) (R := fun v w' => ∃ (r0 : Bool), v = Value.bool r0 ∧ R r0 w') Try.func34 (c := c34_0) (by kernel_rfl) 52 (by kernel_rfl) (by kernel_rfl) [(0, Value.agg #[Value.int .u8 a_.Kind, Value.int .i64 a_.From, Value.int .i64 a_.Number, Value.string a_.Write.Key, Value.string a_.Write.Val, Value.bool a_.Write.Drop, Value.string a_.Key, Value.string a_.End, sv_ a_.Beyond]), (1, Value.agg #[Value.int .u8 b_.Kind, Value.int .i64 b_.From, Value.int .i64 b_.Number, Value.string b_.Write.Key, Value.string b_.Write.Val, Value.bool b_.Write.Drop, Value.string b_.Key, Value.string b_.End, sv_ b_.Beyond])] (by kernel_rfl) ?_) ?_
 · refine Zt r34_1 c34_3 ?_
   refine Zn [] 0 [(0, [], .agg #[.int .u8 a_.Kind, .int .i64 a_.From, .int .i64 a_.Number, .string a_.Write.Key, .string a_.Write.Val, .bool a_.Write.Drop, .string a_.Key, .string a_.End, sv_ a_.Beyond]), (1, [], .agg #[.int .u8 b_.Kind, .int .i64 b_.From, .int .i64 b_.Number, .string b_.Write.Key, .string b_.Write.Val, .bool b_.Write.Drop, .string b_.Key, .string b_.End, sv_ b_.Beyond])] ?_
   refine Zw (some 2) (fun bb => pv_ bb) (Obj.cells ([.int .u8 a_.Kind, .int .i64 a_.From, .int .i64 a_.Number, .string a_.Write.Key, .string a_.Write.Val, .bool a_.Write.Drop, .string a_.Key, .string a_.End, sv_ a_.Beyond]).toArray ty_api_Req (0, 0)) (fun b_1 w1 hb hw => ?_)
   replace h := h b_1 w1 hb hw
   clear hb hw
   refine Zn [] 1 [(1, [], .agg #[.int .u8 b_.Kind, .int .i64 b_.From, .int .i64 b_.Number, .string b_.Write.Key, .string b_.Write.Val, .bool b_.Write.Drop, .string b_.Key, .string b_.End, sv_ b_.Beyond]), (2, [], pv_ b_1)] ?_
   refine Zw (some 3) (fun bb => pv_ bb) (Obj.cells ([.int .u8 b_.Kind, .int .i64 b_.From, .int .i64 b_.Number, .string b_.Write.Key, .string b_.Write.Val, .bool b_.Write.Drop, .string b_.Key, .string b_.End, sv_ b_.Beyond]).toArray ty_api_Req (0, 0)) (fun b_2 w2 hb hw => ?_)
   replace h := h b_2 w2 hb hw
   clear hb hw
   refine Zf P1 [(2, pv_ b_1), (3, pv_ b_2)] ?_
   change WpE _ _ c34_3 _ _ _
   refine Zt r34_4 c34_6 ?_
   refine Zn P1 1 [(2, [], pv_ b_1), (3, [], pv_ b_2), (5, [], pv_ b_1)] ?_
   obtain ⟨v6, hc, h⟩ := h
   refine Zl 76 5 b_1 0 76 6 hc ?_
   refine Zn P1 3 [(2, [], pv_ b_1), (3, [], pv_ b_2), (6, [], .int .u8 v6), (7, [], pv_ b_2)] ?_
   obtain ⟨v8, hc, h⟩ := h
   refine Zl 76 7 b_2 0 76 8 hc ?_
   refine Zn P3 7 [(2, [], pv_ b_1), (3, [], pv_ b_2), (10, [], .bool (v6 == v8)), (11, [(10, true)], .pointer (some ⟨b_1, 1, none⟩))] ?_
   refine reg_split 10 (v6 == v8) (by kernel_rfl) (fun hb => ?_) (fun hb => ?_)
   · replace h := h.1 hb
     refine Zn [] 7 [(2, [], pv_ b_1), (3, [], pv_ b_2), (10, [], .bool true), (11, [], .pointer (some ⟨b_1, 1, none⟩))] ?_
     refine Zn [] 7 [(2, [], pv_ b_1), (3, [], pv_ b_2), (10, [], .bool true), (11, [], .pointer (some ⟨b_1, 1, none⟩))] ?_
     obtain ⟨v12, hc, h⟩ := h
     refine Zl 3 11 b_1 1 3 12 hc ?_
     refine Zn [.sure] 9 [(2, [], pv_ b_1), (3, [], pv_ b_2), (10, [], .bool true), (12, [], .int .i64 v12), (13, [], .pointer (some ⟨b_2, 1, none⟩))] ?_
     obtain ⟨v14, hc, h⟩ := h
     refine Zl 3 13 b_2 1 3 14 hc ?_
     refine Zn [.sure, .plain, .plain, .plain] 14 [(2, [], pv_ b_1), (3, [], pv_ b_2), (17, [], .bool (v12 == v14)), (18, [(17, true)], .pointer (some ⟨b_1, 2, none⟩))] ?_
     refine reg_split 17 (v12 == v14) (by kernel_rfl) (fun hb => ?_) (fun hb => ?_)
     · replace h := h.1 hb
       refine Zn [] 14 [(2, [], pv_ b_1), (3, [], pv_ b_2), (17, [], .bool true), (18, [], .pointer (some ⟨b_1, 2, none⟩))] ?_
       refine Zn [] 14 [(2, [], pv_ b_1), (3, [], pv_ b_2), (17, [], .bool true), (18, [], .pointer (some ⟨b_1, 2, none⟩))] ?_
       obtain ⟨v19, hc, h⟩ := h
       refine Zl 3 18 b_1 2 3 19 hc ?_
       refine Zn [.sure] 16 [(2, [], pv_ b_1), (3, [], pv_ b_2), (17, [], .bool true), (19, [], .int .i64 v19), (20, [], .pointer (some ⟨b_2, 2, none⟩))] ?_
       obtain ⟨v21, hc, h⟩ := h
       refine Zl 3 20 b_2 2 3 21 hc ?_
       refine Zn [.sure, .plain, .plain, .plain] 21 [(2, [], pv_ b_1), (3, [], pv_ b_2), (24, [], .bool (v19 == v21)), (25, [(24, true)], .pointer (some ⟨b_1, 3, none⟩))] ?_
       refine reg_split 24 (v19 == v21) (by kernel_rfl) (fun hb => ?_) (fun hb => ?_)
       · replace h := h.1 hb
         refine Zn [] 21 [(2, [], pv_ b_1), (3, [], pv_ b_2), (24, [], .bool true), (25, [], .pointer (some ⟨b_1, 3, none⟩))] ?_
         refine Zn [] 21 [(2, [], pv_ b_1), (3, [], pv_ b_2), (24, [], .bool true), (25, [], .pointer (some ⟨b_1, 3, none⟩))] ?_
         obtain ⟨v26, hc, h⟩ := h
         refine reg_loadN (t := 78) (a := (Operand.tmp 25)) (b := b_1) (o := 3) (ty := 78) (dst := some 26) [Value.string v26.Key, Value.string v26.Val, Value.bool v26.Drop] (by kernel_rfl) (by kernel_rfl) (by kernel_rfl) (k := 3) (by kernel_rfl) (by kernel_rfl) hc ?_
         refine Zn [.sure] 23 [(2, [], pv_ b_1), (3, [], pv_ b_2), (24, [], .bool true), (26, [], .agg #[.string v26.Key, .string v26.Val, .bool v26.Drop]), (27, [], .pointer (some ⟨b_2, 3, none⟩))] ?_
         obtain ⟨v28, hc, h⟩ := h
         refine reg_loadN (t := 78) (a := (Operand.tmp 27)) (b := b_2) (o := 3) (ty := 78) (dst := some 28) [Value.string v28.Key, Value.string v28.Val, Value.bool v28.Drop] (by kernel_rfl) (by kernel_rfl) (by kernel_rfl) (k := 3) (by kernel_rfl) (by kernel_rfl) hc ?_
         refine Zn [] 24 [(2, [], pv_ b_1), (3, [], pv_ b_2), (24, [], .bool true), (26, [], .agg #[.string v26.Key, .string v26.Val, .bool v26.Drop]), (28, [], .agg #[.string v28.Key, .string v28.Val, .bool v28.Drop])] ?_
         refine reg_val (op := (Op.binOp BinOp.eql 78 (Operand.tmp 26) (Operand.tmp 28) 78)) (ty := 4) (dst := some 29) (Value.bool (((v26.Key == v28.Key) && (v26.Val == v28.Val)) && (v26.Drop == v28.Drop))) (by kernel_rfl) (fun ww => run_struct_eql (xs := [Value.string v26.Key, Value.string v26.Val, Value.bool v26.Drop]) (ys := [Value.string v28.Key, Value.string v28.Val, Value.bool v28.Drop]) (by kernel_rfl) (by kernel_rfl) (by kernel_rfl) (by kernel_rfl) (by kernel_rfl) ww) ?_
         refine Zn P3 28 [(2, [], pv_ b_1), (3, [], pv_ b_2), (31, [], .bool (((v26.Key == v28.Key) && (v26.Val == v28.Val)) && (v26.Drop == v28.Drop))), (32, [(31, true)], .pointer (some ⟨b_1, 6, none⟩))] ?_
         refine reg_split 31 (((v26.Key == v28.Key) && (v26.Val == v28.Val)) && (v26.Drop == v28.Drop)) (by kernel_rfl) (fun hb => ?_) (fun hb => ?_)
         · replace h := h.1 hb
           refine Zn [] 28 [(2, [], pv_ b_1), (3, [], pv_ b_2), (31, [], .bool true), (32, [], .pointer (some ⟨b_1, 6, none⟩))] ?_
           refine Zn [] 28 [(2, [], pv_ b_1), (3, [], pv_ b_2), (31, [], .bool true), (32, [], .pointer (some ⟨b_1, 6, none⟩))] ?_
           obtain ⟨v33, hc, h⟩ := h
           refine Zl 9 32 b_1 6 9 33 hc ?_
           refine Zn [.sure] 30 [(2, [], pv_ b_1), (3, [], pv_ b_2), (31, [], .bool true), (33, [], .string v33), (34, [], .pointer (some ⟨b_2, 6, none⟩))] ?_
           obtain ⟨v35, hc, h⟩ := h
           refine Zl 9 34 b_2 6 9 35 hc ?_
           refine Zn [.sure, .plain, .plain, .plain] 35 [(2, [], pv_ b_1), (3, [], pv_ b_2), (38, [], .bool (v33.toList == v35.toList)), (39, [(38, true)], .pointer (some ⟨b_1, 7, none⟩))] ?_
           refine reg_split 38 (v33.toList == v35.toList) (by kernel_rfl) (fun hb => ?_) (fun hb => ?_)
           · replace h := h.1 hb
             refine Zn [] 35 [(2, [], pv_ b_1), (3, [], pv_ b_2), (38, [], .bool true), (39, [], .pointer (some ⟨b_1, 7, none⟩))] ?_
             refine Zn [] 35 [(2, [], pv_ b_1), (3, [], pv_ b_2), (38, [], .bool true), (39, [], .pointer (some ⟨b_1, 7, none⟩))] ?_
             obtain ⟨v40, hc, h⟩ := h
             refine Zl 9 39 b_1 7 9 40 hc ?_
             refine Zn [.sure] 37 [(2, [], pv_ b_1), (3, [], pv_ b_2), (38, [], .bool true), (40, [], .string v40), (41, [], .pointer (some ⟨b_2, 7, none⟩))] ?_
             obtain ⟨v42, hc, h⟩ := h
             refine Zl 9 41 b_2 7 9 42 hc ?_
             refine Zn [.sure, .plain, .plain, .plain] 42 [(3, [], pv_ b_2), (45, [], .bool (v40.toList == v42.toList)), (46, [(45, true)], .pointer (some ⟨b_1, 8, none⟩))] ?_
             refine reg_split 45 (v40.toList == v42.toList) (by kernel_rfl) (fun hb => ?_) (fun hb => ?_)
             · replace h := h.1 hb
               refine Zn [] 42 [(3, [], pv_ b_2), (45, [], .bool true), (46, [], .pointer (some ⟨b_1, 8, none⟩))] ?_
               refine Zn [] 42 [(3, [], pv_ b_2), (45, [], .bool true), (46, [], .pointer (some ⟨b_1, 8, none⟩))] ?_
               obtain ⟨v47, hc, h⟩ := h
               refine Zl 23 46 b_1 8 23 47 hc ?_
               refine Zn [.sure] 44 [(45, [], .bool true), (47, [], sv_ v47), (48, [], .pointer (some ⟨b_2, 8, none⟩))] ?_
               obtain ⟨v49, hc, h⟩ := h
               refine Zl 23 48 b_2 8 23 49 hc ?_
               refine Zn [] 45 [(45, [], .bool true), (47, [], sv_ v47), (49, [], sv_ v49)] ?_
               refine Zm 66 #[sv_ v47, sv_ v49] (some 50) (Calls.mono h ?_)
               rintro _ w3 ⟨v50, rfl, h⟩
               refine ⟨_, rfl, ?_⟩
               refine Zf P2 [(4, .bool v50)] ?_
               change WpE _ _ c34_6 _ _ _
               refine wpE_ret (by kernel_rfl) ?_
               repeat (first | refine seqQ_ret ?_ | refine blockQ_ret ?_ | refine loopQ_ret ?_ | refine cutQ_ret ?_)
               exact retS (rs := [(ResultVar.tmp 4)]) (v := Value.bool v50) (by kernel_rfl) (⟨by kernel_rfl, trivial⟩) ⟨v50, rfl, h⟩
             · replace h := h.2 hb
               refine Zn [] 42 [(3, [], pv_ b_2), (45, [], .bool false), (46, [], undef)] ?_
               refine Zf [.skip, .skip, .skip, .skip, .plain, .plain] [(4, .bool false)] ?_
               change WpE _ _ c34_6 _ _ _
               refine wpE_ret (by kernel_rfl) ?_
               repeat (first | refine seqQ_ret ?_ | refine blockQ_ret ?_ | refine loopQ_ret ?_ | refine cutQ_ret ?_)
               exact retS (rs := [(ResultVar.tmp 4)]) (v := Value.bool false) (by kernel_rfl) (⟨by kernel_rfl, trivial⟩) ⟨false, rfl, h⟩
           · replace h := h.2 hb
             refine Zn [] 35 [(2, [], pv_ b_1), (3, [], pv_ b_2), (38, [], .bool false), (39, [], undef)] ?_
             refine Zf [.skip, .skip, .skip, .skip, .plain, .plain, .skip, .skip, .skip, .skip, .skip, .plain, .plain] [(4, .bool false)] ?_
             change WpE _ _ c34_6 _ _ _
             refine wpE_ret (by kernel_rfl) ?_
             repeat (first | refine seqQ_ret ?_ | refine blockQ_ret ?_ | refine loopQ_ret ?_ | refine cutQ_ret ?_)
             exact retS (rs := [(ResultVar.tmp 4)]) (v := Value.bool false) (by kernel_rfl) (⟨by kernel_rfl, trivial⟩) ⟨false, rfl, h⟩
         · replace h := h.2 hb
           refine Zn [] 28 [(2, [], pv_ b_1), (3, [], pv_ b_2), (31, [], .bool false), (32, [], undef)] ?_
           refine Zf [.skip, .skip, .skip, .skip, .plain, .plain, .skip, .skip, .skip, .skip, .skip, .plain, .plain, .skip, .skip, .skip, .skip, .skip, .plain, .plain] [(4, .bool false)] ?_
           change WpE _ _ c34_6 _ _ _
           refine wpE_ret (by kernel_rfl) ?_
           repeat (first | refine seqQ_ret ?_ | refine blockQ_ret ?_ | refine loopQ_ret ?_ | refine cutQ_ret ?_)
           exact retS (rs := [(ResultVar.tmp 4)]) (v := Value.bool false) (by kernel_rfl) (⟨by kernel_rfl, trivial⟩) ⟨false, rfl, h⟩
       · replace h := h.2 hb
         refine Zn [] 21 [(2, [], pv_ b_1), (3, [], pv_ b_2), (24, [], .bool false), (25, [], undef)] ?_
         refine Zf [.skip, .skip, .skip, .skip, .plain, .plain, .skip, .skip, .skip, .skip, .skip, .plain, .plain, .skip, .skip, .skip, .skip, .skip, .plain, .plain, .skip, .skip, .skip, .skip, .skip, .plain, .plain] [(4, .bool false)] ?_
         change WpE _ _ c34_6 _ _ _
         refine wpE_ret (by kernel_rfl) ?_
         repeat (first | refine seqQ_ret ?_ | refine blockQ_ret ?_ | refine loopQ_ret ?_ | refine cutQ_ret ?_)
         exact retS (rs := [(ResultVar.tmp 4)]) (v := Value.bool false) (by kernel_rfl) (⟨by kernel_rfl, trivial⟩) ⟨false, rfl, h⟩
     · replace h := h.2 hb
       refine Zn [] 14 [(2, [], pv_ b_1), (3, [], pv_ b_2), (17, [], .bool false), (18, [], undef)] ?_
       refine Zf [.skip, .skip, .skip, .skip, .plain, .plain, .skip, .skip, .skip, .skip, .skip, .plain, .plain, .skip, .skip, .skip, .skip, .skip, .plain, .plain, .skip, .skip, .skip, .skip, .skip, .plain, .plain, .skip, .skip, .skip, .skip, .skip, .plain, .plain] [(4, .bool false)] ?_
       change WpE _ _ c34_6 _ _ _
       refine wpE_ret (by kernel_rfl) ?_
       repeat (first | refine seqQ_ret ?_ | refine blockQ_ret ?_ | refine loopQ_ret ?_ | refine cutQ_ret ?_)
       exact retS (rs := [(ResultVar.tmp 4)]) (v := Value.bool false) (by kernel_rfl) (⟨by kernel_rfl, trivial⟩) ⟨false, rfl, h⟩
   · replace h := h.2 hb
     refine Zn [] 7 [(2, [], pv_ b_1), (3, [], pv_ b_2), (10, [], .bool false), (11, [], undef)] ?_
     refine Zf [.skip, .skip, .skip, .skip, .plain, .plain, .skip, .skip, .skip, .skip, .skip, .plain, .plain, .skip, .skip, .skip, .skip, .skip, .plain, .plain, .skip, .skip, .skip, .skip, .skip, .plain, .plain, .skip, .skip, .skip, .skip, .skip, .plain, .plain, .skip, .skip, .skip, .skip, .skip, .plain, .plain] [(4, .bool false)] ?_
     change WpE _ _ c34_6 _ _ _
     refine wpE_ret (by kernel_rfl) ?_
     repeat (first | refine seqQ_ret ?_ | refine blockQ_ret ?_ | refine loopQ_ret ?_ | refine cutQ_ret ?_)
     exact retS (rs := [(ResultVar.tmp 4)]) (v := Value.bool false) (by kernel_rfl) (⟨by kernel_rfl, trivial⟩) ⟨false, rfl, h⟩
 · rintro e w' ⟨v, rfl, r0, rfl, h⟩; exact ⟨r0, rfl, h⟩

/-! ### towpath/towpathlaw01.TwinInts (function 42) -/
def c42_0 := cb_ Try.f42
def c42_3 := cr_ c42_0
def c42_4 := cl_ c42_3
def r42_4 := co_ c42_4
def c42_6 := cr_ c42_3
def c42_7 := cl_ c42_6
def c42_10 := cr_ c42_7
def c42_11 := cl_ c42_10
def c42_12 := cl_ c42_11
def c42_13 := cl_ c42_12
def c42_16 := cr_ c42_13
def c42_17 := cl_ c42_16
def c42_18 := cr_ c42_16
def c42_19 := cr_ c42_12
def c42_20 := cl_ c42_19
def c42_21 := cl_ c42_20
def r42_21 := co_ c42_21
def c42_23 := cr_ c42_19
def r42_23 := co_ c42_23
def c42_25 := cr_ c42_6
def c42_26 := cl_ c42_25
def r42_26 := co_ c42_26
def c42_28 := cr_ c42_25

theorem S_towpathlaw01_TwinInts {l_ : Slc} {w : World} {R : Slc → World → Prop} (h : F_towpathlaw01_TwinInts l_ R w) : C_towpathlaw01_TwinInts l_ w R := by
 unfold F_towpathlaw01_TwinInts at h
 unfold C_towpathlaw01_TwinInts
 refine Calls.mono (calls_of_wpE (args := [sv_ l_]) (R := fun v w' => ∃ (r0 : Slc), v = sv_ r0 ∧ R r0 w') Try.func42 (c := c42_0) (by kernel_rfl) 28 (by kernel_rfl) (by kernel_rfl) [(0, sv_ l_)] (by kernel_rfl) ?_) ?_
 · refine Zp c42_3 P1 [(0, sv_ l_)] ?_
   refine Zt r42_4 c42_6 ?_
   refine Zn P3 3 [(0, [], sv_ l_), (7, [], .int .i64 (IntKind.i64.wrap (((l_.len : Nat) : Int) + 1)))] ?_
   obtain ⟨h0, h1, h2, h⟩ := h
   refine reg_makeSlice (t := 23) (e := 3) (lo := (Operand.const (Value.int Go.IntKind.i64 0))) (co := (Operand.tmp 7)) (l := 0) (c := (IntKind.i64.wrap (((l_.len : Nat) : Int) + 1))) (sz := 1) (by_ := 8) (zs := [Value.int .i64 0]) (ty := 23) (dst := some 8) (by kernel_rfl) (by kernel_rfl) (by kernel_rfl) (by kernel_rfl) (by kernel_rfl) (by kernel_rfl) (by kernel_rfl) (by kernel_rfl) (by kernel_rfl) h0 h1 h2 (fun b_ w1 hb hw => ?_)
   replace h := h b_ w1 hb hw
   clear hb hw
   refine Zf P1 [(0, sv_ l_), (3, .slice (some ⟨b_, 0, none⟩) 0 ((IntKind.i64.wrap (((l_.len : Nat) : Int) + 1)).toNat))] ?_
   change WpE _ _ c42_6 _ _ _
   refine Zs c42_7 c42_25 ?_
   refine Zp c42_10 P1 [(0, sv_ l_), (3, .slice (some ⟨b_, 0, none⟩) 0 ((IntKind.i64.wrap (((l_.len : Nat) : Int) + 1)).toNat)), (4, .int .i64 0)] ?_
   refine Zb 0 c42_11 ?_
   obtain ⟨I, μ, h0, hr⟩ := h
   refine wpE_loop (x := c42_12) (by kernel_rfl) (fun m l w => ∃ (t_ : Slc) (i : Int), l = [(0, sv_ l_), (3, sv_ t_), (4, Value.int .i64 i)] ∧ I t_ i w ∧ μ t_ i w = m) (l' := [(0, sv_ l_), (3, Value.slice (some ⟨b_, 0, none⟩) 0 ((IntKind.i64.wrap (((l_.len : Nat) : Int) + 1)).toNat)), (4, Value.int .i64 0)]) (Sub.mk (by kernel_rfl)) ⟨(Slc.mk (some ⟨b_, 0, none⟩) 0 ((IntKind.i64.wrap (((l_.len : Nat) : Int) + 1)).toNat)), 0, rfl, h0, rfl⟩ ?_
   rintro _ _ w2 ⟨t_, i, rfl, hI, rfl⟩
   obtain ⟨again_, again__h, h⟩ : ∃ again_ : Slc → Int → World → Prop, (∀ t_' i' w', again_ t_' i' w' → I t_' i' w' ∧ μ t_' i' w' < μ t_ i w2) ∧ F_towpathlaw01_TwinInts_L0 l_ R again_ t_ i w2 := ⟨_, fun _ _ _ h => h, hr t_ i w2 hI⟩
   clear h0 hI
   unfold F_towpathlaw01_TwinInts_L0 at h
   refine Zs c42_13 c42_19 ?_
   refine Zp c42_16 P4 [(0, sv_ l_), (3, sv_ t_), (4, .int .i64 i), (12, .bool (decide (i < ((l_.len : Nat) : Int))))] ?_
   refine Zc 12 (decide (i < ((l_.len : Nat) : Int))) c42_17 c42_18 (fun hb => ?_) (fun hb => ?_)
   · replace h := h.1 hb
     refine wpE_skip (by kernel_rfl) ?_
     change WpE _ _ c42_19 _ _ _
     refine Zs c42_20 c42_23 ?_
     refine Zb 1 c42_21 ?_
     refine Zr r42_21 ?_
     refine Zn P3 3 [(0, [], sv_ l_), (3, [], sv_ t_), (4, [], .int .i64 i), (15, [], sv_ t_), (16, [], sv_ l_), (17, [], .int .i64 i)] ?_
     obtain ⟨hp_3, h⟩ := h
     refine Zv (fun pp => [(0, [], sv_ l_), (3, [], sv_ t_), (4, [], .int .i64 i), (15, [], sv_ t_), (16, [], .slice pp l_.len l_.cap), (17, [], .int .i64 i)]) hp_3 ?_
     obtain ⟨h0, h1, h⟩ := h
     refine Zi 23 3 16 17 (pblk l_.ptr) (poff l_.ptr) l_.len l_.cap i 18 0 h0 h1 ?_
     refine Zn [] 4 [(0, [], sv_ l_), (3, [], sv_ t_), (4, [], .int .i64 i), (15, [], sv_ t_), (18, [], .pointer (some ⟨(pblk l_.ptr), (poff l_.ptr) + i.toNat, none⟩))] ?_
     obtain ⟨v19, hc, h⟩ := h
     refine Zl 3 18 (pblk l_.ptr) ((poff l_.ptr) + i.toNat) 3 19 hc ?_
     refine Zn [] 5 [(0, [], sv_ l_), (3, [], sv_ t_), (4, [], .int .i64 i), (15, [], sv_ t_), (19, [], .int .i64 v19)] ?_
     refine Zw (some 20) (fun bb => .slice (some ⟨bb, 0, none⟩) 1 1) (Obj.cells ([.int .i64 v19]).toArray ty_int (0, 0)) (fun b_1 w3 hb hw => ?_)
     replace h := h b_1 w3 hb hw
     clear hb hw
     refine Zn [] 6 [(0, [], sv_ l_), (3, [], sv_ t_), (4, [], .int .i64 i), (15, [], sv_ t_), (20, [], .slice (some ⟨b_1, 0, none⟩) 1 1)] ?_
     obtain ⟨src, hs, h⟩ := h
     refine reg_append (t := 23) (tx := 23) (e := 3) (a := (Operand.tmp 15)) (xo := (Operand.tmp 20)) (s := t_) (x := (Slc.mk (some ⟨b_1, 0, none⟩) 1 1)) (sz := 1) (by_ := 8) (zs := [Value.int .i64 0]) (ty := 23) (dst := some 21)  src (by kernel_rfl) (by kernel_rfl) (by kernel_rfl) (by kernel_rfl) (by kernel_rfl) (by kernel_rfl) (by kernel_rfl) (by kernel_rfl) (by kernel_rfl) hs (AppendW.mono h (fun t_1 w4 h => ?_))
     refine Zf P1 [(0, sv_ l_), (3, sv_ t_1), (4, .int .i64 i)] ?_
     change WpE _ _ c42_23 _ _ _
     refine Zr r42_23 ?_
     refine Zf P3 [(0, sv_ l_), (3, sv_ t_1), (4, .int .i64 (IntKind.i64.wrap (i + 1)))] ?_
     have hb_ := again__h _ _ _ h
     exact ⟨_, hb_.2, [(0, sv_ l_), (3, sv_ t_1), (4, Value.int .i64 (IntKind.i64.wrap (i + 1)))], Sub.mk (by kernel_rfl), t_1, (IntKind.i64.wrap (i + 1)), rfl, hb_.1, rfl⟩
   · replace h := h.2 hb
     refine wpE_exit (id := 0) (by kernel_rfl) ?_
     change WpE _ _ c42_25 _ _ _
     refine Zt r42_26 c42_28 ?_
     refine Zn P1 1 [(0, [], sv_ l_), (22, [], sv_ t_)] ?_
     refine Zw (some 23) (fun bb => .slice (some ⟨bb, 0, none⟩) 1 1) (Obj.cells ([.int .i64 7777]).toArray ty_int (0, 0)) (fun b_2 w5 hb hw => ?_)
     replace h := h b_2 w5 hb hw
     clear hb hw
     refine Zn [] 2 [(0, [], sv_ l_), (22, [], sv_ t_), (23, [], .slice (some ⟨b_2, 0, none⟩) 1 1)] ?_
     obtain ⟨src, hs, h⟩ := h
     refine reg_append (t := 23) (tx := 23) (e := 3) (a := (Operand.tmp 22)) (xo := (Operand.tmp 23)) (s := t_) (x := (Slc.mk (some ⟨b_2, 0, none⟩) 1 1)) (sz := 1) (by_ := 8) (zs := [Value.int .i64 0]) (ty := 23) (dst := some 24)  src (by kernel_rfl) (by kernel_rfl) (by kernel_rfl) (by kernel_rfl) (by kernel_rfl) (by kernel_rfl) (by kernel_rfl) (by kernel_rfl) (by kernel_rfl) hs (AppendW.mono h (fun v24 w6 h => ?_))
     refine Zn P2 5 [(24, [], sv_ v24), (26, [], .int .i64 ((l_.len : Nat) : Int))] ?_
     obtain ⟨h0, h1, h⟩ := h
     refine reg_sliceHi (t := 23) (e := 3) (x := (Operand.tmp 24)) (hi := (Operand.tmp 26)) (p := v24.ptr) (l := v24.len) (c := v24.cap) (sz := 1) (k := .i64) (j := ((l_.len : Nat) : Int)) (ty := 23) (dst := some 27) (by kernel_rfl) (by kernel_rfl) (by kernel_rfl) (by kernel_rfl) (by kernel_rfl) h0 h1 ?_
     refine Zf P1 [(2, .slice v24.ptr (((l_.len : Nat) : Int).toNat) v24.cap)] ?_
     change WpE _ _ c42_28 _ _ _
     refine wpE_ret (by kernel_rfl) ?_
     repeat (first | refine seqQ_ret ?_ | refine blockQ_ret ?_ | refine loopQ_ret ?_ | refine cutQ_ret ?_)
     exact retS (rs := [(ResultVar.tmp 2)]) (v := Value.slice v24.ptr (((l_.len : Nat) : Int).toNat) v24.cap) (by kernel_rfl) (⟨by kernel_rfl, trivial⟩) ⟨(Slc.mk v24.ptr (((l_.len : Nat) : Int).toNat) v24.cap), rfl, h⟩
 · rintro e w' ⟨v, rfl, r0, rfl, h⟩; exact ⟨r0, rfl, h⟩

/-! ### towpath/towpathlaw01.LeftInts (function 44) -/
def c44_0 := cb_ Try.f44
def c44_3 := cr_ c44_0
def c44_4 := cl_ c44_3
def c44_7 := cr_ c44_4
def c44_8 := cl_ c44_7
def c44_11 := cr_ c44_8
def c44_12 := cr_ c44_7
def c44_13 := cr_ c44_3
def c44_14 := cl_ c44_13
def c44_17 := cr_ c44_14
def c44_18 := cl_ c44_17
def c44_19 := cl_ c44_18
def c44_20 := cl_ c44_19
def c44_23 := cr_ c44_20
def c44_24 := cl_ c44_23
def c44_25 := cr_ c44_23
def c44_26 := cr_ c44_19
def c44_27 := cl_ c44_26
def c44_28 := cl_ c44_27
def c44_29 := cl_ c44_28
def r44_29 := co_ c44_29
def c44_31 := cr_ c44_28
def c44_32 := cl_ c44_31
def c44_35 := cr_ c44_32
def c44_36 := cr_ c44_31
def c44_37 := cr_ c44_26
def r44_37 := co_ c44_37
def c44_39 := cr_ c44_13
def c44_40 := cl_ c44_39
def r44_40 := co_ c44_40
def c44_42 := cr_ c44_39
def c44_45 := cr_ c44_42

theorem S_towpathlaw01_LeftInts {t_ : Slc} {l_ : Slc} {w : World} {R : Bool → World → Prop} (h : F_towpathlaw01_LeftInts t_ l_ R w) : C_towpathlaw01_LeftInts t_ l_ w R := by
 unfold F_towpathlaw01_LeftInts at h
 unfold C_towpathlaw01_LeftInts
 refine Calls.mono (calls_of_wpE (args := [sv_ t_, sv_ l_]) (R := fun v w' => ∃ (r0 : Bool), v = Value.bool r0 ∧ R r0 w') Try.func44 (c := c44_0) (by kernel_rfl) 45 (by kernel_rfl) (by kernel_rfl) [(0, sv_ t_), (1, sv_ l_)] (by kernel_rfl) ?_) ?_
 · refine Zp c44_3 P1 [(0, sv_ t_), (1, sv_ l_)] ?_
   refine Zs c44_4 c44_13 ?_
   refine Zp c44_7 [.plain, .plain, .plain, .plain, .plain, .plain, .plain, .plain, .plain, .plain, .plain, .pick] [(0, sv_ t_), (1, sv_ l_), (18, .bool ((((t_.len : Nat) : Int) != ((l_.len : Nat) : Int)) || (decide (((t_.cap : Nat) : Int) ≤ ((l_.len : Nat) : Int)))))] ?_
   refine Zc 18 ((((t_.len : Nat) : Int) != ((l_.len : Nat) : Int)) || (decide (((t_.cap : Nat) : Int) ≤ ((l_.len : Nat) : Int)))) c44_8 c44_12 (fun hb => ?_) (fun hb => ?_)
   · replace h := h.1 hb
     refine Zp c44_11 P1 [(4, .bool false)] ?_
     refine wpE_ret (by kernel_rfl) ?_
     repeat (first | refine seqQ_ret ?_ | refine blockQ_ret ?_ | refine loopQ_ret ?_ | refine cutQ_ret ?_)
     exact retS (rs := [(ResultVar.tmp 4)]) (v := Value.bool false) (by kernel_rfl) (⟨by kernel_rfl, trivial⟩) ⟨false, rfl, h⟩
   · replace h := h.2 hb
     refine wpE_skip (by kernel_rfl) ?_
     change WpE _ _ c44_13 _ _ _
     refine Zs c44_14 c44_39 ?_
     refine Zp c44_17 P1 [(0, sv_ t_), (1, sv_ l_), (5, .int .i64 0)] ?_
     refine Zb 0 c44_18 ?_
     obtain ⟨I, μ, h0, hr⟩ := h
     refine wpE_loop (x := c44_19) (by kernel_rfl) (fun m l w => ∃ (i : Int), l = [(0, sv_ t_), (1, sv_ l_), (5, Value.int .i64 i)] ∧ I i w ∧ μ i w = m) (l' := [(0, sv_ t_), (1, sv_ l_), (5, Value.int .i64 0)]) (Sub.mk (by kernel_rfl)) ⟨0, rfl, h0, rfl⟩ ?_
     rintro _ _ w1 ⟨i, rfl, hI, rfl⟩
     obtain ⟨again_, again__h, h⟩ : ∃ again_ : Int → World → Prop, (∀ i' w', again_ i' w' → I i' w' ∧ μ i' w' < μ i w1) ∧ F_towpathlaw01_LeftInts_L0 t_ l_ R again_ i w1 := ⟨_, fun _ _ h => h, hr i w1 hI⟩
     clear h0 hI
     unfold F_towpathlaw01_LeftInts_L0 at h
     refine Zs c44_20 c44_26 ?_
     refine Zp c44_23 P4 [(0, sv_ t_), (1, sv_ l_), (5, .int .i64 i), (22, .bool (decide (i < ((l_.len : Nat) : Int))))] ?_
     refine Zc 22 (decide (i < ((l_.len : Nat) : Int))) c44_24 c44_25 (fun hb => ?_) (fun hb => ?_)
     · replace h := h.1 hb
       refine wpE_skip (by kernel_rfl) ?_
       change WpE _ _ c44_26 _ _ _
       refine Zs c44_27 c44_37 ?_
       refine Zb 1 c44_28 ?_
       refine Zs c44_29 c44_31 ?_
       refine wpE_drawregion (id := 6) (ops := r44_29) (by kernel_rfl) (by kernel_rfl) (by kernel_rfl) ?_
       refine qreg_run P2 2 [(0, [], sv_ t_), (1, [], sv_ l_), (5, [], Value.int .i64 i), (25, [], sv_ t_), (26, [], Value.int .i64 i)] (by kernel_rfl) (by kernel_rfl) ?_
       obtain ⟨hp_14, h⟩ := h
       refine qreg_conv [(0, [], sv_ t_), (1, [], sv_ l_), (5, [], Value.int .i64 i), (25, [], Value.slice (some ⟨(pblk t_.ptr), (poff t_.ptr), none⟩) t_.len t_.cap), (26, [], Value.int .i64 i)] (congrArg (fun pp => ([(0, [], sv_ t_), (1, [], sv_ l_), (5, [], Value.int .i64 i), (25, [], Value.slice pp t_.len t_.cap), (26, [], Value.int .i64 i)] : GEnv)) hp_14) ?_
       obtain ⟨h0, h1, h⟩ := h
       refine qreg_indexS1 (t := 23) (e := 3) (x := (Operand.tmp 25)) (ix := (Operand.tmp 26)) (b := (pblk t_.ptr)) (o := (poff t_.ptr)) (l := t_.len) (c := t_.cap) (k := .i64) (j := i) (ty := 0) (dst := some 27) (by kernel_rfl) (by kernel_rfl) (by kernel_rfl) (by kernel_rfl) (by kernel_rfl) h0 h1 ?_
       refine qreg_run [] 3 [(0, [], sv_ t_), (1, [], sv_ l_), (5, [], Value.int .i64 i), (27, [], Value.pointer (some ⟨(pblk t_.ptr), (poff t_.ptr) + i.toNat, none⟩))] (by kernel_rfl) (by kernel_rfl) ?_
       obtain ⟨v28, hc, h⟩ := h
       refine qreg_load1 (t := 3) (a := (Operand.tmp 27)) (b := (pblk t_.ptr)) (o := ((poff t_.ptr) + i.toNat)) (ty := 3) (dst := some 28) (by kernel_rfl) (by kernel_rfl) (by kernel_rfl) hc ?_
       refine qreg_run P2 6 [(0, [], sv_ t_), (1, [], sv_ l_), (5, [], Value.int .i64 i), (28, [], Value.int .i64 v28), (29, [], sv_ l_), (30, [], Value.int .i64 i)] (by kernel_rfl) (by kernel_rfl) ?_
       obtain ⟨hp_15, h⟩ := h
       refine qreg_conv [(0, [], sv_ t_), (1, [], sv_ l_), (5, [], Value.int .i64 i), (28, [], Value.int .i64 v28), (29, [], Value.slice (some ⟨(pblk l_.ptr), (poff l_.ptr), none⟩) l_.len l_.cap), (30, [], Value.int .i64 i)] (congrArg (fun pp => ([(0, [], sv_ t_), (1, [], sv_ l_), (5, [], Value.int .i64 i), (28, [], Value.int .i64 v28), (29, [], Value.slice pp l_.len l_.cap), (30, [], Value.int .i64 i)] : GEnv)) hp_15) ?_
       obtain ⟨h0, h1, h⟩ := h
       refine qreg_indexS1 (t := 23) (e := 3) (x := (Operand.tmp 29)) (ix := (Operand.tmp 30)) (b := (pblk l_.ptr)) (o := (poff l_.ptr)) (l := l_.len) (c := l_.cap) (k := .i64) (j := i) (ty := 0) (dst := some 31) (by kernel_rfl) (by kernel_rfl) (by kernel_rfl) (by kernel_rfl) (by kernel_rfl) h0 h1 ?_
       refine qreg_run [] 7 [(0, [], sv_ t_), (1, [], sv_ l_), (5, [], Value.int .i64 i), (28, [], Value.int .i64 v28), (31, [], Value.pointer (some ⟨(pblk l_.ptr), (poff l_.ptr) + i.toNat, none⟩))] (by kernel_rfl) (by kernel_rfl) ?_
       obtain ⟨v32, hc, h⟩ := h
       refine qreg_load1 (t := 3) (a := (Operand.tmp 31)) (b := (pblk l_.ptr)) (o := ((poff l_.ptr) + i.toNat)) (ty := 3) (dst := some 32) (by kernel_rfl) (by kernel_rfl) (by kernel_rfl) hc ?_
       refine qreg_run P1 9 [(0, [], sv_ t_), (1, [], sv_ l_), (5, [], Value.int .i64 i), (33, [], Value.bool (v28 != v32))] (by kernel_rfl) (by kernel_rfl) ?_
       refine qreg_end [(0, sv_ t_), (1, sv_ l_), (5, Value.int .i64 i), (33, Value.bool (v28 != v32))] (by kernel_rfl) (by kernel_rfl) (fun w2 hw => ?_)
       replace h := h w2 hw
       clear hw
       change WpE _ _ c44_31 _ _ _
       refine Zc 33 (v28 != v32) c44_32 c44_36 (fun hb => ?_) (fun hb => ?_)
       · replace h := h.1 hb
         refine Zp c44_35 P1 [(4, .bool false)] ?_
         refine wpE_ret (by kernel_rfl) ?_
         repeat (first | refine seqQ_ret ?_ | refine blockQ_ret ?_ | refine loopQ_ret ?_ | refine cutQ_ret ?_)
         exact retS (rs := [(ResultVar.tmp 4)]) (v := Value.bool false) (by kernel_rfl) (⟨by kernel_rfl, trivial⟩) ⟨false, rfl, h⟩
       · replace h := h.2 hb
         refine wpE_skip (by kernel_rfl) ?_
         change WpE _ _ c44_37 _ _ _
         refine Zr r44_37 ?_
         refine Zf P3 [(0, sv_ t_), (1, sv_ l_), (5, .int .i64 (IntKind.i64.wrap (i + 1)))] ?_
         have hb_ := again__h _ _ h
         exact ⟨_, hb_.2, [(0, sv_ t_), (1, sv_ l_), (5, Value.int .i64 (IntKind.i64.wrap (i + 1)))], Sub.mk (by kernel_rfl), (IntKind.i64.wrap (i + 1)), rfl, hb_.1, rfl⟩
     · replace h := h.2 hb
       refine wpE_exit (id := 0) (by kernel_rfl) ?_
       change WpE _ _ c44_39 _ _ _
       refine Zt r44_40 c44_42 ?_
       refine Zn P4 4 [(1, [], sv_ l_), (34, [], sv_ t_), (37, [], .int .i64 (IntKind.i64.wrap (((l_.len : Nat) : Int) + 1)))] ?_
       obtain ⟨h0, h1, h⟩ := h
       refine reg_sliceHi (t := 23) (e := 3) (x := (Operand.tmp 34)) (hi := (Operand.tmp 37)) (p := t_.ptr) (l := t_.len) (c := t_.cap) (sz := 1) (k := .i64) (j := (IntKind.i64.wrap (((l_.len : Nat) : Int) + 1))) (ty := 23) (dst := some 38) (by kernel_rfl) (by kernel_rfl) (by kernel_rfl) (by kernel_rfl) (by kernel_rfl) h0 h1 ?_
       refine Zn P2 7 [(38, [], .slice t_.ptr ((IntKind.i64.wrap (((l_.len : Nat) : Int) + 1)).toNat) t_.cap), (40, [], .int .i64 ((l_.len : Nat) : Int))] ?_
       obtain ⟨hp_17, h⟩ := h
       refine Zv (fun pp => [(38, [], .slice pp ((IntKind.i64.wrap (((l_.len : Nat) : Int) + 1)).toNat) t_.cap), (40, [], .int .i64 ((l_.len : Nat) : Int))]) hp_17 ?_
       obtain ⟨h0, h1, h⟩ := h
       refine Zi 23 3 38 40 (pblk t_.ptr) (poff t_.ptr) ((IntKind.i64.wrap (((l_.len : Nat) : Int) + 1)).toNat) t_.cap ((l_.len : Nat) : Int) 41 0 h0 h1 ?_
       refine Zn [] 8 [(41, [], .pointer (some ⟨(pblk t_.ptr), (poff t_.ptr) + ((l_.len : Nat) : Int).toNat, none⟩))] ?_
       obtain ⟨x, hc, h⟩ := h
       refine Zl 3 41 (pblk t_.ptr) ((poff t_.ptr) + ((l_.len : Nat) : Int).toNat) 3 42 hc ?_
       refine Zf P1 [(6, .int .i64 x)] ?_
       change WpE _ _ c44_42 _ _ _
       refine Zp c44_45 P3 [(4, .bool (x == 7777))] ?_
       refine wpE_ret (by kernel_rfl) ?_
       repeat (first | refine seqQ_ret ?_ | refine blockQ_ret ?_ | refine loopQ_ret ?_ | refine cutQ_ret ?_)
       exact retS (rs := [(ResultVar.tmp 4)]) (v := Value.bool (x == 7777)) (by kernel_rfl) (⟨by kernel_rfl, trivial⟩) ⟨(x == 7777), rfl, h⟩
 · rintro e w' ⟨v, rfl, r0, rfl, h⟩; exact ⟨r0, rfl, h⟩

/-! ### towpath/towpathlaw01.SameInts (function 66) -/
def c66_0 := cb_ Try.f66
def c66_3 := cr_ c66_0
def c66_4 := cl_ c66_3
def c66_7 := cr_ c66_4
def c66_8 := cl_ c66_7
def c66_11 := cr_ c66_8
def c66_12 := cr_ c66_7
def c66_13 := cr_ c66_3
def c66_14 := cl_ c66_13
def c66_17 := cr_ c66_14
def c66_18 := cl_ c66_17
def c66_19 := cl_ c66_18
def c66_20 := cl_ c66_19
def c66_23 := cr_ c66_20
def c66_24 := cl_ c66_23
def c66_25 := cr_ c66_23
def c66_26 := cr_ c66_19
def c66_27 := cl_ c66_26
def c66_28 := cl_ c66_27
def c66_29 := cl_ c66_28
def r66_29 := co_ c66_29
def c66_31 := cr_ c66_28
def c66_32 := cl_ c66_31
def c66_35 := cr_ c66_32
def c66_36 := cr_ c66_31
def c66_37 := cr_ c66_26
def r66_37 := co_ c66_37
def c66_39 := cr_ c66_13
def c66_42 := cr_ c66_39

theorem S_towpathlaw01_SameInts {a_ : Slc} {b_ : Slc} {w : World} {R : Bool → World → Prop} (h : F_towpathlaw01_SameInts a_ b_ R w) : C_towpathlaw01_SameInts a_ b_ w R := by
 unfold F_towpathlaw01_SameInts at h
 unfold C_towpathlaw01_SameInts
 refine Calls.mono (calls_of_wpE (args := [sv_ a_, sv_ b_]) (R := fun v w' => ∃ (r0 : Bool), v = Value.bool r0 ∧ R r0 w') Try.func66 (c := c66_0) (by kernel_rfl) 26 (by kernel_rfl) (by kernel_rfl) [(0, sv_ a_), (1, sv_ b_)] (by kernel_rfl) ?_) ?_
 · refine Zp c66_3 P1 [(0, sv_ a_), (1, sv_ b_)] ?_
   refine Zs c66_4 c66_13 ?_
   refine Zp c66_7 (Pl 5) [(0, sv_ a_), (1, sv_ b_), (10, .bool (((a_.len : Nat) : Int) != ((b_.len : Nat) : Int)))] ?_
   refine Zc 10 (((a_.len : Nat) : Int) != ((b_.len : Nat) : Int)) c66_8 c66_12 (fun hb => ?_) (fun hb => ?_)
   · replace h := h.1 hb
     refine Zp c66_11 P1 [(4, .bool false)] ?_
     refine wpE_ret (by kernel_rfl) ?_
     repeat (first | refine seqQ_ret ?_ | refine blockQ_ret ?_ | refine loopQ_ret ?_ | refine cutQ_ret ?_)
     exact retS (rs := [(ResultVar.tmp 4)]) (v := Value.bool false) (by kernel_rfl) (⟨by kernel_rfl, trivial⟩) ⟨false, rfl, h⟩
   · replace h := h.2 hb
     refine wpE_skip (by kernel_rfl) ?_
     change WpE _ _ c66_13 _ _ _
     refine Zs c66_14 c66_39 ?_
     refine Zp c66_17 P1 [(0, sv_ a_), (1, sv_ b_), (5, .int .i64 0)] ?_
     refine Zb 0 c66_18 ?_
     obtain ⟨I, μ, h0, hr⟩ := h
     refine wpE_loop (x := c66_19) (by kernel_rfl) (fun m l w => ∃ (i : Int), l = [(0, sv_ a_), (1, sv_ b_), (5, Value.int .i64 i)] ∧ I i w ∧ μ i w = m) (l' := [(0, sv_ a_), (1, sv_ b_), (5, Value.int .i64 0)]) (Sub.mk (by kernel_rfl)) ⟨0, rfl, h0, rfl⟩ ?_
     rintro _ _ w1 ⟨i, rfl, hI, rfl⟩
     obtain ⟨again_, again__h, h⟩ : ∃ again_ : Int → World → Prop, (∀ i' w', again_ i' w' → I i' w' ∧ μ i' w' < μ i w1) ∧ F_towpathlaw01_SameInts_L0 a_ b_ R again_ i w1 := ⟨_, fun _ _ h => h, hr i w1 hI⟩
     clear h0 hI
     unfold F_towpathlaw01_SameInts_L0 at h
     refine Zs c66_20 c66_26 ?_
     refine Zp c66_23 P4 [(0, sv_ a_), (1, sv_ b_), (5, .int .i64 i), (14, .bool (decide (i < ((a_.len : Nat) : Int))))] ?_
     refine Zc 14 (decide (i < ((a_.len : Nat) : Int))) c66_24 c66_25 (fun hb => ?_) (fun hb => ?_)
     · replace h := h.1 hb
       refine wpE_skip (by kernel_rfl) ?_
       change WpE _ _ c66_26 _ _ _
       refine Zs c66_27 c66_37 ?_
       refine Zb 1 c66_28 ?_
       refine Zs c66_29 c66_31 ?_
       refine wpE_drawregion (id := 6) (ops := r66_29) (by kernel_rfl) (by kernel_rfl) (by kernel_rfl) ?_
       refine qreg_run P2 2 [(0, [], sv_ a_), (1, [], sv_ b_), (5, [], Value.int .i64 i), (17, [], sv_ a_), (18, [], Value.int .i64 i)] (by kernel_rfl) (by kernel_rfl) ?_
       obtain ⟨hp_14, h⟩ := h
       refine qreg_conv [(0, [], sv_ a_), (1, [], sv_ b_), (5, [], Value.int .i64 i), (17, [], Value.slice (some ⟨(pblk a_.ptr), (poff a_.ptr), none⟩) a_.len a_.cap), (18, [], Value.int .i64 i)] (congrArg (fun pp => ([(0, [], sv_ a_), (1, [], sv_ b_), (5, [], Value.int .i64 i), (17, [], Value.slice pp a_.len a_.cap), (18, [], Value.int .i64 i)] : GEnv)) hp_14) ?_
       obtain ⟨h0, h1, h⟩ := h
       refine qreg_indexS1 (t := 23) (e := 3) (x := (Operand.tmp 17)) (ix := (Operand.tmp 18)) (b := (pblk a_.ptr)) (o := (poff a_.ptr)) (l := a_.len) (c := a_.cap) (k := .i64) (j := i) (ty := 0) (dst := some 19) (by kernel_rfl) (by kernel_rfl) (by kernel_rfl) (by kernel_rfl) (by kernel_rfl) h0 h1 ?_
       refine qreg_run [] 3 [(0, [], sv_ a_), (1, [], sv_ b_), (5, [], Value.int .i64 i), (19, [], Value.pointer (some ⟨(pblk a_.ptr), (poff a_.ptr) + i.toNat, none⟩))] (by kernel_rfl) (by kernel_rfl) ?_
       obtain ⟨v20, hc, h⟩ := h
       refine qreg_load1 (t := 3) (a := (Operand.tmp 19)) (b := (pblk a_.ptr)) (o := ((poff a_.ptr) + i.toNat)) (ty := 3) (dst := some 20) (by kernel_rfl) (by kernel_rfl) (by kernel_rfl) hc ?_
       refine qreg_run P2 6 [(0, [], sv_ a_), (1, [], sv_ b_), (5, [], Value.int .i64 i), (20, [], Value.int .i64 v20), (21, [], sv_ b_), (22, [], Value.int .i64 i)] (by kernel_rfl) (by kernel_rfl) ?_
       obtain ⟨hp_15, h⟩ := h
       refine qreg_conv [(0, [], sv_ a_), (1, [], sv_ b_), (5, [], Value.int .i64 i), (20, [], Value.int .i64 v20), (21, [], Value.slice (some ⟨(pblk b_.ptr), (poff b_.ptr), none⟩) b_.len b_.cap), (22, [], Value.int .i64 i)] (congrArg (fun pp => ([(0, [], sv_ a_), (1, [], sv_ b_), (5, [], Value.int .i64 i), (20, [], Value.int .i64 v20), (21, [], Value.slice pp b_.len b_.cap), (22, [], Value.int .i64 i)] : GEnv)) hp_15) ?_
       obtain ⟨h0, h1, h⟩ := h
       refine qreg_indexS1 (t := 23) (e := 3) (x := (Operand.tmp 21)) (ix := (Operand.tmp 22)) (b := (pblk b_.ptr)) (o := (poff b_.ptr)) (l := b_.len) (c := b_.cap) (k := .i64) (j := i) (ty := 0) (dst := some 23) (by kernel_rfl) (by kernel_rfl) (by kernel_rfl) (by kernel_rfl) (by kernel_rfl) h0 h1 ?_
       refine qreg_run [] 7 [(0, [], sv_ a_), (1, [], sv_ b_), (5, [], Value.int .i64 i), (20, [], Value.int .i64 v20), (23, [], Value.pointer (some ⟨(pblk b_.ptr), (poff b_.ptr) + i.toNat, none⟩))] (by kernel_rfl) (by kernel_rfl) ?_
       obtain ⟨v24, hc, h⟩ := h
       refine qreg_load1 (t := 3) (a := (Operand.tmp 23)) (b := (pblk b_.ptr)) (o := ((poff b_.ptr) + i.toNat)) (ty := 3) (dst := some 24) (by kernel_rfl) (by kernel_rfl) (by kernel_rfl) hc ?_
       refine qreg_run P1 9 [(0, [], sv_ a_), (1, [], sv_ b_), (5, [], Value.int .i64 i), (25, [], Value.bool (v20 != v24))] (by kernel_rfl) (by kernel_rfl) ?_
       refine qreg_end [(0, sv_ a_), (1, sv_ b_), (5, Value.int .i64 i), (25, Value.bool (v20 != v24))] (by kernel_rfl) (by kernel_rfl) (fun w2 hw => ?_)
       replace h := h w2 hw
       clear hw
       change WpE _ _ c66_31 _ _ _
       refine Zc 25 (v20 != v24) c66_32 c66_36 (fun hb => ?_) (fun hb => ?_)
       · replace h := h.1 hb
         refine Zp c66_35 P1 [(4, .bool false)] ?_
         refine wpE_ret (by kernel_rfl) ?_
         repeat (first | refine seqQ_ret ?_ | refine blockQ_ret ?_ | refine loopQ_ret ?_ | refine cutQ_ret ?_)
         exact retS (rs := [(ResultVar.tmp 4)]) (v := Value.bool false) (by kernel_rfl) (⟨by kernel_rfl, trivial⟩) ⟨false, rfl, h⟩
       · replace h := h.2 hb
         refine wpE_skip (by kernel_rfl) ?_
         change WpE _ _ c66_37 _ _ _
         refine Zr r66_37 ?_
         refine Zf P3 [(0, sv_ a_), (1, sv_ b_), (5, .int .i64 (IntKind.i64.wrap (i + 1)))] ?_
         have hb_ := again__h _ _ h
         exact ⟨_, hb_.2, [(0, sv_ a_), (1, sv_ b_), (5, Value.int .i64 (IntKind.i64.wrap (i + 1)))], Sub.mk (by kernel_rfl), (IntKind.i64.wrap (i + 1)), rfl, hb_.1, rfl⟩
     · replace h := h.2 hb
       refine wpE_exit (id := 0) (by kernel_rfl) ?_
       change WpE _ _ c66_39 _ _ _
       refine Zp c66_42 P1 [(4, .bool true)] ?_
       refine wpE_ret (by kernel_rfl) ?_
       repeat (first | refine seqQ_ret ?_ | refine blockQ_ret ?_ | refine loopQ_ret ?_ | refine cutQ_ret ?_)
       exact retS (rs := [(ResultVar.tmp 4)]) (v := Value.bool true) (by kernel_rfl) (⟨by kernel_rfl, trivial⟩) ⟨true, rfl, h⟩
 · rintro e w' ⟨v, rfl, r0, rfl, h⟩; exact ⟨r0, rfl, h⟩

/-! ### towpath/towpathlaw01.TwinResp (function 69) -/
def c69_0 := cb_ Try.f69
def c69_1 := cl_ c69_0
def r69_1 := co_ c69_1
def c69_3 := cr_ c69_0
def c69_4 := cl_ c69_3
def r69_4 := co_ c69_4
def c69_6 := cr_ c69_3
def o_towpathlaw01_TwinResp_4 : List Nat := [0, 1, 2, 3, 4, 5, 7, 8, 10, 11, 6, 9, 12, 13]

theorem S_towpathlaw01_TwinResp {x : T_api_Resp} {w : World} {R : T_api_Resp → World → Prop} (h : F_towpathlaw01_TwinResp x R w) : C_towpathlaw01_TwinResp x w R := by
 unfold F_towpathlaw01_TwinResp at h
 unfold C_towpathlaw01_TwinResp
 refine Calls.mono (calls_of_wpE (args := [Value.agg #[Value.int .i64 x.To, Value.bool x.OK, sv_ x.Entries, sv_ x.Held, Value.int .i64 x.Count]]) (R := fun v w' => ∃ (r0 : T_api_Resp), v = Value.agg #[Value.int .i64 r0.To, Value.bool r0.OK, sv_ r0.Entries, sv_ r0.Held, Value.int .i64 r0.Count] ∧ R r0 w') Try.func69 (c := c69_0) (by kernel_rfl) 16 (by kernel_rfl) (by kernel_rfl) [(0, Value.agg #[Value.int .i64 x.To, Value.bool x.OK, sv_ x.Entries, sv_ x.Held, Value.int .i64 x.Count])] (by kernel_rfl) ?_) ?_
 · refine Zt r69_1 c69_3 ?_
   refine Zn [] 0 [(0, [], .agg #[.int .i64 x.To, .bool x.OK, sv_ x.Entries, sv_ x.Held, .int .i64 x.Count])] ?_
   refine Zw (some 1) (fun bb => pv_ bb) (Obj.cells ([.int .i64 x.To, .bool x.OK, sv_ x.Entries, sv_ x.Held, .int .i64 x.Count]).toArray ty_api_Resp (0, 0)) (fun b_ w1 hb hw => ?_)
   replace h := h b_ w1 hb hw
   clear hb hw
   refine Zn [] 1 [(1, [], pv_ b_)] ?_
   refine Zw (some 2) (fun bb => pv_ bb) (Obj.cells ([.int .i64 0, .bool false, .slice none 0 0, .slice none 0 0, .int .i64 0]).toArray ty_api_Resp (0, 0)) (fun b_1 w2 hb hw => ?_)
   replace h := h b_1 w2 hb hw
   clear hb hw
   refine Ze [(1, pv_ b_), (2, pv_ b_1)] ?_
   change WpE _ _ c69_3 _ _ _
   refine Zs c69_4 c69_6 ?_
   refine wpE_mixregion (id := 1) (ops := r69_4) o_towpathlaw01_TwinResp_4 (by kernel_rfl) (by kernel_rfl) (by kernel_rfl) (by kernel_rfl) (fun w3 hw => ?_)
   replace h := h w3 hw
   clear hw
   refine mreg_run P1 1 [(1, [], pv_ b_), (2, [], pv_ b_1), (3, [], pv_ b_)] (by kernel_rfl) (by kernel_rfl) ?_
   obtain ⟨v4, hc, h⟩ := h
   refine mreg_load1 (i := 1) (by kernel_rfl) (t := 3) (a := (Operand.tmp 3)) (b := b_) (o := 0) (ty := 3) (dst := some 4) (by kernel_rfl) (by kernel_rfl) (by kernel_rfl) hc ?_
   refine mreg_run P1 3 [(1, [], pv_ b_), (2, [], pv_ b_1), (4, [], Value.int .i64 v4), (5, [], Value.pointer (some ⟨b_, 1, none⟩))] (by kernel_rfl) (by kernel_rfl) ?_
   obtain ⟨v6, hc, h⟩ := h
   refine mreg_load1 (i := 3) (by kernel_rfl) (t := 4) (a := (Operand.tmp 5)) (b := b_) (o := 1) (ty := 4) (dst := some 6) (by kernel_rfl) (by kernel_rfl) (by kernel_rfl) hc ?_
   refine mreg_run P1 5 [(1, [], pv_ b_), (2, [], pv_ b_1), (4, [], Value.int .i64 v4), (6, [], Value.bool v6), (7, [], Value.pointer (some ⟨b_, 2, none⟩))] (by kernel_rfl) (by kernel_rfl) ?_
   obtain ⟨v8, hc, h⟩ := h
   refine mreg_load1 (i := 5) (by kernel_rfl) (t := 92) (a := (Operand.tmp 7)) (b := b_) (o := 2) (ty := 92) (dst := some 8) (by kernel_rfl) (by kernel_rfl) (by kernel_rfl) hc ?_
   refine mreg_run P1 7 [(1, [], pv_ b_), (2, [], pv_ b_1), (4, [], Value.int .i64 v4), (6, [], Value.bool v6), (8, [], sv_ v8), (10, [], Value.pointer (some ⟨b_, 3, none⟩))] (by kernel_rfl) (by kernel_rfl) ?_
   obtain ⟨v11, hc, h⟩ := h
   refine mreg_load1 (i := 8) (by kernel_rfl) (t := 93) (a := (Operand.tmp 10)) (b := b_) (o := 3) (ty := 93) (dst := some 11) (by kernel_rfl) (by kernel_rfl) (by kernel_rfl) hc ?_
   refine mreg_run P1 9 [(2, [], pv_ b_1), (4, [], Value.int .i64 v4), (6, [], Value.bool v6), (8, [], sv_ v8), (11, [], sv_ v11), (13, [], Value.pointer (some ⟨b_, 4, none⟩))] (by kernel_rfl) (by kernel_rfl) ?_
   obtain ⟨v14, hc, h⟩ := h
   refine mreg_load1 (i := 11) (by kernel_rfl) (t := 3) (a := (Operand.tmp 13)) (b := b_) (o := 4) (ty := 3) (dst := some 14) (by kernel_rfl) (by kernel_rfl) (by kernel_rfl) hc ?_
   refine mreg_run [] 10 [(2, [], pv_ b_1), (4, [], Value.int .i64 v4), (6, [], Value.bool v6), (8, [], sv_ v8), (11, [], sv_ v11), (14, [], Value.int .i64 v14)] (by kernel_rfl) (by kernel_rfl) ?_
   refine mreg_enter (op := (Op.call (Call.mk (Callee.value (Operand.func 100)) #[(Operand.tmp 8)] #[92]))) (ty := 92) (dst := some 9) 6 [5, 4] [(11, fun w' => w'.cell? ⟨b_, 4, none⟩ = some (Value.int .i64 v14)), (8, fun w' => w'.cell? ⟨b_, 3, none⟩ = some (sv_ v11)), (3, fun w' => w'.cell? ⟨b_, 1, none⟩ = some (Value.bool v6)), (1, fun w' => w'.cell? ⟨b_, 0, none⟩ = some (Value.int .i64 v4))] 100 #[sv_ v8] (by kernel_rfl) (by kernel_rfl) (by kernel_rfl) (by kernel_rfl) (by kernel_rfl) (fun ww => by kernel_rfl) (Calls.mono h ?_)
   rintro _ w4 ⟨v9, rfl, h⟩
   obtain ⟨hk0, hk1, hk2, hk3, h⟩ := h
   refine ⟨_, rfl, ⟨hk0, hk1, hk2, hk3, trivial⟩, ?_⟩
   refine mreg_run [] 11 [(2, [], pv_ b_1), (4, [], Value.int .i64 v4), (6, [], Value.bool v6), (9, [], sv_ v9), (11, [], sv_ v11), (14, [], Value.int .i64 v14)] (by kernel_rfl) (by kernel_rfl) ?_
   refine mreg_enter (op := (Op.call (Call.mk (Callee.value (Operand.func 101)) #[(Operand.tmp 11)] #[93]))) (ty := 93) (dst := some 12) 9 [6, 8, 5, 7, 4] [(11, fun w' => w'.cell? ⟨b_, 4, none⟩ = some (Value.int .i64 v14)), (3, fun w' => w'.cell? ⟨b_, 1, none⟩ = some (Value.bool v6)), (1, fun w' => w'.cell? ⟨b_, 0, none⟩ = some (Value.int .i64 v4))] 101 #[sv_ v11] (by kernel_rfl) (by kernel_rfl) (by kernel_rfl) (by kernel_rfl) (by kernel_rfl) (fun ww => by kernel_rfl) (Calls.mono h ?_)
   rintro _ w5 ⟨v12, rfl, h⟩
   obtain ⟨hk0, hk1, hk2, h⟩ := h
   refine ⟨_, rfl, ⟨hk0, hk1, hk2, trivial⟩, ?_⟩
   refine mreg_run P1 13 [(2, [], pv_ b_1), (15, [], Value.agg #[Value.int .i64 v4, Value.bool v6, sv_ v9, sv_ v12, Value.int .i64 v14])] (by kernel_rfl) (by kernel_rfl) ?_
   obtain ⟨hc, h⟩ := h
   refine mreg_store (t := 95) (a := (Operand.tmp 2)) (x := (Operand.tmp 15)) (b := b_1) (o := 0) (k := 5) (ty := 0) (dst := none) 13 [0, 1, 2, 3, 4, 5, 6, 7, 8, 9, 10, 11, 12] [] [Value.int .i64 v4, Value.bool v6, sv_ v9, sv_ v12, Value.int .i64 v14] (by kernel_rfl) (by kernel_rfl) (by kernel_rfl) (by kernel_rfl) (by kernel_rfl) (by kernel_rfl) (by kernel_rfl) (by kernel_rfl) (by kernel_rfl) (by kernel_rfl) hc (fun w6 hw => ?_)
   replace h := h w6 hw
   clear hw
   refine ⟨trivial, ?_⟩
   refine mreg_end [(2, pv_ b_1)] (by kernel_rfl) (by kernel_rfl) (by kernel_rfl) ?_
   change WpE _ _ c69_6 _ _ _
   refine wpE_ret (by kernel_rfl) ?_
   obtain ⟨res, hc_res, h⟩ := h
   repeat (first | refine seqQ_ret ?_ | refine blockQ_ret ?_ | refine loopQ_ret ?_ | refine cutQ_ret ?_)
   exact retS (rs := [(ResultVar.cell 2 95)]) (v := Value.agg #[Value.int .i64 res.To, Value.bool res.OK, sv_ res.Entries, sv_ res.Held, Value.int .i64 res.Count]) (by kernel_rfl) (⟨b_1, 0, [Value.int .i64 res.To, Value.bool res.OK, sv_ res.Entries, sv_ res.Held, Value.int .i64 res.Count], by kernel_rfl, hc_res, (sizeP_of (k := 5) (by kernel_rfl) (by kernel_rfl)), .inl ⟨by kernel_rfl, rfl⟩, trivial⟩) ⟨res, rfl, h⟩
 · rintro e w' ⟨v, rfl, r0, rfl, h⟩; exact ⟨r0, rfl, h⟩

/-! ### towpath/towpathlaw01.LeftResp (function 71) -/
def c71_0 := cb_ Try.f71
def c71_1 := cl_ c71_0
def r71_1 := co_ c71_1
def c71_3 := cr_ c71_0
def c71_4 := cl_ c71_3
def r71_4 := co_ c71_4
def c71_6 := cr_ c71_3

theorem S_towpathlaw01_LeftResp {t_ : T_api_Resp} {x : T_api_Resp} {w : World} {R : Bool → World → Prop} (h : F_towpathlaw01_LeftResp t_ x R w) : C_towpathlaw01_LeftResp t_ x w R := by
 unfold F_towpathlaw01_LeftResp at h
 unfold C_towpathlaw01_LeftResp
 refine Calls.mono (calls_of_wpE (args := [Value.agg #[Value.int .i64 t_.To, Value.bool t_.OK, sv_ t_.Entries, sv_ t_.Held, Value.int .i64 t_.Count], Value.agg #[Value.int .i64 x.To, Value.bool x.OK, sv_ x.Entries, sv_ x.Held, Value.int .i64 x.Count]]) (R := fun v w' => ∃ (r0 : Bool), v = Value.bool r0 ∧ R r0 w') Try.func71 (c := c71_0) (by kernel_rfl) 38 (by kernel_rfl) (by kernel_rfl) [(0, Value.agg #[Value.int .i64 t_.To, Value.bool t_.OK, sv_ t_.Entries, sv_ t_.Held, Value.int .i64 t_.Count]), (1, Value.agg #[Value.int .i64 x.To, Value.bool x.OK, sv_ x.Entries, sv_ x.Held, Value.int .i64 x.Count])] (by kernel_rfl) ?_) ?_
 · refine Zt r71_1 c71_3 ?_
   refine Zn [] 0 [(0, [], .agg #[.int .i64 t_.To, .bool t_.OK, sv_ t_.Entries, sv_ t_.Held, .int .i64 t_.Count]), (1, [], .agg #[.int .i64 x.To, .bool x.OK, sv_ x.Entries, sv_ x.Held, .int .i64 x.Count])] ?_
   refine Zw (some 2) (fun bb => pv_ bb) (Obj.cells ([.int .i64 t_.To, .bool t_.OK, sv_ t_.Entries, sv_ t_.Held, .int .i64 t_.Count]).toArray ty_api_Resp (0, 0)) (fun b_ w1 hb hw => ?_)
   replace h := h b_ w1 hb hw
   clear hb hw
   refine Zn [] 1 [(1, [], .agg #[.int .i64 x.To, .bool x.OK, sv_ x.Entries, sv_ x.Held, .int .i64 x.Count]), (2, [], pv_ b_)] ?_
   refine Zw (some 3) (fun bb => pv_ bb) (Obj.cells ([.int .i64 x.To, .bool x.OK, sv_ x.Entries, sv_ x.Held, .int .i64 x.Count]).toArray ty_api_Resp (0, 0)) (fun b_1 w2 hb hw => ?_)
   replace h := h b_1 w2 hb hw
   clear hb hw
   refine Zf P1 [(2, pv_ b_), (3, pv_ b_1)] ?_
   change WpE _ _ c71_3 _ _ _
   refine Zt r71_4 c71_6 ?_
   refine Zn P1 1 [(2, [], pv_ b_), (3, [], pv_ b_1), (5, [], pv_ b_)] ?_
   obtain ⟨v6, hc, h⟩ := h
   refine Zl 3 5 b_ 0 3 6 hc ?_
   refine Zn P1 3 [(2, [], pv_ b_), (3, [], pv_ b_1), (6, [], .int .i64 v6), (7, [], pv_ b_1)] ?_
   obtain ⟨v8, hc, h⟩ := h
   refine Zl 3 7 b_1 0 3 8 hc ?_
   refine Zn P3 7 [(2, [], pv_ b_), (3, [], pv_ b_1), (10, [], .bool (v6 == v8)), (11, [(10, true)], .pointer (some ⟨b_, 1, none⟩))] ?_
   refine reg_split 10 (v6 == v8) (by kernel_rfl) (fun hb => ?_) (fun hb => ?_)
   · replace h := h.1 hb
     refine Zn [] 7 [(2, [], pv_ b_), (3, [], pv_ b_1), (10, [], .bool true), (11, [], .pointer (some ⟨b_, 1, none⟩))] ?_
     refine Zn [] 7 [(2, [], pv_ b_), (3, [], pv_ b_1), (10, [], .bool true), (11, [], .pointer (some ⟨b_, 1, none⟩))] ?_
     obtain ⟨v12, hc, h⟩ := h
     refine Zl 4 11 b_ 1 4 12 hc ?_
     refine Zn [.sure] 9 [(2, [], pv_ b_), (3, [], pv_ b_1), (10, [], .bool true), (12, [], .bool v12), (13, [], .pointer (some ⟨b_1, 1, none⟩))] ?_
     obtain ⟨v14, hc, h⟩ := h
     refine Zl 4 13 b_1 1 4 14 hc ?_
     refine Zn [.sure, .plain, .plain, .plain] 14 [(2, [], pv_ b_), (3, [], pv_ b_1), (17, [], .bool (v12 == v14)), (18, [(17, true)], .pointer (some ⟨b_, 2, none⟩))] ?_
     refine reg_split 17 (v12 == v14) (by kernel_rfl) (fun hb => ?_) (fun hb => ?_)
     · replace h := h.1 hb
       refine Zn [] 14 [(2, [], pv_ b_), (3, [], pv_ b_1), (17, [], .bool true), (18, [], .pointer (some ⟨b_, 2, none⟩))] ?_
       refine Zn [] 14 [(2, [], pv_ b_), (3, [], pv_ b_1), (17, [], .bool true), (18, [], .pointer (some ⟨b_, 2, none⟩))] ?_
       obtain ⟨v19, hc, h⟩ := h
       refine Zl 92 18 b_ 2 92 19 hc ?_
       refine Zn [.sure] 16 [(2, [], pv_ b_), (3, [], pv_ b_1), (17, [], .bool true), (19, [], sv_ v19), (20, [], .pointer (some ⟨b_1, 2, none⟩))] ?_
       obtain ⟨v21, hc, h⟩ := h
       refine Zl 92 20 b_1 2 92 21 hc ?_
       refine Zn [] 17 [(2, [], pv_ b_), (3, [], pv_ b_1), (17, [], .bool true), (19, [], sv_ v19), (21, [], sv_ v21)] ?_
       refine Zm 102 #[sv_ v19, sv_ v21] (some 22) (Calls.mono h ?_)
       rintro _ w3 ⟨v22, rfl, h⟩
       refine ⟨_, rfl, ?_⟩
       refine Zn P3 21 [(2, [], pv_ b_), (3, [], pv_ b_1), (24, [], .bool v22), (25, [(24, true)], .pointer (some ⟨b_, 3, none⟩))] ?_
       refine reg_split 24 v22 (by kernel_rfl) (fun hb => ?_) (fun hb => ?_)
       · replace h := h.1 hb
         refine Zn [] 21 [(2, [], pv_ b_), (3, [], pv_ b_1), (24, [], .bool true), (25, [], .pointer (some ⟨b_, 3, none⟩))] ?_
         refine Zn [] 21 [(2, [], pv_ b_), (3, [], pv_ b_1), (24, [], .bool true), (25, [], .pointer (some ⟨b_, 3, none⟩))] ?_
         obtain ⟨v26, hc, h⟩ := h
         refine Zl 93 25 b_ 3 93 26 hc ?_
         refine Zn [.sure] 23 [(2, [], pv_ b_), (3, [], pv_ b_1), (24, [], .bool true), (26, [], sv_ v26), (27, [], .pointer (some ⟨b_1, 3, none⟩))] ?_
         obtain ⟨v28, hc, h⟩ := h
         refine Zl 93 27 b_1 3 93 28 hc ?_
         refine Zn [] 24 [(2, [], pv_ b_), (3, [], pv_ b_1), (24, [], .bool true), (26, [], sv_ v26), (28, [], sv_ v28)] ?_
         refine Zm 103 #[sv_ v26, sv_ v28] (some 29) (Calls.mono h ?_)
         rintro _ w4 ⟨v29, rfl, h⟩
         refine ⟨_, rfl, ?_⟩
         refine Zn P3 28 [(3, [], pv_ b_1), (31, [], .bool v29), (32, [(31, true)], .pointer (some ⟨b_, 4, none⟩))] ?_
         refine reg_split 31 v29 (by kernel_rfl) (fun hb => ?_) (fun hb => ?_)
         · replace h := h.1 hb
           refine Zn [] 28 [(3, [], pv_ b_1), (31, [], .bool true), (32, [], .pointer (some ⟨b_, 4, none⟩))] ?_
           refine Zn [] 28 [(3, [], pv_ b_1), (31, [], .bool true), (32, [], .pointer (some ⟨b_, 4, none⟩))] ?_
           obtain ⟨v33, hc, h⟩ := h
           refine Zl 3 32 b_ 4 3 33 hc ?_
           refine Zn [.sure] 30 [(31, [], .bool true), (33, [], .int .i64 v33), (34, [], .pointer (some ⟨b_1, 4, none⟩))] ?_
           obtain ⟨v35, hc, h⟩ := h
           refine Zl 3 34 b_1 4 3 35 hc ?_
           refine Zf [.sure, .plain, .plain] [(4, .bool (v33 == v35))] ?_
           change WpE _ _ c71_6 _ _ _
           refine wpE_ret (by kernel_rfl) ?_
           repeat (first | refine seqQ_ret ?_ | refine blockQ_ret ?_ | refine loopQ_ret ?_ | refine cutQ_ret ?_)
           exact retS (rs := [(ResultVar.tmp 4)]) (v := Value.bool (v33 == v35)) (by kernel_rfl) (⟨by kernel_rfl, trivial⟩) ⟨(v33 == v35), rfl, h⟩
         · replace h := h.2 hb
           refine Zn [] 28 [(3, [], pv_ b_1), (31, [], .bool false), (32, [], undef)] ?_
           refine Zf [.skip, .skip, .skip, .skip, .plain, .plain] [(4, .bool false)] ?_
           change WpE _ _ c71_6 _ _ _
           refine wpE_ret (by kernel_rfl) ?_
           repeat (first | refine seqQ_ret ?_ | refine blockQ_ret ?_ | refine loopQ_ret ?_ | refine cutQ_ret ?_)
           exact retS (rs := [(ResultVar.tmp 4)]) (v := Value.bool false) (by kernel_rfl) (⟨by kernel_rfl, trivial⟩) ⟨false, rfl, h⟩
       · replace h := h.2 hb
         refine Zn [] 21 [(2, [], pv_ b_), (3, [], pv_ b_1), (24, [], .bool false), (25, [], undef)] ?_
         refine Zf [.skip, .skip, .skip, .skip, .plain, .plain, .skip, .skip, .skip, .skip, .skip, .plain, .plain] [(4, .bool false)] ?_
         change WpE _ _ c71_6 _ _ _
         refine wpE_ret (by kernel_rfl) ?_
         repeat (first | refine seqQ_ret ?_ | refine blockQ_ret ?_ | refine loopQ_ret ?_ | refine cutQ_ret ?_)
         exact retS (rs := [(ResultVar.tmp 4)]) (v := Value.bool false) (by kernel_rfl) (⟨by kernel_rfl, trivial⟩) ⟨false, rfl, h⟩
     · replace h := h.2 hb
       refine Zn [] 14 [(2, [], pv_ b_), (3, [], pv_ b_1), (17, [], .bool false), (18, [], undef)] ?_
       refine Zf [.skip, .skip, .skip, .skip, .plain, .plain, .skip, .skip, .skip, .skip, .skip, .plain, .plain, .skip, .skip, .skip, .skip, .skip, .plain, .plain] [(4, .bool false)] ?_
       change WpE _ _ c71_6 _ _ _
       refine wpE_ret (by kernel_rfl) ?_
       repeat (first | refine seqQ_ret ?_ | refine blockQ_ret ?_ | refine loopQ_ret ?_ | refine cutQ_ret ?_)
       exact retS (rs := [(ResultVar.tmp 4)]) (v := Value.bool false) (by kernel_rfl) (⟨by kernel_rfl, trivial⟩) ⟨false, rfl, h⟩
   · replace h := h.2 hb
     refine Zn [] 7 [(2, [], pv_ b_), (3, [], pv_ b_1), (10, [], .bool false), (11, [], undef)] ?_
     refine Zf [.skip, .skip, .skip, .skip, .plain, .plain, .skip, .skip, .skip, .skip, .skip, .plain, .plain, .skip, .skip, .skip, .skip, .skip, .plain, .plain, .skip, .skip, .skip, .skip, .skip, .plain, .plain] [(4, .bool false)] ?_
     change WpE _ _ c71_6 _ _ _
     refine wpE_ret (by kernel_rfl) ?_
     repeat (first | refine seqQ_ret ?_ | refine blockQ_ret ?_ | refine loopQ_ret ?_ | refine cutQ_ret ?_)
     exact retS (rs := [(ResultVar.tmp 4)]) (v := Value.bool false) (by kernel_rfl) (⟨by kernel_rfl, trivial⟩) ⟨false, rfl, h⟩
 · rintro e w' ⟨v, rfl, r0, rfl, h⟩; exact ⟨r0, rfl, h⟩

/-! ### towpath/towpathlaw01.SameAnswer (function 78) -/
def c78_0 := cb_ Try.f78
def c78_1 := cl_ c78_0
def r78_1 := co_ c78_1
def c78_3 := cr_ c78_0
def c78_4 := cl_ c78_3
def r78_4 := co_ c78_4
def c78_6 := cr_ c78_3

theorem S_towpathlaw01_SameAnswer {a_ : T_api_Answer} {b_ : T_api_Answer} {w : World} {R : Bool → World → Prop} (h : F_towpathlaw01_SameAnswer a_ b_ R w) : C_towpathlaw01_SameAnswer a_ b_ w R := by
 unfold F_towpathlaw01_SameAnswer at h
 unfold C_towpathlaw01_SameAnswer
 refine Calls.mono (calls_of_wpE (args := [Value.agg #[Value.int .i64 a_.Code, Value.int .i64 a_.Mark, Value.bool a_.OK, sv_ a_.Entries, Value.int .i64 a_.Count], Value.agg #[Value.int .i64 b_.Code, Value.int .i64 b_.Mark, Value.bool b_.OK, sv_ b_.Entries, Value.int .i64 b_.Count]]) (R := fun v w' => ∃ (r0 : Bool), v = Value.bool r0 ∧ R r0 w') Try.func78 (c := c78_0) (by kernel_rfl) 38 (by kernel_rfl) (by kernel_rfl) [(0, Value.agg #[Value.int .i64 a_.Code, Value.int .i64 a_.Mark, Value.bool a_.OK, sv_ a_.Entries, Value.int .i64 a_.Count]), (1, Value.agg #[Value.int .i64 b_.Code, Value.int .i64 b_.Mark, Value.bool b_.OK, sv_ b_.Entries, Value.int .i64 b_.Count])] (by kernel_rfl) ?_) ?_
 · refine Zt r78_1 c78_3 ?_
   refine Zn [] 0 [(0, [], .agg #[.int .i64 a_.Code, .int .i64 a_.Mark, .bool a_.OK, sv_ a_.Entries, .int .i64 a_.Count]), (1, [], .agg #[.int .i64 b_.Code, .int .i64 b_.Mark, .bool b_.OK, sv_ b_.Entries, .int .i64 b_.Count])] ?_
   refine Zw (some 2) (fun bb => pv_ bb) (Obj.cells ([.int .i64 a_.Code, .int .i64 a_.Mark, .bool a_.OK, sv_ a_.Entries, .int .i64 a_.Count]).toArray ty_api_Answer (0, 0)) (fun b_1 w1 hb hw => ?_)
   replace h := h b_1 w1 hb hw
   clear hb hw
   refine Zn [] 1 [(1, [], .agg #[.int .i64 b_.Code, .int .i64 b_.Mark, .bool b_.OK, sv_ b_.Entries, .int .i64 b_.Count]), (2, [], pv_ b_1)] ?_
   refine Zw (some 3) (fun bb => pv_ bb) (Obj.cells ([.int .i64 b_.Code, .int .i64 b_.Mark, .bool b_.OK, sv_ b_.Entries, .int .i64 b_.Count]).toArray ty_api_Answer (0, 0)) (fun b_2 w2 hb hw => ?_)
   replace h := h b_2 w2 hb hw
   clear hb hw
   refine Zf P1 [(2, pv_ b_1), (3, pv_ b_2)] ?_
   change WpE _ _ c78_3 _ _ _
   refine Zt r78_4 c78_6 ?_
   refine Zn P1 1 [(2, [], pv_ b_1), (3, [], pv_ b_2), (5, [], pv_ b_1)] ?_
   obtain ⟨v6, hc, h⟩ := h
   refine Zl 32 5 b_1 0 32 6 hc ?_
   refine Zn P1 3 [(2, [], pv_ b_1), (3, [], pv_ b_2), (6, [], .int .i64 v6), (7, [], pv_ b_2)] ?_
   obtain ⟨v8, hc, h⟩ := h
   refine Zl 32 7 b_2 0 32 8 hc ?_
   refine Zn P3 7 [(2, [], pv_ b_1), (3, [], pv_ b_2), (10, [], .bool (v6 == v8)), (11, [(10, true)], .pointer (some ⟨b_1, 1, none⟩))] ?_
   refine reg_split 10 (v6 == v8) (by kernel_rfl) (fun hb => ?_) (fun hb => ?_)
   · replace h := h.1 hb
     refine Zn [] 7 [(2, [], pv_ b_1), (3, [], pv_ b_2), (10, [], .bool true), (11, [], .pointer (some ⟨b_1, 1, none⟩))] ?_
     refine Zn [] 7 [(2, [], pv_ b_1), (3, [], pv_ b_2), (10, [], .bool true), (11, [], .pointer (some ⟨b_1, 1, none⟩))] ?_
     obtain ⟨v12, hc, h⟩ := h
     refine Zl 3 11 b_1 1 3 12 hc ?_
     refine Zn [.sure] 9 [(2, [], pv_ b_1), (3, [], pv_ b_2), (10, [], .bool true), (12, [], .int .i64 v12), (13, [], .pointer (some ⟨b_2, 1, none⟩))] ?_
     obtain ⟨v14, hc, h⟩ := h
     refine Zl 3 13 b_2 1 3 14 hc ?_
     refine Zn [.sure, .plain, .plain, .plain] 14 [(2, [], pv_ b_1), (3, [], pv_ b_2), (17, [], .bool (v12 == v14)), (18, [(17, true)], .pointer (some ⟨b_1, 2, none⟩))] ?_
     refine reg_split 17 (v12 == v14) (by kernel_rfl) (fun hb => ?_) (fun hb => ?_)
     · replace h := h.1 hb
       refine Zn [] 14 [(2, [], pv_ b_1), (3, [], pv_ b_2), (17, [], .bool true), (18, [], .pointer (some ⟨b_1, 2, none⟩))] ?_
       refine Zn [] 14 [(2, [], pv_ b_1), (3, [], pv_ b_2), (17, [], .bool true), (18, [], .pointer (some ⟨b_1, 2, none⟩))] ?_
       obtain ⟨v19, hc, h⟩ := h
       refine Zl 4 18 b_1 2 4 19 hc ?_
       refine Zn [.sure] 16 [(2, [], pv_ b_1), (3, [], pv_ b_2), (17, [], .bool true), (19, [], .bool v19), (20, [], .pointer (some ⟨b_2, 2, none⟩))] ?_
       obtain ⟨v21, hc, h⟩ := h
       refine Zl 4 20 b_2 2 4 21 hc ?_
       refine Zn [.sure, .plain, .plain, .plain] 21 [(2, [], pv_ b_1), (3, [], pv_ b_2), (24, [], .bool (v19 == v21)), (25, [(24, true)], .pointer (some ⟨b_1, 3, none⟩))] ?_
       refine reg_split 24 (v19 == v21) (by kernel_rfl) (fun hb => ?_) (fun hb => ?_)
       · replace h := h.1 hb
         refine Zn [] 21 [(2, [], pv_ b_1), (3, [], pv_ b_2), (24, [], .bool true), (25, [], .pointer (some ⟨b_1, 3, none⟩))] ?_
         refine Zn [] 21 [(2, [], pv_ b_1), (3, [], pv_ b_2), (24, [], .bool true), (25, [], .pointer (some ⟨b_1, 3, none⟩))] ?_
         obtain ⟨v26, hc, h⟩ := h
         refine Zl 92 25 b_1 3 92 26 hc ?_
         refine Zn [.sure] 23 [(2, [], pv_ b_1), (3, [], pv_ b_2), (24, [], .bool true), (26, [], sv_ v26), (27, [], .pointer (some ⟨b_2, 3, none⟩))] ?_
         obtain ⟨v28, hc, h⟩ := h
         refine Zl 92 27 b_2 3 92 28 hc ?_
         refine Zn [] 24 [(2, [], pv_ b_1), (3, [], pv_ b_2), (24, [], .bool true), (26, [], sv_ v26), (28, [], sv_ v28)] ?_
         refine Zm 106 #[sv_ v26, sv_ v28] (some 29) (Calls.mono h ?_)
         rintro _ w3 ⟨v29, rfl, h⟩
         refine ⟨_, rfl, ?_⟩
         refine Zn P3 28 [(3, [], pv_ b_2), (31, [], .bool v29), (32, [(31, true)], .pointer (some ⟨b_1, 4, none⟩))] ?_
         refine reg_split 31 v29 (by kernel_rfl) (fun hb => ?_) (fun hb => ?_)
         · replace h := h.1 hb
           refine Zn [] 28 [(3, [], pv_ b_2), (31, [], .bool true), (32, [], .pointer (some ⟨b_1, 4, none⟩))] ?_
           refine Zn [] 28 [(3, [], pv_ b_2), (31, [], .bool true), (32, [], .pointer (some ⟨b_1, 4, none⟩))] ?_
           obtain ⟨v33, hc, h⟩ := h
           refine Zl 3 32 b_1 4 3 33 hc ?_
           refine Zn [.sure] 30 [(31, [], .bool true), (33, [], .int .i64 v33), (34, [], .pointer (some ⟨b_2, 4, none⟩))] ?_
           obtain ⟨v35, hc, h⟩ := h
           refine Zl 3 34 b_2 4 3 35 hc ?_
           refine Zf [.sure, .plain, .plain] [(4, .bool (v33 == v35))] ?_
           change WpE _ _ c78_6 _ _ _
           refine wpE_ret (by kernel_rfl) ?_
           repeat (first | refine seqQ_ret ?_ | refine blockQ_ret ?_ | refine loopQ_ret ?_ | refine cutQ_ret ?_)
           exact retS (rs := [(ResultVar.tmp 4)]) (v := Value.bool (v33 == v35)) (by kernel_rfl) (⟨by kernel_rfl, trivial⟩) ⟨(v33 == v35), rfl, h⟩
         · replace h := h.2 hb
           refine Zn [] 28 [(3, [], pv_ b_2), (31, [], .bool false), (32, [], undef)] ?_
           refine Zf [.skip, .skip, .skip, .skip, .plain, .plain] [(4, .bool false)] ?_
           change WpE _ _ c78_6 _ _ _
           refine wpE_ret (by kernel_rfl) ?_
           repeat (first | refine seqQ_ret ?_ | refine blockQ_ret ?_ | refine loopQ_ret ?_ | refine cutQ_ret ?_)
           exact retS (rs := [(ResultVar.tmp 4)]) (v := Value.bool false) (by kernel_rfl) (⟨by kernel_rfl, trivial⟩) ⟨false, rfl, h⟩
       · replace h := h.2 hb
         refine Zn [] 21 [(2, [], pv_ b_1), (3, [], pv_ b_2), (24, [], .bool false), (25, [], undef)] ?_
         refine Zf [.skip, .skip, .skip, .skip, .plain, .plain, .skip, .skip, .skip, .skip, .skip, .plain, .plain] [(4, .bool false)] ?_
         change WpE _ _ c78_6 _ _ _
         refine wpE_ret (by kernel_rfl) ?_
         repeat (first | refine seqQ_ret ?_ | refine blockQ_ret ?_ | refine loopQ_ret ?_ | refine cutQ_ret ?_)
         exact retS (rs := [(ResultVar.tmp 4)]) (v := Value.bool false) (by kernel_rfl) (⟨by kernel_rfl, trivial⟩) ⟨false, rfl, h⟩
     · replace h := h.2 hb
       refine Zn [] 14 [(2, [], pv_ b_1), (3, [], pv_ b_2), (17, [], .bool false), (18, [], undef)] ?_
       refine Zf [.skip, .skip, .skip, .skip, .plain, .plain, .skip, .skip, .skip, .skip, .skip, .plain, .plain, .skip, .skip, .skip, .skip, .skip, .plain, .plain] [(4, .bool false)] ?_
       change WpE _ _ c78_6 _ _ _
       refine wpE_ret (by kernel_rfl) ?_
       repeat (first | refine seqQ_ret ?_ | refine blockQ_ret ?_ | refine loopQ_ret ?_ | refine cutQ_ret ?_)
       exact retS (rs := [(ResultVar.tmp 4)]) (v := Value.bool false) (by kernel_rfl) (⟨by kernel_rfl, trivial⟩) ⟨false, rfl, h⟩
   · replace h := h.2 hb
     refine Zn [] 7 [(2, [], pv_ b_1), (3, [], pv_ b_2), (10, [], .bool false), (11, [], undef)] ?_
     refine Zf [.skip, .skip, .skip, .skip, .plain, .plain, .skip, .skip, .skip, .skip, .skip, .plain, .plain, .skip, .skip, .skip, .skip, .skip, .plain, .plain, .skip, .skip, .skip, .skip, .skip, .plain, .plain] [(4, .bool false)] ?_
     change WpE _ _ c78_6 _ _ _
     refine wpE_ret (by kernel_rfl) ?_
     repeat (first | refine seqQ_ret ?_ | refine blockQ_ret ?_ | refine loopQ_ret ?_ | refine cutQ_ret ?_)
     exact retS (rs := [(ResultVar.tmp 4)]) (v := Value.bool false) (by kernel_rfl) (⟨by kernel_rfl, trivial⟩) ⟨false, rfl, h⟩
 · rintro e w' ⟨v, rfl, r0, rfl, h⟩; exact ⟨r0, rfl, h⟩

/-! ### towpath/towpathlaw01.SameHelds (function 79) -/
def c79_0 := cb_ Try.f79
def c79_3 := cr_ c79_0
def c79_4 := cl_ c79_3
def c79_7 := cr_ c79_4
def c79_8 := cl_ c79_7
def c79_11 := cr_ c79_8
def c79_12 := cr_ c79_7
def c79_13 := cr_ c79_3
def c79_14 := cl_ c79_13
def c79_17 := cr_ c79_14
def c79_18 := cl_ c79_17
def c79_19 := cl_ c79_18
def c79_20 := cl_ c79_19
def c79_23 := cr_ c79_20
def c79_24 := cl_ c79_23
def c79_25 := cr_ c79_23
def c79_26 := cr_ c79_19
def c79_27 := cl_ c79_26
def c79_28 := cl_ c79_27
def c79_29 := cl_ c79_28
def r79_29 := co_ c79_29
def c79_31 := cr_ c79_28
def c79_32 := cl_ c79_31
def c79_35 := cr_ c79_32
def c79_36 := cr_ c79_31
def c79_37 := cr_ c79_26
def r79_37 := co_ c79_37
def c79_39 := cr_ c79_13
def c79_42 := cr_ c79_39

theorem S_towpathlaw01_SameHelds {a_ : Slc} {b_ : Slc} {w : World} {R : Bool → World → Prop} (h : F_towpathlaw01_SameHelds a_ b_ R w) : C_towpathlaw01_SameHelds a_ b_ w R := by
 unfold F_towpathlaw01_SameHelds at h
 unfold C_towpathlaw01_SameHelds
 refine Calls.mono (calls_of_wpE (args := [sv_ a_, sv_ b_]) (R := fun v w' => ∃ (r0 : Bool), v = Value.bool r0 ∧ R r0 w') Try.func79 (c := c79_0) (by kernel_rfl) 27 (by kernel_rfl) (by kernel_rfl) [(0, sv_ a_), (1, sv_ b_)] (by kernel_rfl) ?_) ?_
 · refine Zp c79_3 P1 [(0, sv_ a_), (1, sv_ b_)] ?_
   refine Zs c79_4 c79_13 ?_
   refine Zp c79_7 (Pl 5) [(0, sv_ a_), (1, sv_ b_), (10, .bool (((a_.len : Nat) : Int) != ((b_.len : Nat) : Int)))] ?_
   refine Zc 10 (((a_.len : Nat) : Int) != ((b_.len : Nat) : Int)) c79_8 c79_12 (fun hb => ?_) (fun hb => ?_)
   · replace h := h.1 hb
     refine Zp c79_11 P1 [(4, .bool false)] ?_
     refine wpE_ret (by kernel_rfl) ?_
     repeat (first | refine seqQ_ret ?_ | refine blockQ_ret ?_ | refine loopQ_ret ?_ | refine cutQ_ret ?_)
     exact retS (rs := [(ResultVar.tmp 4)]) (v := Value.bool false) (by kernel_rfl) (⟨by kernel_rfl, trivial⟩) ⟨false, rfl, h⟩
   · replace h := h.2 hb
     refine wpE_skip (by kernel_rfl) ?_
     change WpE _ _ c79_13 _ _ _
     refine Zs c79_14 c79_39 ?_
     refine Zp c79_17 P1 [(0, sv_ a_), (1, sv_ b_), (5, .int .i64 0)] ?_
     refine Zb 0 c79_18 ?_
     obtain ⟨I, μ, h0, hr⟩ := h
     refine wpE_loop (x := c79_19) (by kernel_rfl) (fun m l w => ∃ (i : Int), l = [(0, sv_ a_), (1, sv_ b_), (5, Value.int .i64 i)] ∧ I i w ∧ μ i w = m) (l' := [(0, sv_ a_), (1, sv_ b_), (5, Value.int .i64 0)]) (Sub.mk (by kernel_rfl)) ⟨0, rfl, h0, rfl⟩ ?_
     rintro _ _ w1 ⟨i, rfl, hI, rfl⟩
     obtain ⟨again_, again__h, h⟩ : ∃ again_ : Int → World → Prop, (∀ i' w', again_ i' w' → I i' w' ∧ μ i' w' < μ i w1) ∧ F_towpathlaw01_SameHelds_L0 a_ b_ R again_ i w1 := ⟨_, fun _ _ h => h, hr i w1 hI⟩
     clear h0 hI
     unfold F_towpathlaw01_SameHelds_L0 at h
     refine Zs c79_20 c79_26 ?_
     refine Zp c79_23 P4 [(0, sv_ a_), (1, sv_ b_), (5, .int .i64 i), (14, .bool (decide (i < ((a_.len : Nat) : Int))))] ?_
     refine Zc 14 (decide (i < ((a_.len : Nat) : Int))) c79_24 c79_25 (fun hb => ?_) (fun hb => ?_)
     · replace h := h.1 hb
       refine wpE_skip (by kernel_rfl) ?_
       change WpE _ _ c79_26 _ _ _
       refine Zs c79_27 c79_37 ?_
       refine Zb 1 c79_28 ?_
       refine Zs c79_29 c79_31 ?_
       refine wpE_drawregion (id := 6) (ops := r79_29) (by kernel_rfl) (by kernel_rfl) (by kernel_rfl) ?_
       refine qreg_run P2 2 [(0, [], sv_ a_), (1, [], sv_ b_), (5, [], Value.int .i64 i), (17, [], sv_ a_), (18, [], Value.int .i64 i)] (by kernel_rfl) (by kernel_rfl) ?_
       obtain ⟨hp_14, h⟩ := h
       refine qreg_conv [(0, [], sv_ a_), (1, [], sv_ b_), (5, [], Value.int .i64 i), (17, [], Value.slice (some ⟨(pblk a_.ptr), (poff a_.ptr), none⟩) a_.len a_.cap), (18, [], Value.int .i64 i)] (congrArg (fun pp => ([(0, [], sv_ a_), (1, [], sv_ b_), (5, [], Value.int .i64 i), (17, [], Value.slice pp a_.len a_.cap), (18, [], Value.int .i64 i)] : GEnv)) hp_14) ?_
       obtain ⟨h0, h1, h⟩ := h
       refine qreg_indexS (t := 93) (e := 143) (x := (Operand.tmp 17)) (ix := (Operand.tmp 18)) (b := (pblk a_.ptr)) (o := (poff a_.ptr)) (l := a_.len) (c := a_.cap) (k := .i64) (j := i) (ty := 0) (dst := some 19) (sz := 2) (by kernel_rfl) (by kernel_rfl) (by kernel_rfl) (by kernel_rfl) (by kernel_rfl) h0 h1 ?_
       refine qreg_run [] 3 [(0, [], sv_ a_), (1, [], sv_ b_), (5, [], Value.int .i64 i), (19, [], Value.pointer (some ⟨(pblk a_.ptr), (poff a_.ptr) + i.toNat * 2, none⟩))] (by kernel_rfl) (by kernel_rfl) ?_
       obtain ⟨v20, hc, h⟩ := h
       refine qreg_loadN (t := 143) (a := (Operand.tmp 19)) (b := (pblk a_.ptr)) (o := ((poff a_.ptr) + i.toNat * 2)) (ty := 143) (dst := some 20) [Value.string v20.Key, sv_ v20.Versions] (by kernel_rfl) (by kernel_rfl) (by kernel_rfl) (k := 2) (by kernel_rfl) (by kernel_rfl) hc ?_
       refine qreg_run P2 6 [(0, [], sv_ a_), (1, [], sv_ b_), (5, [], Value.int .i64 i), (20, [], Value.agg #[Value.string v20.Key, sv_ v20.Versions]), (21, [], sv_ b_), (22, [], Value.int .i64 i)] (by kernel_rfl) (by kernel_rfl) ?_
       obtain ⟨hp_15, h⟩ := h
       refine qreg_conv [(0, [], sv_ a_), (1, [], sv_ b_), (5, [], Value.int .i64 i), (20, [], Value.agg #[Value.string v20.Key, sv_ v20.Versions]), (21, [], Value.slice (some ⟨(pblk b_.ptr), (poff b_.ptr), none⟩) b_.len b_.cap), (22, [], Value.int .i64 i)] (congrArg (fun pp => ([(0, [], sv_ a_), (1, [], sv_ b_), (5, [], Value.int .i64 i), (20, [], Value.agg #[Value.string v20.Key, sv_ v20.Versions]), (21, [], Value.slice pp b_.len b_.cap), (22, [], Value.int .i64 i)] : GEnv)) hp_15) ?_
       obtain ⟨h0, h1, h⟩ := h
       refine qreg_indexS (t := 93) (e := 143) (x := (Operand.tmp 21)) (ix := (Operand.tmp 22)) (b := (pblk b_.ptr)) (o := (poff b_.ptr)) (l := b_.len) (c := b_.cap) (k := .i64) (j := i) (ty := 0) (dst := some 23) (sz := 2) (by kernel_rfl) (by kernel_rfl) (by kernel_rfl) (by kernel_rfl) (by kernel_rfl) h0 h1 ?_
       refine qreg_run [] 7 [(0, [], sv_ a_), (1, [], sv_ b_), (5, [], Value.int .i64 i), (20, [], Value.agg #[Value.string v20.Key, sv_ v20.Versions]), (23, [], Value.pointer (some ⟨(pblk b_.ptr), (poff b_.ptr) + i.toNat * 2, none⟩))] (by kernel_rfl) (by kernel_rfl) ?_
       obtain ⟨v24, hc, h⟩ := h
       refine qreg_loadN (t := 143) (a := (Operand.tmp 23)) (b := (pblk b_.ptr)) (o := ((poff b_.ptr) + i.toNat * 2)) (ty := 143) (dst := some 24) [Value.string v24.Key, sv_ v24.Versions] (by kernel_rfl) (by kernel_rfl) (by kernel_rfl) (k := 2) (by kernel_rfl) (by kernel_rfl) hc ?_
       refine qreg_run [] 8 [(0, [], sv_ a_), (1, [], sv_ b_), (5, [], Value.int .i64 i), (20, [], Value.agg #[Value.string v20.Key, sv_ v20.Versions]), (24, [], Value.agg #[Value.string v24.Key, sv_ v24.Versions])] (by kernel_rfl) (by kernel_rfl) ?_
       obtain ⟨v25, hq, h⟩ := h
       refine qreg_enter (op := (Op.call (Call.mk (Callee.value (Operand.func 107)) #[(Operand.tmp 20), (Operand.tmp 24)] #[143, 143]))) (ty := 4) (dst := some 25) 107 #[Value.agg #[Value.string v20.Key, sv_ v20.Versions], Value.agg #[Value.string v24.Key, sv_ v24.Versions]] (Value.bool v25) (by kernel_rfl) (fun ww => by kernel_rfl) (fun w' he => Calls.mono (hq w' he) (by rintro _ w'' ⟨_, rfl, rfl, hE⟩; exact ⟨rfl, hE⟩)) ?_
       clear hq
       refine qreg_run P1 10 [(0, [], sv_ a_), (1, [], sv_ b_), (5, [], Value.int .i64 i), (26, [], Value.bool (!v25))] (by kernel_rfl) (by kernel_rfl) ?_
       refine qreg_end [(0, sv_ a_), (1, sv_ b_), (5, Value.int .i64 i), (26, Value.bool (!v25))] (by kernel_rfl) (by kernel_rfl) (fun w3 hw => ?_)
       replace h := h w3 hw
       clear hw
       change WpE _ _ c79_31 _ _ _
       refine Zc 26 (!v25) c79_32 c79_36 (fun hb => ?_) (fun hb => ?_)
       · replace h := h.1 hb
         refine Zp c79_35 P1 [(4, .bool false)] ?_
         refine wpE_ret (by kernel_rfl) ?_
         repeat (first | refine seqQ_ret ?_ | refine blockQ_ret ?_ | refine loopQ_ret ?_ | refine cutQ_ret ?_)
         exact retS (rs := [(ResultVar.tmp 4)]) (v := Value.bool false) (by kernel_rfl) (⟨by kernel_rfl, trivial⟩) ⟨false, rfl, h⟩
       · replace h := h.2 hb
         refine wpE_skip (by kernel_rfl) ?_
         change WpE _ _ c79_37 _ _ _
         refine Zr r79_37 ?_
         refine Zf P3 [(0, sv_ a_), (1, sv_ b_), (5, .int .i64 (IntKind.i64.wrap (i + 1)))] ?_
         have hb_ := again__h _ _ h
         exact ⟨_, hb_.2, [(0, sv_ a_), (1, sv_ b_), (5, Value.int .i64 (IntKind.i64.wrap (i + 1)))], Sub.mk (by kernel_rfl), (IntKind.i64.wrap (i + 1)), rfl, hb_.1, rfl⟩
     · replace h := h.2 hb
       refine wpE_exit (id := 0) (by kernel_rfl) ?_
       change WpE _ _ c79_39 _ _ _
       refine Zp c79_42 P1 [(4, .bool true)] ?_
       refine wpE_ret (by kernel_rfl) ?_
       repeat (first | refine seqQ_ret ?_ | refine blockQ_ret ?_ | refine loopQ_ret ?_ | refine cutQ_ret ?_)
       exact retS (rs := [(ResultVar.tmp 4)]) (v := Value.bool true) (by kernel_rfl) (⟨by kernel_rfl, trivial⟩) ⟨true, rfl, h⟩
 · rintro e w' ⟨v, rfl, r0, rfl, h⟩; exact ⟨r0, rfl, h⟩
end
end Go.Proofs.Ytpedclhflmhakaa
