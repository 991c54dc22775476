/- WRITTEN BY PROGRAM (dec.py): for each Go function the clean formula F, the call's contract C, and the proof S that F gives C. -/
import Derived.Test.YtpdegdnigcnjiaaGreatDoorRows
import Derived.Test.YtpdegdnigcnjiaaGreatDoorGF
namespace Go.Proofs.YtpdegdnigcnjiaaGreatDoor
open Go
set_option linter.unusedVariables false
set_option maxRecDepth 100000
set_option maxHeartbeats 4000000
noncomputable section

/-! ### towpath/towpathref05.Check (function 123) -/
def c123_0 := cb_ Tryz.f123
def c123_1 := cl_ c123_0
def r123_1 := co_ c123_1
def c123_3 := cr_ c123_0
def c123_4 := cl_ c123_3
def c123_5 := cl_ c123_4
def r123_5 := co_ c123_5
def c123_7 := cr_ c123_4
def c123_8 := cl_ c123_7
def c123_11 := cr_ c123_8
def c123_12 := cr_ c123_7
def c123_13 := cr_ c123_3
def c123_14 := cl_ c123_13
def c123_17 := cr_ c123_14
def c123_18 := cl_ c123_17
def c123_19 := cl_ c123_18
def c123_20 := cl_ c123_19
def c123_21 := cl_ c123_20
def r123_21 := co_ c123_21
def c123_23 := cr_ c123_20
def c123_24 := cl_ c123_23
def c123_25 := cr_ c123_23
def c123_26 := cr_ c123_19
def c123_27 := cl_ c123_26
def c123_28 := cl_ c123_27
def c123_29 := cl_ c123_28
def r123_29 := co_ c123_29
def c123_31 := cr_ c123_28
def c123_32 := cl_ c123_31
def c123_35 := cr_ c123_32
def c123_36 := cr_ c123_31
def c123_37 := cr_ c123_26
def r123_37 := co_ c123_37
def c123_39 := cr_ c123_13
def c123_42 := cr_ c123_39

theorem S_towpathref05_Check {t_ : T_api_Txn} {w : World} {R : Int → World → Prop} (h : F_towpathref05_Check t_ R w) : C_towpathref05_Check t_ w R := by
 unfold F_towpathref05_Check at h
 unfold C_towpathref05_Check
 refine Calls.mono (calls_of_wpE (args := [Value.agg #[Value.int .i64 t_.Number, sv_ t_.Writes]]) (R := fun v w' => ∃ (r0 : Int), v = Value.int .i64 r0 ∧ R r0 w') Tryz.func123 (c := c123_0) (by kernel_rfl) 28 (by kernel_rfl) (by kernel_rfl) [(0, Value.agg #[Value.int .i64 t_.Number, sv_ t_.Writes])] (by kernel_rfl) ?_) ?_
 · refine Zt r123_1 c123_3 ?_
   refine Zn [] 0 [(0, [], .agg #[.int .i64 t_.Number, sv_ t_.Writes])] ?_
   refine Zw (some 1) (fun bb => pv_ bb) (Obj.cells ([.int .i64 t_.Number, sv_ t_.Writes]).toArray ty_api_Txn (0, 0)) (fun b_ w1 hb hw => ?_)
   replace h := h b_ w1 hb hw
   clear hb hw
   refine Zf P1 [(1, pv_ b_)] ?_
   change WpE _ _ c123_3 _ _ _
   refine Zs c123_4 c123_13 ?_
   refine wpE_seq_cut (x := c123_5) (y := c123_7) (by kernel_rfl) (fun l w => ∃ (t13 : Bool), l = [(1, pv_ b_), (13, Value.bool t13)] ∧ F_towpathref05_Check_k0 R b_ t13 w) ?_ ?_
   · refine Zr r123_5 ?_
     refine Zn P1 1 [(1, [], pv_ b_), (4, [], pv_ b_)] ?_
     obtain ⟨v5, hc, h⟩ := h
     refine Zl 3 4 b_ 0 3 5 hc ?_
     refine Zn [] 2 [(1, [], pv_ b_), (5, [], .int .i64 v5)] ?_
     refine Zm 184 #[.int .i64 v5] (some 6) (Calls.mono h ?_)
     rintro _ w5 ⟨v6, rfl, h⟩
     refine ⟨_, rfl, ?_⟩
     refine Zn P3 6 [(1, [], pv_ b_), (8, [], .bool (!v6)), (9, [(8, false)], .pointer (some ⟨b_, 1, none⟩))] ?_
     refine reg_split 8 (!v6) (by kernel_rfl) (fun hb => ?_) (fun hb => ?_)
     · replace h := h.1 hb
       refine Zn [] 6 [(1, [], pv_ b_), (8, [], .bool true), (9, [], undef)] ?_
       refine Zf [.skip, .skip, .skip, .plain] [(1, pv_ b_), (13, .bool true)] ?_
       exact ⟨[(1, pv_ b_), (13, Value.bool true)], Sub.mk (by kernel_rfl), true, rfl, h⟩
     · replace h := h.2 hb
       refine Zn [] 6 [(1, [], pv_ b_), (8, [], .bool false), (9, [], .pointer (some ⟨b_, 1, none⟩))] ?_
       refine Zn [] 6 [(1, [], pv_ b_), (8, [], .bool false), (9, [], .pointer (some ⟨b_, 1, none⟩))] ?_
       obtain ⟨v10, hc, h⟩ := h
       refine Zl 50 9 b_ 1 50 10 hc ?_
       refine Zf [.sure, .sure, .plain] [(1, pv_ b_), (13, .bool (decide (((v10.len : Nat) : Int) > 32)))] ?_
       exact ⟨[(1, pv_ b_), (13, Value.bool (decide (((v10.len : Nat) : Int) > 32)))], Sub.mk (by kernel_rfl), (decide (((v10.len : Nat) : Int) > 32)), rfl, h⟩
   · rintro _ w2 ⟨t13, rfl, h⟩
     unfold F_towpathref05_Check_k0 at h
     refine Zc 13 t13 c123_8 c123_12 (fun hb => ?_) (fun hb => ?_)
     · replace h := h.1 hb
       refine Zp c123_11 P1 [(2, .int .i64 1)] ?_
       refine wpE_ret (by kernel_rfl) ?_
       repeat (first | refine seqQ_ret ?_ | refine blockQ_ret ?_ | refine loopQ_ret ?_ | refine cutQ_ret ?_)
       exact retS (rs := [(ResultVar.tmp 2)]) (v := Value.int .i64 1) (by kernel_rfl) (⟨by kernel_rfl, trivial⟩) ⟨1, rfl, h⟩
     · replace h := h.2 hb
       refine wpE_skip (by kernel_rfl) ?_
       change WpE _ _ c123_13 _ _ _
       refine Zs c123_14 c123_39 ?_
       refine Zp c123_17 P1 [(1, pv_ b_), (3, .int .i64 0)] ?_
       refine Zb 0 c123_18 ?_
       obtain ⟨I, μ, h0, hr⟩ := h
       refine wpE_loop (x := c123_19) (by kernel_rfl) (fun m l w => ∃ (i : Int), l = [(1, pv_ b_), (3, Value.int .i64 i)] ∧ I i w ∧ μ i w = m) (l' := [(1, pv_ b_), (3, Value.int .i64 0)]) (Sub.mk (by kernel_rfl)) ⟨0, rfl, h0, rfl⟩ ?_
       rintro _ _ w3 ⟨i, rfl, hI, rfl⟩
       obtain ⟨again_, again__h, h⟩ : ∃ again_ : Int → World → Prop, (∀ i' w', again_ i' w' → I i' w' ∧ μ i' w' < μ i w3) ∧ F_towpathref05_Check_L1 R b_ again_ i w3 := ⟨_, fun _ _ h => h, hr i w3 hI⟩
       clear h0 hI
       unfold F_towpathref05_Check_L1 at h
       refine Zs c123_20 c123_26 ?_
       refine Zt r123_21 c123_23 ?_
       refine Zn P2 2 [(1, [], pv_ b_), (3, [], .int .i64 i), (14, [], .int .i64 i), (15, [], .pointer (some ⟨b_, 1, none⟩))] ?_
       obtain ⟨v16, hc, h⟩ := h
       refine Zl 50 15 b_ 1 50 16 hc ?_
       refine Zf P2 [(1, pv_ b_), (3, .int .i64 i), (18, .bool (decide (i < ((v16.len : Nat) : Int))))] ?_
       change WpE _ _ c123_23 _ _ _
       refine Zc 18 (decide (i < ((v16.len : Nat) : Int))) c123_24 c123_25 (fun hb => ?_) (fun hb => ?_)
       · replace h := h.1 hb
         refine wpE_skip (by kernel_rfl) ?_
         change WpE _ _ c123_26 _ _ _
         refine Zs c123_27 c123_37 ?_
         refine Zb 1 c123_28 ?_
         refine Zt r123_29 c123_31 ?_
         refine Zn P1 1 [(1, [], pv_ b_), (3, [], .int .i64 i), (21, [], .pointer (some ⟨b_, 1, none⟩))] ?_
         obtain ⟨v22, hc, h⟩ := h
         refine Zl 50 21 b_ 1 50 22 hc ?_
         refine Zn P1 3 [(1, [], pv_ b_), (3, [], .int .i64 i), (22, [], sv_ v22), (23, [], .int .i64 i)] ?_
         obtain ⟨hp_7, h⟩ := h
         refine Zv (fun pp => [(1, [], pv_ b_), (3, [], .int .i64 i), (22, [], .slice pp v22.len v22.cap), (23, [], .int .i64 i)]) hp_7 ?_
         obtain ⟨h0, h1, h⟩ := h
         refine Zj 50 139 22 23 (pblk v22.ptr) (poff v22.ptr) v22.len v22.cap i 3 24 0 h0 h1 ?_
         refine Zn [] 4 [(1, [], pv_ b_), (3, [], .int .i64 i), (24, [], .pointer (some ⟨(pblk v22.ptr), (poff v22.ptr) + i.toNat * 3, none⟩))] ?_
         obtain ⟨v25, hc, h⟩ := h
         refine reg_loadN (t := 139) (a := (Operand.tmp 24)) (b := (pblk v22.ptr)) (o := ((poff v22.ptr) + i.toNat * 3)) (ty := 139) (dst := some 25) [Value.string v25.Key, Value.string v25.Val, Value.bool v25.Drop] (by kernel_rfl) (by kernel_rfl) (by kernel_rfl) (k := 3) (by kernel_rfl) (by kernel_rfl) hc ?_
         refine Zn [] 5 [(1, [], pv_ b_), (3, [], .int .i64 i), (25, [], .agg #[.string v25.Key, .string v25.Val, .bool v25.Drop])] ?_
         refine Zm 185 #[.agg #[.string v25.Key, .string v25.Val, .bool v25.Drop]] (some 26) (Calls.mono h ?_)
         rintro _ w4 ⟨v26, rfl, h⟩
         refine ⟨_, rfl, ?_⟩
         refine Zf P1 [(1, pv_ b_), (3, .int .i64 i), (27, .bool (!v26))] ?_
         change WpE _ _ c123_31 _ _ _
         refine Zc 27 (!v26) c123_32 c123_36 (fun hb => ?_) (fun hb => ?_)
         · replace h := h.1 hb
           refine Zp c123_35 P1 [(2, .int .i64 1)] ?_
           refine wpE_ret (by kernel_rfl) ?_
           repeat (first | refine seqQ_ret ?_ | refine blockQ_ret ?_ | refine loopQ_ret ?_ | refine cutQ_ret ?_)
           exact retS (rs := [(ResultVar.tmp 2)]) (v := Value.int .i64 1) (by kernel_rfl) (⟨by kernel_rfl, trivial⟩) ⟨1, rfl, h⟩
         · replace h := h.2 hb
           refine wpE_skip (by kernel_rfl) ?_
           change WpE _ _ c123_37 _ _ _
           refine Zr r123_37 ?_
           refine Zf P3 [(1, pv_ b_), (3, .int .i64 (IntKind.i64.wrap (i + 1)))] ?_
           have hb_ := again__h _ _ h
           exact ⟨_, hb_.2, [(1, pv_ b_), (3, Value.int .i64 (IntKind.i64.wrap (i + 1)))], Sub.mk (by kernel_rfl), (IntKind.i64.wrap (i + 1)), rfl, hb_.1, rfl⟩
       · replace h := h.2 hb
         refine wpE_exit (id := 0) (by kernel_rfl) ?_
         change WpE _ _ c123_39 _ _ _
         refine Zp c123_42 P1 [(2, .int .i64 0)] ?_
         refine wpE_ret (by kernel_rfl) ?_
         repeat (first | refine seqQ_ret ?_ | refine blockQ_ret ?_ | refine loopQ_ret ?_ | refine cutQ_ret ?_)
         exact retS (rs := [(ResultVar.tmp 2)]) (v := Value.int .i64 0) (by kernel_rfl) (⟨by kernel_rfl, trivial⟩) ⟨0, rfl, h⟩
 · rintro e w' ⟨v, rfl, r0, rfl, h⟩; exact ⟨r0, rfl, h⟩

/-! ### towpath/towpathref05.Key (function 157) -/
def c157_0 := cb_ Tryz.f157
def c157_3 := cr_ c157_0
def c157_6 := cr_ c157_3

theorem S_towpathref05_Key {s : ByteArray} {w : World} {R : Bool → World → Prop} (h : F_towpathref05_Key s R w) : C_towpathref05_Key s w R := by
 unfold F_towpathref05_Key at h
 unfold C_towpathref05_Key
 refine Calls.mono (calls_of_wpE (args := [Value.string s]) (R := fun v w' => ∃ (r0 : Bool), v = Value.bool r0 ∧ R r0 w') Tryz.func157 (c := c157_0) (by kernel_rfl) 11 (by kernel_rfl) (by kernel_rfl) [(0, Value.string s)] (by kernel_rfl) ?_) ?_
 · refine Zp c157_3 P1 [(0, .string s)] ?_
   refine Zp c157_6 [.plain, .plain, .plain, .plain, .plain, .plain, .plain, .pick, .plain] [(2, .bool ((decide (((s.size : Nat) : Int) ≥ 1)) && (decide (((s.size : Nat) : Int) ≤ 64))))] ?_
   refine wpE_ret (by kernel_rfl) ?_
   repeat (first | refine seqQ_ret ?_ | refine blockQ_ret ?_ | refine loopQ_ret ?_ | refine cutQ_ret ?_)
   exact retS (rs := [(ResultVar.tmp 2)]) (v := Value.bool ((decide (((s.size : Nat) : Int) ≥ 1)) && (decide (((s.size : Nat) : Int) ≤ 64)))) (by kernel_rfl) (⟨by kernel_rfl, trivial⟩) ⟨((decide (((s.size : Nat) : Int) ≥ 1)) && (decide (((s.size : Nat) : Int) ≤ 64))), rfl, h⟩
 · rintro e w' ⟨v, rfl, r0, rfl, h⟩; exact ⟨r0, rfl, h⟩

/-! ### towpath/towpathref05.Number (function 184) -/
def c184_0 := cb_ Tryz.f184
def c184_3 := cr_ c184_0
def c184_6 := cr_ c184_3

theorem S_towpathref05_Number {n_ : Int} {w : World} {R : Bool → World → Prop} (h : F_towpathref05_Number n_ R w) : C_towpathref05_Number n_ w R := by
 unfold F_towpathref05_Number at h
 unfold C_towpathref05_Number
 refine Calls.mono (calls_of_wpE (args := [Value.int .i64 n_]) (R := fun v w' => ∃ (r0 : Bool), v = Value.bool r0 ∧ R r0 w') Tryz.func184 (c := c184_0) (by kernel_rfl) 9 (by kernel_rfl) (by kernel_rfl) [(0, Value.int .i64 n_)] (by kernel_rfl) ?_) ?_
 · refine Zp c184_3 P1 [(0, .int .i64 n_)] ?_
   refine Zp c184_6 [.plain, .plain, .plain, .plain, .plain, .pick, .plain] [(2, .bool ((decide (n_ ≥ 1)) && (decide (n_ ≤ 65536))))] ?_
   refine wpE_ret (by kernel_rfl) ?_
   repeat (first | refine seqQ_ret ?_ | refine blockQ_ret ?_ | refine loopQ_ret ?_ | refine cutQ_ret ?_)
   exact retS (rs := [(ResultVar.tmp 2)]) (v := Value.bool ((decide (n_ ≥ 1)) && (decide (n_ ≤ 65536)))) (by kernel_rfl) (⟨by kernel_rfl, trivial⟩) ⟨((decide (n_ ≥ 1)) && (decide (n_ ≤ 65536))), rfl, h⟩
 · rintro e w' ⟨v, rfl, r0, rfl, h⟩; exact ⟨r0, rfl, h⟩

/-! ### towpath/towpathref05.Write (function 185) -/
def c185_0 := cb_ Tryz.f185
def c185_1 := cl_ c185_0
def r185_1 := co_ c185_1
def c185_3 := cr_ c185_0
def c185_4 := cl_ c185_3
def r185_4 := co_ c185_4
def c185_6 := cr_ c185_3

theorem S_towpathref05_Write {w_ : T_api_Write} {w : World} {R : Bool → World → Prop} (h : F_towpathref05_Write w_ R w) : C_towpathref05_Write w_ w R := by
 unfold F_towpathref05_Write at h
 unfold C_towpathref05_Write
 refine Calls.mono (calls_of_wpE (args := [Value.agg #[Value.string w_.Key, Value.string w_.Val, Value.bool w_.Drop]]) (R := fun v w' => ∃ (r0 : Bool), v = Value.bool r0 ∧ R r0 w') Tryz.func185 (c := c185_0) (by kernel_rfl) 22 (by kernel_rfl) (by kernel_rfl) [(0, Value.agg #[Value.string w_.Key, Value.string w_.Val, Value.bool w_.Drop])] (by kernel_rfl) ?_) ?_
 · refine Zt r185_1 c185_3 ?_
   refine Zn [] 0 [(0, [], .agg #[.string w_.Key, .string w_.Val, .bool w_.Drop])] ?_
   refine Zw (some 1) (fun bb => pv_ bb) (Obj.cells ([.string w_.Key, .string w_.Val, .bool w_.Drop]).toArray ty_api_Write (0, 0)) (fun b_ w1 hb hw => ?_)
   replace h := h b_ w1 hb hw
   clear hb hw
   refine Zf P1 [(1, pv_ b_)] ?_
   change WpE _ _ c185_3 _ _ _
   refine Zt r185_4 c185_6 ?_
   refine Zn P1 1 [(1, [], pv_ b_), (3, [], pv_ b_)] ?_
   obtain ⟨v4, hc, h⟩ := h
   refine Zl 9 3 b_ 0 9 4 hc ?_
   refine Zn [] 2 [(1, [], pv_ b_), (4, [], .string v4)] ?_
   refine Zm 157 #[.string v4] (some 5) (Calls.mono h ?_)
   rintro _ w2 ⟨v5, rfl, h⟩
   refine ⟨_, rfl, ?_⟩
   refine Zn P2 5 [(1, [], pv_ b_), (6, [], .bool v5), (7, [(6, true)], .pointer (some ⟨b_, 1, none⟩))] ?_
   refine reg_split 6 v5 (by kernel_rfl) (fun hb => ?_) (fun hb => ?_)
   · replace h := h.1 hb
     refine Zn [] 5 [(1, [], pv_ b_), (6, [], .bool true), (7, [], .pointer (some ⟨b_, 1, none⟩))] ?_
     refine Zn [] 5 [(1, [], pv_ b_), (6, [], .bool true), (7, [], .pointer (some ⟨b_, 1, none⟩))] ?_
     obtain ⟨v8, hc, h⟩ := h
     refine Zl 9 7 b_ 1 9 8 hc ?_
     refine Zn [] 6 [(1, [], pv_ b_), (6, [], .bool true), (8, [], .string v8)] ?_
     refine Zm 206 #[.string v8] (some 9) (Calls.mono h ?_)
     rintro _ w3 ⟨v9, rfl, h⟩
     refine ⟨_, rfl, ?_⟩
     refine Zn P3 10 [(1, [], pv_ b_), (11, [], .bool v9), (12, [(11, true)], .pointer (some ⟨b_, 2, none⟩))] ?_
     refine reg_split 11 v9 (by kernel_rfl) (fun hb => ?_) (fun hb => ?_)
     · replace h := h.1 hb
       refine Zn [] 10 [(1, [], pv_ b_), (11, [], .bool true), (12, [], .pointer (some ⟨b_, 2, none⟩))] ?_
       refine Zn [] 10 [(1, [], pv_ b_), (11, [], .bool true), (12, [], .pointer (some ⟨b_, 2, none⟩))] ?_
       obtain ⟨v13, hc, h⟩ := h
       refine Zl 4 12 b_ 2 4 13 hc ?_
       refine Zn [.sure, .sure, .plain] 14 [(11, [], .bool true), (15, [], .bool (!v13)), (16, [(15, false)], .pointer (some ⟨b_, 1, none⟩))] ?_
       refine reg_split 15 (!v13) (by kernel_rfl) (fun hb => ?_) (fun hb => ?_)
       · replace h := h.1 hb
         refine Zn [] 14 [(11, [], .bool true), (15, [], .bool true), (16, [], undef)] ?_
         refine Zf [.skip, .skip, .skip, .sure, .plain, .plain] [(2, .bool true)] ?_
         change WpE _ _ c185_6 _ _ _
         refine wpE_ret (by kernel_rfl) ?_
         repeat (first | refine seqQ_ret ?_ | refine blockQ_ret ?_ | refine loopQ_ret ?_ | refine cutQ_ret ?_)
         exact retS (rs := [(ResultVar.tmp 2)]) (v := Value.bool true) (by kernel_rfl) (⟨by kernel_rfl, trivial⟩) ⟨true, rfl, h⟩
       · replace h := h.2 hb
         refine Zn [] 14 [(11, [], .bool true), (15, [], .bool false), (16, [], .pointer (some ⟨b_, 1, none⟩))] ?_
         refine Zn [] 14 [(11, [], .bool true), (15, [], .bool false), (16, [], .pointer (some ⟨b_, 1, none⟩))] ?_
         obtain ⟨v17, hc, h⟩ := h
         refine Zl 9 16 b_ 1 9 17 hc ?_
         refine Zf [.sure, .sure, .sure, .plain, .plain] [(2, .bool (((v17.size : Nat) : Int) == 0))] ?_
         change WpE _ _ c185_6 _ _ _
         refine wpE_ret (by kernel_rfl) ?_
         repeat (first | refine seqQ_ret ?_ | refine blockQ_ret ?_ | refine loopQ_ret ?_ | refine cutQ_ret ?_)
         exact retS (rs := [(ResultVar.tmp 2)]) (v := Value.bool (((v17.size : Nat) : Int) == 0)) (by kernel_rfl) (⟨by kernel_rfl, trivial⟩) ⟨(((v17.size : Nat) : Int) == 0), rfl, h⟩
     · replace h := h.2 hb
       refine Zn [] 10 [(1, [], pv_ b_), (11, [], .bool false), (12, [], undef)] ?_
       refine Zf [.skip, .skip, .skip, .skip, .skip, .skip, .skip, .skip, .plain, .plain] [(2, .bool false)] ?_
       change WpE _ _ c185_6 _ _ _
       refine wpE_ret (by kernel_rfl) ?_
       repeat (first | refine seqQ_ret ?_ | refine blockQ_ret ?_ | refine loopQ_ret ?_ | refine cutQ_ret ?_)
       exact retS (rs := [(ResultVar.tmp 2)]) (v := Value.bool false) (by kernel_rfl) (⟨by kernel_rfl, trivial⟩) ⟨false, rfl, h⟩
   · replace h := h.2 hb
     refine Zn [] 5 [(1, [], pv_ b_), (6, [], .bool false), (7, [], undef)] ?_
     refine Zf [.skip, .skip, .plain, .plain, .skip, .skip, .skip, .skip, .skip, .skip, .skip, .skip, .skip, .plain, .plain] [(2, .bool false)] ?_
     change WpE _ _ c185_6 _ _ _
     refine wpE_ret (by kernel_rfl) ?_
     repeat (first | refine seqQ_ret ?_ | refine blockQ_ret ?_ | refine loopQ_ret ?_ | refine cutQ_ret ?_)
     exact retS (rs := [(ResultVar.tmp 2)]) (v := Value.bool false) (by kernel_rfl) (⟨by kernel_rfl, trivial⟩) ⟨false, rfl, h⟩
 · rintro e w' ⟨v, rfl, r0, rfl, h⟩; exact ⟨r0, rfl, h⟩

/-! ### towpath/towpathref05.Val (function 206) -/
def c206_0 := cb_ Tryz.f206
def c206_3 := cr_ c206_0
def c206_6 := cr_ c206_3

theorem S_towpathref05_Val {s : ByteArray} {w : World} {R : Bool → World → Prop} (h : F_towpathref05_Val s R w) : C_towpathref05_Val s w R := by
 unfold F_towpathref05_Val at h
 unfold C_towpathref05_Val
 refine Calls.mono (calls_of_wpE (args := [Value.string s]) (R := fun v w' => ∃ (r0 : Bool), v = Value.bool r0 ∧ R r0 w') Tryz.func206 (c := c206_0) (by kernel_rfl) 6 (by kernel_rfl) (by kernel_rfl) [(0, Value.string s)] (by kernel_rfl) ?_) ?_
 · refine Zp c206_3 P1 [(0, .string s)] ?_
   refine Zp c206_6 P4 [(2, .bool (decide (((s.size : Nat) : Int) ≤ 1024)))] ?_
   refine wpE_ret (by kernel_rfl) ?_
   repeat (first | refine seqQ_ret ?_ | refine blockQ_ret ?_ | refine loopQ_ret ?_ | refine cutQ_ret ?_)
   exact retS (rs := [(ResultVar.tmp 2)]) (v := Value.bool (decide (((s.size : Nat) : Int) ≤ 1024))) (by kernel_rfl) (⟨by kernel_rfl, trivial⟩) ⟨(decide (((s.size : Nat) : Int) ≤ 1024)), rfl, h⟩
 · rintro e w' ⟨v, rfl, r0, rfl, h⟩; exact ⟨r0, rfl, h⟩
end
end Go.Proofs.YtpdegdnigcnjiaaGreatDoor
